import PyProof.Rows.All
import Wide.All
import OpenK.AllK
import Wide.FinOn
import HandS.ForMost
import HandS.Codes
import HandS.IsInst
import HandS.SortInts
import HandS.Zip
import HandS.NoneIn
import HandS.Wide
import HandS.Walk
import HandS.Style
import KE.DataMinMax
import KE.SortData
import HandS.ReplaceLit
import HandS.Deep
import KE.GoesMore
import KE.GoesZip
import HandS.Conv
import KE.GoesEnum
import KE.KDictZip
import KE.SortKeyHeap
import HandS.Lambda
import HandS.CallRecv
import PyProof.Rows.SeqMore
import HandS.SetKeys
import HandS.Replace
import HandS.Ends
import HandS.EndTab
import HandS.Strs
import HandS.SetFor
import KE.KDictCopyH
import HandS.Dict
import PyProof.WalkInts
import PyProof.StrOps
import HandS.ListItems
import HandS.TupMul
import HandS.TupAny
import HandS.More
import HandS.OwnEq
import HandS.TryMany
import HandS.ExcInit
import HandS.ExcField
import HandS.ExcOwn
import HandS.WordsExc
import PySem.Challenge.RW_wordfolds_k78_signatures_of_words
import KE.KNestM
import HandS.ExcIs
set_option Elab.async false
set_option linter.all false
set_option maxRecDepth 100000
set_option maxHeartbeats 4000000
/-! My rules beside the layer's: list(text), text * int, set(list of ints), len(set). -/
namespace My
open PySem PySem.Spec PyProof.Rows L2 SX

theorem sz {n : Nat} (h : n ≤ 100000) : n ≤ sizeLine := Nat.le_trans h (by decide)
theorem szlt {n : Nat} (h : n < 100000) : n < sizeLine := Nat.lt_of_lt_of_le h (by decide)

/-- the one-sign texts of a word -/
def signs (l : List Nat) : List V := l.map fun c => V.str (S [c])

section
variable {X : Cx}
/-- list(text) -/
def rListS : List V → Hp → VK → Prop := fun xs H Q => ∃ l : List Nat, xs = [.str (S l)] ∧ l.length ≤ 100000 ∧ ∀ p, H p = none → Q (.ref p) (upd H p (.lst (signs l)))
theorem vals_items {l : List Nat} : ∀ {acc : Array Value}, ItemsOf (SignAt (S l)) acc l.length → Vals (signs l) acc.toList := by
  intro acc h
  obtain ⟨h1, h2⟩ := h
  have go : ∀ (m : List Nat) (us : List Value), us.length = m.length → (∀ (j : Nat) (v : Value), us[j]? = some v → ∃ (c : Nat) (u : Tok), m[j]? = some c ∧ v = Value.str ⟨#[c]⟩ u) → Vals (signs m) us := by
    intro m
    induction m with
    | nil =>
      intro us hl _
      cases us with
      | nil => exact .nil
      | cons a r => simp at hl
    | cons c m ih =>
      intro us hl hv
      cases us with
      | nil => simp at hl
      | cons a r =>
        obtain ⟨c', u, e1, e2⟩ := hv 0 a rfl
        have e3 : c = c' := Option.some.inj e1
        subst e3
        refine .cons ⟨u, e2⟩ (ih r (by simpa using hl) fun j v e => ?_)
        obtain ⟨c2, u2, e4, e5⟩ := hv (j + 1) v (by simpa using e)
        exact ⟨c2, u2, by simpa using e4, e5⟩
  refine go l acc.toList (by simpa using h1) fun j v e => ?_
  obtain ⟨c, u, e1, e2⟩ := h2 j v (by simpa using e)
  exact ⟨c, u, by simpa using e1, e2⟩
theorem call_listS (hc : X.calm = true) : CallR X (.type "list") rListS := by
  intro pins s σ H xs us Q I r h
  obtain ⟨l, rfl, hl, q⟩ := h
  obtain ⟨u, rfl, rx⟩ := vals1 r
  obtain ⟨t, rfl⟩ := rx
  have hsz : (S l).cps.size = l.length := by simp
  refine call_list_str (I.ok.hd hc) (S l) t (fun h' tk acc c kp e hi => ?_) (by rw [hsz]; exact sz hl)
  rw [hsz] at hi
  have hv := vals_items hi
  refine ⟨.ref s.heap.objs.size, _, I.laid (t' := tk) kp (Nat.le_refl _) (show ObjOk X.prog X.w _ h' _ (.lst (signs l)) from ⟨?_, acc.toList, c, hv, by simpa using e⟩), rfl, q _ (I.hok.fresh (Nat.le_refl _))⟩
  show (l.map _).length ≤ sizeLine
  rw [List.length_map]
  exact sz hl

/-- text * int -/
def repL (l : List Nat) : Nat → List Nat
  | 0 => []
  | n + 1 => l ++ repL l n
theorem repL_len (l : List Nat) : ∀ n, (repL l n).length = n * l.length
  | 0 => by simp [repL]
  | n + 1 => by simp [repL, repL_len l n, Nat.succ_mul, Nat.add_comm]
theorem fold_rep (l : List Nat) : ∀ (n : Nat) (acc : Array Nat), ((List.replicate n l.toArray).foldl (· ++ ·) acc).toList = acc.toList ++ repL l n
  | 0, acc => by simp [repL]
  | n + 1, acc => by
    rw [List.replicate_succ, List.foldl_cons, fold_rep l n]
    simp [repL]
theorem repL_one (l : List Nat) : repL l 1 = l := by simp [repL]
theorem repL_nil : ∀ n, repL [] n = []
  | 0 => rfl
  | n + 1 => by simp [repL, repL_nil n]
theorem mul_S (l : List Nat) (k : Int) : Txt.mul (S l) k = S (repL l k.toNat) := by
  unfold Txt.mul
  by_cases h1 : k < 1
  · rw [if_pos h1]
    have e : k.toNat = 0 := by omega
    rw [e]
    rfl
  · rw [if_neg h1]
    by_cases h2 : (k == 1 || (S l).length == 0) = true
    · rw [if_pos h2]
      rcases (Bool.or_eq_true _ _).mp h2 with h | h
      · have e : k = 1 := by simpa using h
        subst e
        show S l = S (repL l 1)
        rw [repL_one]
      · have e : l = [] := by
          have := S_len l
          simp at h
          rw [this] at h
          exact List.length_eq_zero_iff.mp h
        subst e
        rw [repL_nil]
    · rw [if_neg h2]
      have e := fold_rep l k.toNat #[]
      have e2 : (List.replicate k.toNat l.toArray).foldl (· ++ ·) #[] = (repL l k.toNat).toArray := by
        have e3 := congrArg List.toArray e
        simpa using e3
      exact congrArg (fun z => (⟨z⟩ : Str)) e2
def rMulS : R2 := fun x y H Q => ∃ (l : List Nat) (k : Int), x = .str (S l) ∧ y = .int k ∧ k ≤ 1000 ∧ -1000 ≤ k ∧ l.length ≤ 1000 ∧ Q (.str (S (repL l k.toNat))) H
theorem op_mulS : OpR X (binaryOp .Mult) rMulS := by
  intro pins s σ H x y v u Q I rx ry h
  obtain ⟨l, k, rfl, rfl, hk, hk2, hl, q⟩ := h
  obtain ⟨t, rfl⟩ := rx
  obtain ⟨t', rfl⟩ := ry
  refine SB.mul ⟨?_, fun h1 h2 => ?_, fun h1 h2 => ?_⟩ fun tt kk => ?_
  · have a : ¬ k < -(2 ^ 63 : Int) := by omega
    have b : ¬ k ≥ 2 ^ 63 := by omega
    simp [a, b]
    omega
  · rw [S_len]
    have h3 : (1000 : Int) ≤ (2 ^ 63 - 1) / k := by
      refine (Int.le_ediv_iff_mul_le (by omega)).mpr ?_
      omega
    omega
  · rw [S_len]
    unfold Builtin.Str.tooLong
    have e : l.length * k.toNat ≤ 1000 * 1000 := Nat.mul_le_mul hl (by omega)
    have e2 : (1000 * 1000 : Nat) ≤ sizeLine := by decide
    simp
    omega
  · rw [mul_S]
    exact ⟨.str _, H, I.tok _, ⟨_, rfl⟩, q⟩

/-- set(xs), xs a list of ints -/
def rSetL (K : PySem.W.Frag) : List V → Hp → VK → Prop := fun xs H Q => ∃ (l : Addr) (ns : List Int), xs = [.ref l] ∧ SqL K H l (ns.map V.int) ∧ ns.length ≤ 4000 ∧
  ∀ p, H p = none → Q (.ref p) (upd H p (.set (fun k => (firstMet (fun i => ns.getD i 0) ns.length).any (· == k)) (firstMet (fun i => ns.getD i 0) ns.length).length))
theorem call_setL (hc : X.calm = true) : CallR X (.type "set") (rSetL X.K) := by
  intro pins s σ H xs us Q I r h
  obtain ⟨l, ns, rfl, hq, hl, q⟩ := h
  obtain ⟨u, rfl, rx⟩ := vals1 r
  cases rx
  obtain ⟨its, r, pl, hz⟩ := I.list hq
  have hlen : its.toArray.size = ns.length := by rw [List.size_toArray, ← r.length, List.length_map]
  refine call_set_list (I.ok.hd hc) pl.isList (by simpa using RZ.intsAre_vals r) (by rw [hlen]; unfold scanBound; omega) fun h' tk hS hk => ?_
  rw [hlen] at hS
  exact ⟨.ref s.heap.objs.size, _, I.laid (t' := tk) (fun b o e => hk b o (Heap.lt_size e) e) (Nat.le_refl _) (show ObjOk X.prog X.w _ h' _ (.set _ _) from hS), rfl, q _ (I.hok.fresh (Nat.le_refl _))⟩
def rLenSet : List V → Hp → VK → Prop := fun xs H Q => ∃ (a : Addr) (T : Int → Bool) (n : Nat), xs = [.ref a] ∧ H a = some (.set T n) ∧ n ≤ 100000 ∧ Q (.int n) H
theorem call_lenSet : CallR X (.builtin "len") rLenSet := by
  intro pins s σ H xs us Q I r h
  obtain ⟨a, T, n, rfl, ha, hn, q⟩ := h
  obtain ⟨u, rfl, rx⟩ := vals1 r
  cases rx
  obtain ⟨o, es, ep, t, ho, hex, hd, _, _, _, hf, hn'⟩ := show s.heap.SetOf (intKind X.prog X.w) a T n from I.hok a _ ha
  exact call_len_set ho hex hd hf (by omega) ⟨.int n, H, I.tok _, ⟨_, by rw [hn']⟩, q⟩
end
end My
/-! How a reading is gone through, step by step: each row is one transformer of the layer. -/
namespace My
open PySem PySem.Spec L2 SX
open PyProof.Rows hiding St

/-! ### defs that may be called by name -/
structure Cal (P : Program) (w : World) (K : PySem.W.Frag) (mg : Str → Option Value) (base : Heap) (k : Nat) (x : Str) (sp : Sp) : Prop where
  ex : ∃ (f : Addr) (fd : FuncData) (ps : List Str), FnOk P w K mg base L2.CX0 k f fd ps sp ∧ mg x = some (.ref f) ∧ PySem.W.keepIn K (.ref f) = true ∧ Binds K fd ps []
theorem Cal.mono {P : Program} {w : World} {K : PySem.W.Frag} {mg : Str → Option Value} {base : Heap} {j k : Nat} {x : Str} {sp : Sp} (c : Cal P w K mg base j x sp) (h : j ≤ k) : Cal P w K mg base k x sp := by
  obtain ⟨f, fd, ps, F, a, b, d⟩ := c.ex
  exact ⟨f, fd, ps, F.mono h, a, b, d⟩
section
variable {X : Cx} {k j : Nat} {x : Str} {sp : Sp} {p pos : Pos} {e : Expr} {es : List Expr} {t : TA}
theorem pe_c (c : Cal X.prog X.w X.K X.mg X.base k x sp) (hr : Room j X.A) (hk : k ≤ j) (hg : Gl X x) (ha : PA X (e :: es) t)
    (hdb : (x == ("__debug__" : Str)) = false := by decide) (he : starEach (e :: es) X.env = (false, eval e X.env) :: starEach es X.env := by rfl) (hpl : (backTo pos (starEach es X.env)).any (·.1) = false := by rfl) :
    PE X (.Call (.Name x p) (e :: es) [] pos) (tCall sp [] L2.E0 t) := by
  obtain ⟨f, fd, ps, F, hm, kp, b⟩ := c.ex
  exact pe_call F (hr.mono hk) hg hm kp b .nil L2.pass0 ha hdb he hpl
theorem pe_c0 (c : Cal X.prog X.w X.K X.mg X.base k x sp) (hr : Room j X.A) (hk : k ≤ j) (hg : Gl X x) (hdb : (x == ("__debug__" : Str)) = false := by decide) :
    PE X (.Call (.Name x p) [] [] pos) (tCall sp [] L2.E0 tNil) := by
  obtain ⟨f, fd, ps, F, hm, kp, b⟩ := c.ex
  exact pe_call0 F (hr.mono hk) hg hm kp b .nil L2.pass0 hdb
theorem pe_strS {x : Str} {j} {pos : Pos} (l : List Nat) (h : x = S l) : PE X (.Constant (.str x) j pos) (tC (.str (S l))) := by
  subst h
  exact pe_str
end

/-! ### the layer's rules under names -/
section
variable {X : Cx}
def qLen (K : PySem.W.Frag) : List V → Hp → VK → Prop := fun xs H Q => ∃ p ys, xs = [.ref p] ∧ (SqL K H p ys ∨ SqT K H p ys) ∧ Q (.int (ys.length : Nat)) H
theorem cq_len : CallR X (.builtin "len") (qLen X.K) := call_len_seq
def qLenS : List V → Hp → VK → Prop := fun xs H Q => ∃ l : List Nat, xs = [.str (S l)] ∧ l.length ≤ 100000 ∧ Q (.int (l.length : Nat)) H
theorem cq_lenS : CallR X (.builtin "len") qLenS := fun pins s σ H xs us Q I r ⟨l, e, hl, q⟩ => call_len_str pins s σ H xs us Q I r ⟨S l, e, by rw [S_len]; exact sz hl, by rw [S_len]; exact q⟩
def qInt : List V → Hp → VK → Prop := fun xs H Q => (∃ i, xs = [.int i] ∧ Q (.int i) H) ∨ ∃ k, xs = [.bl k] ∧ Q (.int (if k then 1 else 0)) H
theorem cq_int : CallR X (.type "int") qInt := call_int1
def qAbs : List V → Hp → VK → Prop := fun xs H Q => ∃ i, xs = [.int i] ∧ Q (.int (if i < 0 then -i else i)) H
theorem cq_abs : CallR X (.builtin "abs") qAbs := call_abs
def qMax2 : List V → Hp → VK → Prop := fun xs H Q => ∃ i j, xs = [.int i, .int j] ∧ Q (.int (if j > i then j else i)) H
theorem cq_max2 (hc : X.calm = true) : CallR X (.builtin "max") qMax2 := call_max2 hc
def qMin2 : List V → Hp → VK → Prop := fun xs H Q => ∃ i j, xs = [.int i, .int j] ∧ Q (.int (if j < i then j else i)) H
theorem cq_min2 (hc : X.calm = true) : CallR X (.builtin "min") qMin2 := call_min2 hc
def qAddS : R2 := fun x y H Q => ∃ l m : List Nat, x = .str (S l) ∧ y = .str (S m) ∧ l.length + m.length ≤ 100000 ∧ Q (.str (S (l ++ m))) H
theorem oq_addS : OpR X (binaryOp .Add) qAddS := fun pins s σ H x y v u Q I rx ry ⟨l, m, e1, e2, hl, q⟩ => op_add_str pins s σ H x y v u Q I rx ry ⟨S l, S m, e1, e2, by rw [S_len, S_len]; exact sz hl, by rw [S_cat]; exact q⟩
def qLtS : R2 := fun x y H Q => ∃ l m : List Nat, x = .str (S l) ∧ y = .str (S m) ∧ Q (.bl (decide (l < m))) H
theorem oq_ltS : OpR X (compareOp .Lt) qLtS := fun pins s σ H x y v u Q I rx ry ⟨l, m, e1, e2, q⟩ => op_lt_str pins s σ H x y v u Q I rx ry ⟨S l, S m, e1, e2, q⟩
def qLeS : R2 := fun x y H Q => ∃ l m : List Nat, x = .str (S l) ∧ y = .str (S m) ∧ Q (.bl (!decide (m < l))) H
theorem oq_leS : OpR X (compareOp .LtE) qLeS := fun pins s σ H x y v u Q I rx ry ⟨l, m, e1, e2, q⟩ => op_le_str pins s σ H x y v u Q I rx ry ⟨S l, S m, e1, e2, q⟩
def qGtS : R2 := fun x y H Q => ∃ l m : List Nat, x = .str (S l) ∧ y = .str (S m) ∧ Q (.bl (decide (m < l))) H
theorem oq_gtS : OpR X (compareOp .Gt) qGtS := fun pins s σ H x y v u Q I rx ry ⟨l, m, e1, e2, q⟩ => op_gt_str pins s σ H x y v u Q I rx ry ⟨S l, S m, e1, e2, q⟩
def qGeS : R2 := fun x y H Q => ∃ l m : List Nat, x = .str (S l) ∧ y = .str (S m) ∧ Q (.bl (!decide (l < m))) H
theorem oq_geS : OpR X (compareOp .GtE) qGeS := fun pins s σ H x y v u Q I rx ry ⟨l, m, e1, e2, q⟩ => op_ge_str pins s σ H x y v u Q I rx ry ⟨S l, S m, e1, e2, q⟩
def qInC : R2 := fun x y H Q => ∃ (c : Nat) (l : List Nat), x = .str (S [c]) ∧ y = .str (S l) ∧ Q (.bl (decide (c ∈ l))) H
theorem oq_inC : OpR X (compareOp .In) qInC := fun pins s σ H x y v u Q I rx ry ⟨c, l, e1, e2, q⟩ => op_in_sign pins s σ H x y v u Q I rx ry ⟨c, S l, e1, e2, q⟩
def qNotInC : R2 := fun x y H Q => ∃ (c : Nat) (l : List Nat), x = .str (S [c]) ∧ y = .str (S l) ∧ Q (.bl (!decide (c ∈ l))) H
theorem oq_notInC : OpR X (compareOp .NotIn) qNotInC := fun pins s σ H x y v u Q I rx ry ⟨c, l, e1, e2, q⟩ => op_notIn_sign pins s σ H x y v u Q I rx ry ⟨c, S l, e1, e2, q⟩
def qListOf (K : PySem.W.Frag) : List V → Hp → VK → Prop := fun xs H Q => ∃ p ys, xs = [.ref p] ∧ (SqL K H p ys ∨ SqT K H p ys) ∧ ∀ l, H l = none → Q (.ref l) (upd H l (.lst ys))
theorem cq_listOf : CallR X (.type "list") (qListOf X.K) := call_list_of
/-- "".join(a list of texts) -/
def qJoin (K : PySem.W.Frag) : V → List V → Hp → VK → Prop := fun x xs H Q => ∃ (p : Addr) (ws : List (List Nat)), x = .str (S []) ∧ xs = [.ref p] ∧ SqL K H p (ws.map fun w => V.str (S w)) ∧ ws.flatten.length ≤ 100000 ∧ Q (.str (S ws.flatten)) H
theorem joinL_nil : ∀ ws : List (List Nat), TL.joinL [] ws = ws.flatten
  | [] => rfl
  | [w] => by simp [TL.joinL]
  | w :: v :: ws => by
    have ih := joinL_nil (v :: ws)
    simp only [TL.joinL, ih, List.flatten_cons, List.append_nil, List.nil_append]
theorem oq_join : MtR X "str.join" (qJoin X.K) := by
  intro pins s σ H x xs v us Q I rx rxs h
  obtain ⟨p, ws, rfl, rfl, hq, hl, q⟩ := h
  refine mt_join pins s σ H _ _ v us Q I rx rxs ⟨S [], p, ws.map S, rfl, rfl, .inl ?_, ?_, ?_⟩
  · rw [List.map_map]
    exact hq
  · rw [lens, S_len]
    have e : (ws.map (·.length)).sum = ws.flatten.length := by rw [List.length_flatten]
    have e2 : (ws.map fun x => x.length).sum = ws.flatten.length := e
    rw [e2]
    simp
    simp at hl
    omega
  · rw [join_S, joinL_nil]
    exact q
theorem pe_joinE {o e : Expr} {to te : TE} {apos pos : Pos} (ho : PE X o to) (he : PE X e te) (hs : starEach [e] X.env = [(false, eval e X.env)] := by rfl) (hbase : attributeBase o "join" X.env (eval o X.env) = eval o X.env := by rfl) (hline : (apos.endLine == pos.line) = true := by rfl) :
    PE X (.Call (.Attribute o "join" apos) [e] [] pos) (tM1 (qJoin X.K) to te) :=
  pe_m1 PySem.F.slot_str_join PySem.F.type_str_join oq_join ho he hs hbase hline
end

/-! ### heaps -/
/-- all but what stands at h is kept -/
def ExB (h : Addr) (H H' : Hp) : Prop := ∀ a o, a ≠ h → H a = some o → H' a = some o
theorem ExB.refl (h : Addr) (H : Hp) : ExB h H H := fun _ _ _ e => e
theorem ExB.trans {h : Addr} {H H1 H2 : Hp} (a : ExB h H H1) (b : ExB h H1 H2) : ExB h H H2 := fun c o n e => b c o n (a c o n e)
theorem ExB.of {h : Addr} {H H' : Hp} (e : Same H H') : ExB h H H' := fun a o _ q => e a o q
theorem ExB.upd {h : Addr} {H : Hp} {o : HO} : ExB h H (upd H h o) := fun a u n e => by rw [upd_ne n]; exact e
theorem ExB.new {h p : Addr} {H : Hp} {o : HO} (n : H p = none) : ExB h H (L2.upd H p o) := fun a u _ e => by rw [upd_ne (ne_of_none e n)]; exact e
theorem Same.new {p : Addr} {H : Hp} {o : HO} (n : H p = none) : Same H (L2.upd H p o) := fun a u e => by rw [upd_ne (ne_of_none e n)]; exact e
/-- an object that was not there may change -/
theorem Same.mut {p : Addr} {H H' : Hp} {o : HO} (e : Same H H') (n : H p = none) : Same H (L2.upd H' p o) := fun a u q => by rw [upd_ne (ne_of_none q n)]; exact e a u q
theorem ExB.mut {h p : Addr} {H H' : Hp} {o : HO} (e : ExB h H H') (n : H p = none) : ExB h H (L2.upd H' p o) := fun a u m q => by rw [upd_ne (ne_of_none q n)]; exact e a u m q
theorem Same.seqT {K : PySem.W.Frag} {H H' : Hp} {a : Addr} {xs : List V} (e : Same H H') (h : SqT K H a xs) : SqT K H' a xs := by
  rcases h with (h | ⟨o, h⟩) | h
  · exact .inl (.inl (e _ _ h))
  · exact .inl (.inr ⟨o, e _ _ h⟩)
  · exact .inr h
theorem ExB.seq {h : Addr} {K : PySem.W.Frag} {H H' : Hp} {a : Addr} {xs : List V} (e : ExB h H H') (n : a ≠ h) (q : SqL K H a xs) : SqL K H' a xs := by
  rcases q with (q | ⟨o, q⟩) | q
  · exact .inl (.inl (e _ _ n q))
  · exact .inl (.inr ⟨o, e _ _ n q⟩)
  · exact .inr q

/-! ### the steps -/
section
variable {σ : St} {H : Hp} {Q : VK} {D : Ends} {t u : TS} {te ta tb : TE} {g : TG} {v x y : V} {i j : Int} {K : PySem.W.Frag} {tt tu : TT}
theorem rd_seq (h : t ⟨u D, D.rt, D.bk, D.ct⟩ σ H) : tSeq t u D σ H := h
theorem rd_next {nx : St → Hp → Prop} {rt : VK} {bk ct : St → Hp → Prop} (h : nx σ H) : tNext ⟨nx, rt, bk, ct⟩ σ H := h
theorem rd_asg {nx : St → Hp → Prop} {rt : VK} {bk ct : St → Hp → Prop} (h : te σ H fun x H1 => g x σ H1 nx) : tAsg te g ⟨nx, rt, bk, ct⟩ σ H := h
theorem rd_par {i j : Nat} {ta : TA} {nx : St → Hp → Prop} {rt : VK} {bk ct : St → Hp → Prop} (h : ta σ H fun vs H1 => ∃ v w, vs = [v, w] ∧ nx ((σ.set i (some v)).set j (some w)) H1) : tPar i j ta ⟨nx, rt, bk, ct⟩ σ H := h
theorem rd_if (h : tt σ H fun b H1 => if b = true then t D σ H1 else u D σ H1) : tIfS tt t u D σ H := h
theorem rd_ret {nx : St → Hp → Prop} {rt : VK} {bk ct : St → Hp → Prop} (h : te σ H rt) : tRet te ⟨nx, rt, bk, ct⟩ σ H := h
theorem rd_retN {nx : St → Hp → Prop} {rt : VK} {bk ct : St → Hp → Prop} (h : rt .non H) : tRetN ⟨nx, rt, bk, ct⟩ σ H := h
theorem rd_drop {nx : St → Hp → Prop} {rt : VK} {bk ct : St → Hp → Prop} (h : te σ H fun _ H1 => nx σ H1) : tDrop te ⟨nx, rt, bk, ct⟩ σ H := h
theorem rd_name {i : Nat} {P : St → Hp → Prop} (h : P (σ.set i (some v)) H) : gName i v σ H P := h
theorem rd_sub {to ti : TE} {ts : TSet} {P : St → Hp → Prop} (h : to σ H fun o H1 => ti σ H1 fun i H2 => ts o i v H2 fun H3 => P σ H3) : gSub to ti ts v σ H P := h
theorem rd_var {n : Nat} (e : σ[n]? = some (some v)) (q : Q v H) : tVar n σ H Q := ⟨v, e, q⟩
theorem rd_c (q : Q v H) : tC v σ H Q := q
theorem rd_op {r : R2} (h : ta σ H fun x H1 => tb σ H1 fun y H2 => r x y H2 Q) : tOp r ta tb σ H Q := h
theorem rd_un {r : V → Hp → VK → Prop} (h : ta σ H fun x H1 => r x H1 Q) : tUn r ta σ H Q := h
theorem rd_I0 {g : Int → Int → V} (q : Q (g i j) H) : rI0 g (.int i) (.int j) H Q := ⟨i, j, rfl, rfl, q⟩
theorem rd_I {C : Int → Int → Prop} {g : Int → Int → V} (c : C i j) (q : Q (g i j) H) : rI C g (.int i) (.int j) H Q := ⟨i, j, rfl, rfl, c, q⟩
theorem rd_U {g : Int → V} (q : Q (g i) H) : rU g (.int i) H Q := ⟨i, rfl, q⟩
theorem rd_eq (s : scal x y = true) (q : Q (.bl (decide (x = y))) H) : rEq x y H Q := ⟨s, q⟩
theorem rd_ne (s : scal x y = true) (q : Q (.bl (!decide (x = y))) H) : rNe x y H Q := ⟨s, q⟩
theorem rd_eqI (q : Q (.bl (decide (i = j))) H) : rEq (.int i) (.int j) H Q := ⟨rfl, by
  have e : decide (V.int i = V.int j) = decide (i = j) := by
    by_cases h : i = j
    · subst h; simp
    · rw [decide_eq_false h, decide_eq_false fun z => h (V.int.inj z)]
  rw [e]; exact q⟩
theorem rd_neI (q : Q (.bl (!decide (i = j))) H) : rNe (.int i) (.int j) H Q := ⟨rfl, by
  have e : decide (V.int i = V.int j) = decide (i = j) := by
    by_cases h : i = j
    · subst h; simp
    · rw [decide_eq_false h, decide_eq_false fun z => h (V.int.inj z)]
  rw [e]; exact q⟩
theorem dec_S (a b : List Nat) : decide (V.str (S a) = V.str (S b)) = decide (a = b) := by
  by_cases h : a = b
  · subst h; simp
  · rw [decide_eq_false h, decide_eq_false fun z => h (S_inj (V.str.inj z))]
theorem rd_eqS {a b : List Nat} (q : Q (.bl (decide (a = b))) H) : rEq (.str (S a)) (.str (S b)) H Q := ⟨rfl, by rw [dec_S]; exact q⟩
theorem rd_neS {a b : List Nat} (q : Q (.bl (!decide (a = b))) H) : rNe (.str (S a)) (.str (S b)) H Q := ⟨rfl, by rw [dec_S]; exact q⟩
theorem dec_bl (a b : Bool) : decide (V.bl a = V.bl b) = (a == b) := by cases a <;> cases b <;> rfl
theorem rd_eqB {a b : Bool} (q : Q (.bl (a == b)) H) : rEq (.bl a) (.bl b) H Q := ⟨rfl, by rw [dec_bl]; exact q⟩
theorem rd_neB {a b : Bool} (q : Q (.bl (!(a == b))) H) : rNe (.bl a) (.bl b) H Q := ⟨rfl, by rw [dec_bl]; exact q⟩
theorem rd_test {Q : Bool → Hp → Prop} (h : te σ H fun x H' => ∃ k, x = .bl k ∧ Q k H') : tTest te σ H Q := h
theorem rd_B {Q : Bool → Hp → Prop} (h : te σ H fun x H' => ∃ k, x = .bl k ∧ Q k H') : tB te σ H Q := h
theorem rd_and {Q : Bool → Hp → Prop} (h : tt σ H fun c H1 => if c = true then tu σ H1 Q else Q false H1) : tAnd tt tu σ H Q := h
theorem rd_or {Q : Bool → Hp → Prop} (h : tt σ H fun c H1 => if c = true then Q true H1 else tu σ H1 Q) : tOr tt tu σ H Q := h
theorem rd_not {Q : Bool → Hp → Prop} (h : tt σ H fun c H1 => Q (!c) H1) : tNot tt σ H Q := h
theorem rd_andV (h : ta σ H fun x H1 => ∃ c, x = .bl c ∧ if c = true then tb σ H1 Q else Q (.bl false) H1) : tAndV ta tb σ H Q := h
theorem rd_orV (h : ta σ H fun x H1 => ∃ c, x = .bl c ∧ if c = true then Q (.bl true) H1 else tb σ H1 Q) : tOrV ta tb σ H Q := h
theorem rd_notV (h : ta σ H fun x H1 => ∃ c, x = .bl c ∧ Q (.bl (!c)) H1) : tNotV ta σ H Q := h
theorem rd_ifE (h : tt σ H fun c H1 => if c = true then ta σ H1 Q else tb σ H1 Q) : tIf tt ta tb σ H Q := h
theorem rd_cons {ta : TE} {tr : TA} {Q : List V → Hp → Prop} (h : ta σ H fun x H1 => tr σ H1 fun xs H2 => Q (x :: xs) H2) : tCons ta tr σ H Q := h
theorem rd_nil {Q : List V → Hp → Prop} (h : Q [] H) : tNil σ H Q := h
theorem rd_lst {t : TA} (h : t σ H fun xs H1 => xs.length ≤ sizeLine ∧ ∀ p, H1 p = none → Q (.ref p) (upd H1 p (.lst xs))) : tLst t σ H Q := h
theorem rd_tup {t : TA} (h : t σ H fun xs H1 => xs.length ≤ sizeLine ∧ ∀ p, H1 p = none → Q (.ref p) (upd H1 p (.tup xs))) : tTup t σ H Q := h
theorem rd_len {α : Type} {xs : List α} {A : Prop} (h : xs.length ≤ sizeLine) (q : A) : xs.length ≤ sizeLine ∧ A := ⟨h, q⟩
theorem rd_CB {r : List V → Hp → VK → Prop} {t : TA} (h : t σ H fun vs H1 => r vs H1 Q) : tCB r t σ H Q := h
theorem rd_call {sp : Sp} {E : XK} {t : TA} (h : t σ H fun vs H1 => sp vs H1 Q E) : tCall sp [] E t σ H Q := by
  show t σ H fun vs H1 => sp (vs ++ []) H1 Q E
  have e : (fun (vs : List V) (H1 : Hp) => sp (vs ++ []) H1 Q E) = fun vs H1 => sp vs H1 Q E := by
    funext vs H1
    rw [List.append_nil]
  rw [e]
  exact h
theorem rd_sl {r : V → Option Int → Option Int → Hp → VK → Prop} {tl th : TO} (h : te σ H fun x H1 => tl σ H1 fun l H2 => th σ H2 fun u H3 => r x l u H3 Q) : L2.tSl r te tl th σ H Q := h
theorem rd_part {Q : Option Int → Hp → Prop} (h : te σ H fun x H1 => ∃ i, x = .int i ∧ Q (some i) H1) : tPart te σ H Q := h
theorem rd_nopart {Q : Option Int → Hp → Prop} (h : Q none H) : tNoPart σ H Q := h
theorem rd_isN (h : te σ H fun x H1 => Q (.bl (decide (x = .non))) H1) : tIsN te σ H Q := h
theorem rd_notN (h : te σ H fun x H1 => Q (.bl (!decide (x = .non))) H1) : tNotN te σ H Q := h
theorem rd_bool {b : Bool} {Q : Bool → Prop} (q : Q b) : ∃ k, V.bl b = .bl k ∧ Q k := ⟨b, rfl, q⟩
theorem rd_int {Q : Int → Prop} (q : Q i) : ∃ k, V.int i = .int k ∧ Q k := ⟨i, rfl, q⟩
theorem rd_true {A B : Prop} (h : A) : if true = true then A else B := by rw [if_pos rfl]; exact h
theorem rd_false {A B : Prop} (h : B) : if false = true then A else B := by rw [if_neg Bool.false_ne_true]; exact h
theorem rd_nt {A B : Prop} (h : B) : if (!true) = true then A else B := rd_false h
theorem rd_nf {A B : Prop} (h : A) : if (!false) = true then A else B := rd_true h
theorem rd_decT {p : Prop} [Decidable p] {A B : Prop} (hp : p) (h : A) : if decide p = true then A else B := by rw [decide_eq_true hp, if_pos rfl]; exact h
theorem rd_decF {p : Prop} [Decidable p] {A B : Prop} (hp : ¬ p) (h : B) : if decide p = true then A else B := by rw [decide_eq_false hp, if_neg Bool.false_ne_true]; exact h
theorem rd_ndecT {p : Prop} [Decidable p] {A B : Prop} (hp : ¬ p) (h : A) : if (!decide p) = true then A else B := by rw [decide_eq_false hp]; exact rd_true h
theorem rd_ndecF {p : Prop} [Decidable p] {A B : Prop} (hp : p) (h : B) : if (!decide p) = true then A else B := by rw [decide_eq_true hp]; exact rd_false h
theorem rd_ite {b : Bool} {A B : Prop} (h1 : b = true → A) (h2 : b = false → B) : if b = true then A else B := by
  cases b
  · rw [if_neg Bool.false_ne_true]; exact h2 rfl
  · rw [if_pos rfl]; exact h1 rfl
theorem rd_dec {p : Prop} [Decidable p] {A B : Prop} (h1 : p → A) (h2 : ¬ p → B) : if decide p = true then A else B := by
  by_cases h : p
  · rw [decide_eq_true h, if_pos rfl]; exact h1 h
  · rw [decide_eq_false h, if_neg Bool.false_ne_true]; exact h2 h
theorem rd_ndec {p : Prop} [Decidable p] {A B : Prop} (h1 : ¬ p → A) (h2 : p → B) : if (!decide p) = true then A else B := by
  by_cases h : p
  · rw [decide_eq_true h]; exact rd_false (h2 h)
  · rw [decide_eq_false h]; exact rd_true (h1 h)
theorem rd_strlen {l : List Nat} (hl : l.length ≤ 100000) (q : Q (.int (l.length : Nat)) H) : qLenS [.str (S l)] H Q := ⟨l, rfl, hl, q⟩
theorem rd_cat {l m : List Nat} (hl : l.length + m.length ≤ 100000) (q : Q (.str (S (l ++ m))) H) : qAddS (.str (S l)) (.str (S m)) H Q := ⟨l, m, rfl, rfl, hl, q⟩
theorem rd_ltS {l m : List Nat} (q : Q (.bl (decide (l < m))) H) : qLtS (.str (S l)) (.str (S m)) H Q := ⟨l, m, rfl, rfl, q⟩
theorem rd_leS {l m : List Nat} (q : Q (.bl (!decide (m < l))) H) : qLeS (.str (S l)) (.str (S m)) H Q := ⟨l, m, rfl, rfl, q⟩
theorem rd_gtS {l m : List Nat} (q : Q (.bl (decide (m < l))) H) : qGtS (.str (S l)) (.str (S m)) H Q := ⟨l, m, rfl, rfl, q⟩
theorem rd_geS {l m : List Nat} (q : Q (.bl (!decide (l < m))) H) : qGeS (.str (S l)) (.str (S m)) H Q := ⟨l, m, rfl, rfl, q⟩
theorem rd_inC {c : Nat} {l : List Nat} (q : Q (.bl (decide (c ∈ l))) H) : qInC (.str (S [c])) (.str (S l)) H Q := ⟨c, l, rfl, rfl, q⟩
theorem rd_notInC {c : Nat} {l : List Nat} (q : Q (.bl (!decide (c ∈ l))) H) : qNotInC (.str (S [c])) (.str (S l)) H Q := ⟨c, l, rfl, rfl, q⟩
theorem rd_abs (q : Q (.int (if i < 0 then -i else i)) H) : qAbs [.int i] H Q := ⟨i, rfl, q⟩
theorem rd_max2 (q : Q (.int (if j > i then j else i)) H) : qMax2 [.int i, .int j] H Q := ⟨i, j, rfl, q⟩
theorem rd_min2 (q : Q (.int (if j < i then j else i)) H) : qMin2 [.int i, .int j] H Q := ⟨i, j, rfl, q⟩
theorem rd_listS {l : List Nat} (hl : l.length ≤ 100000) (q : ∀ p, H p = none → Q (.ref p) (upd H p (.lst (signs l)))) : rListS [.str (S l)] H Q := ⟨l, rfl, hl, q⟩
theorem rd_join {p : Addr} {ws : List (List Nat)} (s : SqL K H p (ws.map fun w => V.str (S w))) (hl : ws.flatten.length ≤ 100000) (q : Q (.str (S ws.flatten)) H) : qJoin K (.str (S [])) [.ref p] H Q := ⟨p, ws, rfl, rfl, s, hl, q⟩
theorem rd_joinC {p : Addr} {l : List Nat} (s : SqL K H p (signs l)) (hl : l.length ≤ 100000) (q : Q (.str (S l)) H) : qJoin K (.str (S [])) [.ref p] H Q := by
  have e : ∀ l : List Nat, (l.map fun c => [c]).flatten = l := fun l => by
    induction l with
    | nil => rfl
    | cons a l ih => simp [ih]
  refine ⟨p, l.map fun c => [c], rfl, rfl, ?_, by rw [e]; exact hl, by rw [e]; exact q⟩
  rw [List.map_map]
  exact s
theorem rd_M1 {r : V → List V → Hp → VK → Prop} {to te : TE} (h : to σ H fun x H1 => (∃ a, x = .str a) ∧ te σ H1 fun y H2 => r x [y] H2 Q) : tM1 r to te σ H Q := h
theorem rd_isStr {a : Str} {A : Prop} (h : A) : (∃ b, V.str a = .str b) ∧ A := ⟨⟨a, rfl⟩, h⟩
theorem rd_mulS {l : List Nat} (h1 : -1000 ≤ i) (h2 : i ≤ 1000) (hl : l.length ≤ 1000) (q : Q (.str (S (repL l i.toNat))) H) : rMulS (.str (S l)) (.int i) H Q := ⟨l, i, rfl, rfl, h2, h1, hl, q⟩
theorem rd_ixL {p : Addr} {xs : List V} (s : SqL K H p xs) (a : atI xs i = some v) (q : Q v H) : L2.rIxL K (.ref p) (.int i) H Q := ⟨p, xs, i, v, rfl, rfl, s, a, q⟩
theorem rd_ixT {p : Addr} {xs : List V} (s : SqT K H p xs) (a : atI xs i = some v) (q : Q v H) : L2.rIxT K (.ref p) (.int i) H Q := ⟨p, xs, i, v, rfl, rfl, s, a, q⟩
theorem rd_ixS {l : List Nat} {c : Nat} (hl : l.length ≤ 100000) (a : atI l i = some c) (q : Q (.str (S [c])) H) : L2.rIxS (.str (S l)) (.int i) H Q := ⟨S l, i, c, rfl, rfl, by rw [S_len]; exact sz hl, a, q⟩
theorem rd_lenL {p : Addr} {xs : List V} (s : SqL K H p xs) (q : Q (.int (xs.length : Nat)) H) : qLen K [V.ref p] H Q := ⟨p, xs, rfl, .inl s, q⟩
theorem rd_lenT {p : Addr} {xs : List V} (s : SqT K H p xs) (q : Q (.int (xs.length : Nat)) H) : qLen K [V.ref p] H Q := ⟨p, xs, rfl, .inr s, q⟩
theorem rd_intI (q : Q (.int i) H) : qInt [V.int i] H Q := .inl ⟨i, rfl, q⟩
theorem rd_intB {k : Bool} (q : Q (.int (if k then 1 else 0)) H) : qInt [V.bl k] H Q := .inr ⟨k, rfl, q⟩
theorem rd_setL {p : Addr} {xs : List V} {n : Nat} {R : Hp → Prop} (h : H p = some (.lst xs)) (hj : ixN xs.length i = some n) (q : R (upd H p (.lst (xs.set n v)))) : L2.rSetL (.ref p) (.int i) v H R := ⟨p, xs, i, n, rfl, rfl, h, hj, q⟩
theorem rd_app {l : Addr} {xs : List V} (h : H l = some (.lst xs)) (hl : xs.length < 100000) (q : Q .non (upd H l (.lst (xs ++ [v])))) : rAppend (.ref l) [v] H Q := ⟨l, xs, v, rfl, rfl, h, szlt hl, q⟩
theorem rd_BM {r : V → List V → Hp → VK → Prop} {t : TA} {p : Addr} {ys : List V} {to : TE} (h : to σ H fun x H1 => tyV K "list" x H1 ∧ t σ H1 fun xs H2 => r x xs H2 Q) : tBM K "list" r to t σ H Q := h
theorem tyL {p : Addr} {xs : List V} (h : H p = some (.lst xs)) : tyV K "list" (.ref p) H := .inl ⟨rfl, _, SqL.of h⟩
theorem rd_slL {p : Addr} {xs : List V} {lo hi : Option Int} (s : SqL K H p xs) (q : ∀ p', H p' = none → Q (.ref p') (upd H p' (.lst (cutV xs lo hi)))) : L2.rSlL K (.ref p) lo hi H Q := ⟨p, xs, rfl, s, q⟩
theorem rd_slS_to {l : List Nat} (hl : l.length ≤ 100000) (h0 : 0 ≤ i) (q : Q (.str (S (l.take i.toNat))) H) : C8.rSlX (.str (S l)) none (some i) H Q := ⟨S l, rfl, by rw [S_len]; exact sz hl, by rw [slice_to h0]; exact q⟩
theorem rd_slS_from {l : List Nat} (hl : l.length ≤ 100000) (h0 : 0 ≤ i) (q : Q (.str (S (l.drop i.toNat))) H) : C8.rSlX (.str (S l)) (some i) none H Q := ⟨S l, rfl, by rw [S_len]; exact sz hl, by rw [slice_from h0]; exact q⟩
end
/-- a place in a list by a number that is not negative -/
theorem at_of {α : Type} {xs : List α} {i : Int} {v : α} (h0 : 0 ≤ i) (h : xs[i.toNat]? = some v) : atI xs i = some v := by
  obtain ⟨n, rfl⟩ := Int.eq_ofNat_of_zero_le h0
  exact atI_nat (by simpa using h)
end My
/-! Loops and comprehensions: what is walked, then one lemma each. -/
namespace My
open PySem PySem.Spec L2 SX
open PyProof.Rows hiding St

/-- what a comprehension over J asks -/
def LcG (J : It) (g : TG) (tt : TT) (te : TE) (vs : List Nat) (σ : St) (Q : VK) (H1 : Hp) : Prop := ∀ D, H1 D = none → ∃ W : Nat → Nat → Hp → Prop, (∃ m, W 0 m (upd H1 D (.lst []))) ∧ ∀ i m H, W i m H →
  (J.stop i H ∧ Q (.ref D) H) ∨ (J.go i H ∧ ∃ Nx : Hp → Prop, (∀ H', Nx H' → ∃ m', m' < m ∧ W (i + 1) m' H') ∧ ∀ x H', J.yld i H x H' → g x (wipe σ vs) H' fun σ2 H2 => wipe σ2 vs = wipe σ vs ∧ tt σ2 H2 fun b H3 =>
    if b = true then te σ2 H3 fun y H4 => ∃ acc, H4 D = some (.lst acc) ∧ acc.length < sizeLine ∧ Nx (upd H4 D (.lst (acc ++ [y]))) else Nx H3)
/-- what a for over J asks -/
def ForG (J : It) (g : TG) (tb : TS) (D : Ends) (σ : St) (H1 : Hp) : Prop := ∃ W : Nat → Nat → St → Hp → Prop, (∃ m, W 0 m σ H1) ∧ ∀ i m σ H, W i m σ H →
  (J.stop i H ∧ D.nx σ H) ∨ (J.go i H ∧ ∃ N : St → Hp → Prop, (∀ σ' H', N σ' H' → ∃ m', m' < m ∧ W (i + 1) m' σ' H') ∧ ∀ x H', J.yld i H x H' → g x σ H' fun σ2 H2 => tb { D with nx := N, ct := N, bk := D.nx } σ2 H2)
section
variable {σ : St} {H : Hp} {Q : VK} {D : Ends} {te tl : TE} {ta : TA} {g : TG} {tt : TT} {vs : List Nat} {K : PySem.W.Frag} {wi : TI} {tb : TS} {R : It → Hp → Prop} {i j c : Int}
theorem rd_lc (h : wi σ H fun J H1 => LcG J g tt te vs σ Q H1) : tLc wi g tt te vs σ H Q := h
theorem rd_for (h : wi σ H fun J H1 => ForG J g tb D σ H1) : tFor wi g tb D σ H := h
def qIl (K : PySem.W.Frag) (x : V) (H1 : Hp) (R : It → Hp → Prop) : Prop := ∃ a, x = .ref a ∧ (∃ xs, SqL K H1 a xs) ∧ R (Itl K a) H1
def qItu (K : PySem.W.Frag) (x : V) (H1 : Hp) (R : It → Hp → Prop) : Prop := ∃ a, x = .ref a ∧ (∃ xs, SqT K H1 a xs) ∧ R (Itt K a) H1
def qIr1 (vs : List V) (H1 : Hp) (R : It → Hp → Prop) : Prop := ∃ j : Int, vs = [.int j] ∧ -(2 ^ 62) ≤ j ∧ j < 2 ^ 62 ∧ R (Itr 0 j.toNat) H1
def qIr2 (vs : List V) (H1 : Hp) (R : It → Hp → Prop) : Prop := ∃ i j : Int, vs = [.int i, .int j] ∧ (-(2 ^ 62) ≤ i ∧ i < 2 ^ 62 ∧ -(2 ^ 62) ≤ j ∧ j < 2 ^ 62) ∧ R (Itr i (j - i).toNat) H1
def qIr3 (vs : List V) (H1 : Hp) (R : It → Hp → Prop) : Prop := ∃ (i j c : Int) (n : Nat), vs = [.int i, .int j, .int c] ∧ RgC i j c n ∧ R (Itc i c n) H1
def qIs (v : V) (H1 : Hp) (R : It → Hp → Prop) : Prop := ∃ x, v = .str x ∧ R (Its x) H1
theorem rd_iList (h : tl σ H fun x H1 => qIl K x H1 R) : iList K tl σ H R := h
theorem rd_iTup (h : tl σ H fun x H1 => qItu K x H1 R) : iTup K tl σ H R := h
theorem rd_iRng1 (h : ta σ H fun vs H1 => qIr1 vs H1 R) : iRng1 ta σ H R := h
theorem rd_iRng2 (h : ta σ H fun vs H1 => qIr2 vs H1 R) : iRng2 ta σ H R := h
theorem rd_iRng3 (h : ta σ H fun vs H1 => qIr3 vs H1 R) : iRng3 ta σ H R := h
theorem rd_iStr (h : tl σ H fun v H1 => qIs v H1 R) : iStr tl σ H R := h
theorem rd_qIl {p : Addr} {xs : List V} (s : SqL K H p xs) (q : R (Itl K p) H) : qIl K (.ref p) H R := ⟨p, rfl, ⟨xs, s⟩, q⟩
theorem rd_qItu {p : Addr} {xs : List V} (s : SqT K H p xs) (q : R (Itt K p) H) : qItu K (.ref p) H R := ⟨p, rfl, ⟨xs, s⟩, q⟩
theorem rd_qIr1 (h1 : -100000 ≤ i) (h2 : i ≤ 100000) (q : R (Itr 0 i.toNat) H) : qIr1 [.int i] H R := ⟨i, rfl, by omega, by omega, q⟩
theorem rd_qIr2 (h1 : -100000 ≤ i) (h2 : i ≤ 100000) (h3 : -100000 ≤ j) (h4 : j ≤ 100000) (q : R (Itr i (j - i).toNat) H) : qIr2 [.int i, .int j] H R := ⟨i, j, rfl, by omega, q⟩
theorem rd_qIr3 (h1 : -100000 ≤ i) (h2 : i ≤ 100000) (h3 : -100000 ≤ j) (h4 : j ≤ 100000) (q : R (Itc i (-1) (i - j).toNat) H) : qIr3 [.int i, .int j, .int (-1)] H R := ⟨i, j, -1, _, rfl, RgC.neg (by omega) (by omega) (by omega) (by omega), q⟩
theorem rd_qIs {l : List Nat} (q : R (Its (S l)) H) : qIs (.str (S l)) H R := ⟨S l, rfl, q⟩

/-- a pure test, a pure element -/
def PT0 (tt : TT) (σ : St) (H : Hp) (b : Bool) : Prop := ∀ H1, Same H H1 → ∀ Q : Bool → Hp → Prop, (∀ H2, Same H1 H2 → Q b H2) → tt σ H1 Q
def PE0 (te : TE) (σ : St) (H : Hp) (v : V) : Prop := ∀ H1, Same H H1 → ∀ Q : VK, (∀ H2, Same H1 H2 → Q v H2) → te σ H1 Q
theorem pt_yes : PT0 tYes σ H true := fun H1 _ Q q => q H1 (Same.refl _)

theorem lc_map {α : Type} (ls : List α) (e : α → V) {J : It} {G : Hp → Prop} {Y : Nat → Hp → V → Hp → Prop} (w : Walk J ls.length G Y) (hG : ∀ H', Same H H' → G H')
    (hY : ∀ i H x H', i < ls.length → Y i H x H' → H' = H ∧ ∃ y, ls[i]? = some y ∧ x = e y) {j : Nat} (hn : ls.length ≤ 50000)
    (hw : ∀ x, wipe ((wipe σ vs).set j (some x)) vs = wipe σ vs) (yes : α → Bool) (f : α → V)
    (ht : ∀ y ∈ ls, PT0 tt ((wipe σ vs).set j (some (e y))) H (yes y)) (he : ∀ y ∈ ls, yes y = true → PE0 te ((wipe σ vs).set j (some (e y))) H (f y))
    (q : ∀ D H', H D = none → Same H H' → H' D = some (.lst ((ls.filter yes).map f)) → Q (.ref D) H') : LcG J (gName j) tt te vs σ Q H := by
  intro D hD
  refine lc_it w (fun i H' => Same H H' ∧ H' D = some (.lst (((ls.take i).filter yes).map f))) ⟨Same.new hD, upd_same⟩ (fun i H' _ p => hG H' p.1) ?_ ?_
  · rintro i x H1 H1' hi ⟨s1, hd⟩ yy
    obtain ⟨rfl, y, hy, rfl⟩ := hY i _ _ _ hi yy
    have hm : y ∈ ls := List.mem_of_getElem? hy
    have htk : ls.take (i + 1) = ls.take i ++ [y] := by rw [List.take_succ, hy]; rfl
    refine ⟨hw _, ?_⟩
    refine ht y hm _ s1 _ fun H3 s3 => ?_
    refine rd_ite (fun hb => ?_) (fun hb => ?_)
    · refine he y hm hb _ (s1.trans s3) _ fun H4 s4 => ?_
      refine ⟨_, s4 _ _ (s3 _ _ hd), ?_, Same.mut ((s1.trans s3).trans s4) hD, ?_⟩
      · rw [List.length_map]
        have h1 := List.length_filter_le yes (ls.take i)
        have h2 : (ls.take i).length ≤ ls.length := by rw [List.length_take]; omega
        exact szlt (by omega)
      · rw [upd_same, htk, List.filter_append, List.map_append, List.filter_cons, if_pos hb]
        rfl
    · refine ⟨s1.trans s3, ?_⟩
      rw [htk, List.filter_append, List.map_append, List.filter_cons, if_neg (by rw [hb]; exact Bool.false_ne_true)]
      simp only [List.filter_nil, List.map_nil, List.append_nil]
      exact s3 _ _ hd
  · rintro H1 ⟨s1, hd⟩
    rw [List.take_length] at hd
    exact q D H1 hD s1 hd
theorem filter_yes {α : Type} (l : List α) : l.filter (fun _ => true) = l := List.filter_eq_self.mpr fun _ _ => rfl
/-- over a list -/
theorem lcL {α : Type} (ls : List α) (e : α → V) {p : Addr} (hs : SqL K H p (ls.map e)) {j : Nat} (yes : α → Bool) (f : α → V) (hn : ls.length ≤ 50000)
    (hw : ∀ x, wipe ((wipe σ vs).set j (some x)) vs = wipe σ vs)
    (ht : ∀ y ∈ ls, PT0 tt ((wipe σ vs).set j (some (e y))) H (yes y)) (he : ∀ y ∈ ls, yes y = true → PE0 te ((wipe σ vs).set j (some (e y))) H (f y))
    (q : ∀ D H', H D = none → Same H H' → H' D = some (.lst ((ls.filter yes).map f)) → Q (.ref D) H') : LcG (Itl K p) (gName j) tt te vs σ Q H := by
  have w := walk_list (K := K) (a := p) (xs := ls.map e)
  rw [List.length_map] at w
  refine lc_map ls e w (fun H' s => s.seq hs) (fun i H x H' hi y => ⟨y.1, ?_⟩) hn hw yes f ht he q
  have h2 := y.2
  rw [List.getElem?_map] at h2
  cases h3 : ls[i]? with
  | none => rw [h3] at h2; cases h2
  | some z =>
    rw [h3] at h2
    exact ⟨z, rfl, (Option.some.inj h2).symm⟩
/-- over a range -/
theorem lcR {lo : Int} {n : Nat} {j : Nat} (yes : Nat → Bool) (f : Nat → V) (hn : n ≤ 50000)
    (hw : ∀ x, wipe ((wipe σ vs).set j (some x)) vs = wipe σ vs)
    (ht : ∀ y, y < n → PT0 tt ((wipe σ vs).set j (some (.int (lo + y)))) H (yes y)) (he : ∀ y, y < n → yes y = true → PE0 te ((wipe σ vs).set j (some (.int (lo + y)))) H (f y))
    (q : ∀ D H', H D = none → Same H H' → H' D = some (.lst (((List.range n).filter yes).map f)) → Q (.ref D) H') : LcG (Itr lo n) (gName j) tt te vs σ Q H := by
  have w := walk_range (lo := lo) (n := n)
  refine lc_map (List.range n) (fun y => .int (lo + y)) (by rw [List.length_range]; exact w) (fun _ _ => trivial) (fun i H x H' hi (yy : YFn _ i H x H') => ⟨yy.1, i, ?_, yy.2⟩) (by rw [List.length_range]; exact hn) hw yes f
    (fun y hy => ht y (List.mem_range.mp hy)) (fun y hy => he y (List.mem_range.mp hy)) q
  rw [List.length_range] at hi
  simp [hi]
/-- over a text -/
theorem lcS {l : List Nat} {j : Nat} (yes : Nat → Bool) (f : Nat → V) (hn : l.length ≤ 50000)
    (hw : ∀ x, wipe ((wipe σ vs).set j (some x)) vs = wipe σ vs)
    (ht : ∀ y ∈ l, PT0 tt ((wipe σ vs).set j (some (.str (S [y])))) H (yes y)) (he : ∀ y ∈ l, yes y = true → PE0 te ((wipe σ vs).set j (some (.str (S [y])))) H (f y))
    (q : ∀ D H', H D = none → Same H H' → H' D = some (.lst ((l.filter yes).map f)) → Q (.ref D) H') : LcG (Its (S l)) (gName j) tt te vs σ Q H := by
  have w := walk_str (z := S l)
  have hz : (S l).cps.size = l.length := by simp
  rw [hz] at w
  refine lc_map l (fun y => .str (S [y])) w (fun _ _ => trivial) (fun i H x H' hi y => ⟨y.1, ?_⟩) hn hw yes f ht he q
  obtain ⟨c, h1, h2⟩ := y.2
  exact ⟨c, by simpa using h1, h2⟩

/-- over a range, the element's call may change what stands: acc what is made so far -/
theorem lcR_inv {lo : Int} {n : Nat} {j : Nat} (Pv : Addr → Nat → List V → Hp → Prop) (hn : n ≤ 50000) (hw : ∀ x, wipe ((wipe σ vs).set j (some x)) vs = wipe σ vs)
    (h0 : ∀ D, H D = none → Pv D 0 [] (upd H D (.lst [])))
    (hs : ∀ (D : Addr) (i : Nat) (acc : List V) (H' : Hp) (Q : VK), i < n → H D = none → acc.length = i → Pv D i acc H' → H' D = some (.lst acc) →
      (∀ y H2, H2 D = some (.lst acc) → Pv D (i + 1) (acc ++ [y]) (upd H2 D (.lst (acc ++ [y]))) → Q y H2) → te ((wipe σ vs).set j (some (.int (lo + (i : Nat))))) H' Q)
    (q : ∀ (D : Addr) (acc : List V) (H' : Hp), H D = none → acc.length = n → Pv D n acc H' → H' D = some (.lst acc) → Q (.ref D) H') : LcG (Itr lo n) (gName j) tYes te vs σ Q H := by
  intro D hD
  refine lc_it (walk_range (lo := lo) (n := n)) (fun i H' => ∃ acc : List V, H' D = some (.lst acc) ∧ acc.length = i ∧ Pv D i acc H') ⟨[], upd_same, rfl, h0 D hD⟩ (fun _ _ _ _ => trivial) ?_ ?_
  · rintro i x H1 H1' hi ⟨acc, ha, hl, p⟩ ⟨rfl, rfl⟩
    refine ⟨hw _, ?_⟩
    unfold tYes
    dsimp only
    rw [if_pos rfl]
    refine hs D i acc _ _ hi hD hl p ha fun y H2 h2 p2 => ⟨acc, h2, szlt (by omega), acc ++ [y], upd_same, ?_, p2⟩
    rw [List.length_append, hl]
    rfl
  · rintro H1 ⟨acc, ha, hl, p⟩
    exact q D acc H1 hD hl p ha
theorem cutV_to {xs : List V} {i : Int} (h : 0 ≤ i) : cutV xs none (some i) = xs.take i.toNat := by
  obtain ⟨n, rfl⟩ := Int.eq_ofNat_of_zero_le h
  unfold cutV
  rw [HT.sIx_none, HT.sIx_nat, List.drop_zero, Nat.sub_zero, Int.toNat_natCast]
  rw [Nat.min_def]
  split
  · rfl
  · rw [List.take_of_length_le (Nat.le_refl _), List.take_of_length_le (by omega)]
/-! ### for -/
variable {nx : St → Hp → Prop} {rt : VK} {bk ct : St → Hp → Prop}
theorem for_map {α : Type} (ls : List α) (e : α → V) {J : It} {G : Hp → Prop} {Y : Nat → Hp → V → Hp → Prop} (w : Walk J ls.length G Y)
    (hY : ∀ i H x H', i < ls.length → Y i H x H' → H' = H ∧ ∃ y, ls[i]? = some y ∧ x = e y) {j : Nat} (Pv : Nat → St → Hp → Prop) (h0 : Pv 0 σ H) (hG : ∀ i σ H, i ≤ ls.length → Pv i σ H → G H)
    (hs : ∀ i y σ H, ls[i]? = some y → Pv i σ H → tb ⟨Pv (i + 1), rt, nx, Pv (i + 1)⟩ (σ.set j (some (e y))) H) (hd : ∀ σ H, Pv ls.length σ H → nx σ H) : ForG J (gName j) tb ⟨nx, rt, bk, ct⟩ σ H :=
  for_it w Pv h0 hG (fun i x σ H H' hi p yy => by
    obtain ⟨rfl, y, hy, rfl⟩ := hY i _ _ _ hi yy
    exact hs i y σ _ hy p) hd
theorem forL {α : Type} (ls : List α) (e : α → V) {p : Addr} {j : Nat} (Pv : Nat → St → Hp → Prop) (h0 : Pv 0 σ H) (hG : ∀ i σ H, i ≤ ls.length → Pv i σ H → SqL K H p (ls.map e))
    (hs : ∀ i y σ H, ls[i]? = some y → Pv i σ H → tb ⟨Pv (i + 1), rt, nx, Pv (i + 1)⟩ (σ.set j (some (e y))) H) (hd : ∀ σ H, Pv ls.length σ H → nx σ H) : ForG (Itl K p) (gName j) tb ⟨nx, rt, bk, ct⟩ σ H := by
  have w := walk_list (K := K) (a := p) (xs := ls.map e)
  rw [List.length_map] at w
  refine for_map ls e w (fun i H x H' hi y => ⟨y.1, ?_⟩) Pv h0 hG hs hd
  have h2 := y.2
  rw [List.getElem?_map] at h2
  cases h3 : ls[i]? with
  | none => rw [h3] at h2; cases h2
  | some z =>
    rw [h3] at h2
    exact ⟨z, rfl, (Option.some.inj h2).symm⟩
theorem forR {lo : Int} {n : Nat} {j : Nat} (Pv : Nat → St → Hp → Prop) (h0 : Pv 0 σ H)
    (hs : ∀ i σ H, i < n → Pv i σ H → tb ⟨Pv (i + 1), rt, nx, Pv (i + 1)⟩ (σ.set j (some (.int (lo + (i : Nat))))) H) (hd : ∀ σ H, Pv n σ H → nx σ H) : ForG (Itr lo n) (gName j) tb ⟨nx, rt, bk, ct⟩ σ H :=
  for_it (walk_range (lo := lo) (n := n)) Pv h0 (fun _ _ _ _ _ => trivial) (fun i x σ H H' hi p y => by
    obtain ⟨rfl, rfl⟩ := y
    exact hs i σ _ hi p) hd
theorem forRC {lo c : Int} {n : Nat} {j : Nat} (Pv : Nat → St → Hp → Prop) (h0 : Pv 0 σ H)
    (hs : ∀ i σ H, i < n → Pv i σ H → tb ⟨Pv (i + 1), rt, nx, Pv (i + 1)⟩ (σ.set j (some (.int (lo + (i : Nat) * c)))) H) (hd : ∀ σ H, Pv n σ H → nx σ H) : ForG (Itc lo c n) (gName j) tb ⟨nx, rt, bk, ct⟩ σ H :=
  for_it (walk_rangeC (lo := lo) (n := n)) Pv h0 (fun _ _ _ _ _ => trivial) (fun i x σ H H' hi p y => by
    obtain ⟨rfl, rfl⟩ := y
    exact hs i σ _ hi p) hd
theorem forS {l : List Nat} {j : Nat} (Pv : Nat → St → Hp → Prop) (h0 : Pv 0 σ H)
    (hs : ∀ i y σ H, l[i]? = some y → Pv i σ H → tb ⟨Pv (i + 1), rt, nx, Pv (i + 1)⟩ (σ.set j (some (.str (S [y])))) H) (hd : ∀ σ H, Pv l.length σ H → nx σ H) : ForG (Its (S l)) (gName j) tb ⟨nx, rt, bk, ct⟩ σ H := by
  have w := walk_str (z := S l)
  have hz : (S l).cps.size = l.length := by simp
  rw [hz] at w
  refine for_map l (fun y => .str (S [y])) w (fun i H x H' hi y => ⟨y.1, ?_⟩) Pv h0 (fun _ _ _ _ _ => trivial) hs hd
  obtain ⟨c, h1, h2⟩ := y.2
  exact ⟨c, by simpa using h1, h2⟩
/-- while, by a word with its measure -/
def WhB (W : Nat → St → Hp → Prop) (m : Nat) (tb : TS) (rt : VK) (nx : St → Hp → Prop) (σ : St) (H1 : Hp) : Prop :=
  ∃ N : St → Hp → Prop, (∀ σ' H', N σ' H' → ∃ m', m' < m ∧ W m' σ' H') ∧ tb ⟨N, rt, nx, N⟩ σ H1
theorem rd_while (W : Nat → St → Hp → Prop) (m0 : Nat) (h0 : W m0 σ H)
    (hs : ∀ m σ H, W m σ H → tt σ H fun b H1 => if b = true then WhB W m tb rt nx σ H1 else nx σ H1) : tWhile tt tb ⟨nx, rt, bk, ct⟩ σ H :=
  ⟨W, ⟨m0, h0⟩, hs⟩
theorem rd_whb {W : Nat → St → Hp → Prop} {m : Nat} (h : tb ⟨fun σ' H' => ∃ m', m' < m ∧ W m' σ' H', rt, nx, fun σ' H' => ∃ m', m' < m ∧ W m' σ' H'⟩ σ H) : WhB W m tb rt nx σ H :=
  ⟨_, fun _ _ h => h, h⟩
end
end My
/-! isinstance, deep equality of plain data, sorted. -/
namespace My
open PySem PySem.Spec L2 SX
open PyProof.Rows hiding St
section
variable {H : Hp} {Q : VK} {K : PySem.W.Frag} {x y : V}
theorem rd_isi {a b : String} {r : Bool} (ty : TyX K H x (.type a)) (h : kitB a b = some r) (q : Q (.bl r) H) : rIsi K [x, .ty b] H Q := ⟨x, .ty b, .type a, .type b, r, rfl, .ty b, ty, kit_ty h, q⟩
theorem ty_str {z : Str} : TyX K H (.str z) (.type "str") := .base (.str z)
theorem ty_int {i : Int} : TyX K H (.int i) (.type "int") := .base (.int i)
theorem ty_bl {b : Bool} : TyX K H (.bl b) (.type "bool") := .base (.bl b)
theorem ty_lst {a : Addr} {xs : List V} (h : H a = some (.lst xs)) : TyX K H (.ref a) (.type "list") := .base (.lst h)
theorem ty_tup {a : Addr} {xs : List V} (h : H a = some (.tup xs)) : TyX K H (.ref a) (.type "tuple") := .base (.tup h)
theorem ty_non : TyX K H .non (.type "NoneType") := .base .non

theorem kb_str_str : kitB "str" "str" = some true := by decide +kernel
theorem kb_str_int : kitB "str" "int" = some false := by decide +kernel
theorem kb_str_bool : kitB "str" "bool" = some false := by decide +kernel
theorem kb_str_list : kitB "str" "list" = some false := by decide +kernel
theorem kb_str_tuple : kitB "str" "tuple" = some false := by decide +kernel
theorem kb_int_str : kitB "int" "str" = some false := by decide +kernel
theorem kb_int_int : kitB "int" "int" = some true := by decide +kernel
theorem kb_int_bool : kitB "int" "bool" = some false := by decide +kernel
theorem kb_int_list : kitB "int" "list" = some false := by decide +kernel
theorem kb_int_tuple : kitB "int" "tuple" = some false := by decide +kernel
theorem kb_bool_str : kitB "bool" "str" = some false := by decide +kernel
theorem kb_bool_int : kitB "bool" "int" = some true := by decide +kernel
theorem kb_bool_bool : kitB "bool" "bool" = some true := by decide +kernel
theorem kb_bool_list : kitB "bool" "list" = some false := by decide +kernel
theorem kb_bool_tuple : kitB "bool" "tuple" = some false := by decide +kernel
theorem kb_list_str : kitB "list" "str" = some false := by decide +kernel
theorem kb_list_int : kitB "list" "int" = some false := by decide +kernel
theorem kb_list_bool : kitB "list" "bool" = some false := by decide +kernel
theorem kb_list_list : kitB "list" "list" = some true := by decide +kernel
theorem kb_list_tuple : kitB "list" "tuple" = some false := by decide +kernel
theorem kb_tuple_str : kitB "tuple" "str" = some false := by decide +kernel
theorem kb_tuple_int : kitB "tuple" "int" = some false := by decide +kernel
theorem kb_tuple_bool : kitB "tuple" "bool" = some false := by decide +kernel
theorem kb_tuple_list : kitB "tuple" "list" = some false := by decide +kernel
theorem kb_tuple_tuple : kitB "tuple" "tuple" = some true := by decide +kernel
theorem kb_NoneType_str : kitB "NoneType" "str" = some false := by decide +kernel
theorem kb_NoneType_int : kitB "NoneType" "int" = some false := by decide +kernel
theorem kb_NoneType_bool : kitB "NoneType" "bool" = some false := by decide +kernel
theorem kb_NoneType_list : kitB "NoneType" "list" = some false := by decide +kernel
theorem kb_NoneType_tuple : kitB "NoneType" "tuple" = some false := by decide +kernel
/-! ### data -/
def dI (ns : List Int) : PyData := .list (ns.map PyData.int)
def dS (ws : List (List Nat)) : PyData := .list (ws.map fun w => PyData.str (S w))
def dSI (w : List Nat) (k : Int) : PyData := .tuple [.str (S w), .int k]
theorem canI : ∀ ns : List Int, PyData.canLayAll0 (ns.map PyData.int) = true
  | [] => rfl
  | n :: ns => by
    show (PyData.canLay0 (.int n) && PyData.canLayAll0 (ns.map PyData.int)) = true
    rw [canI ns]; rfl
theorem depI : ∀ ns : List Int, PyData.depthAll (ns.map PyData.int) = 0
  | [] => rfl
  | n :: ns => by
    show max (PyData.depth (.int n)) (PyData.depthAll (ns.map PyData.int)) = 0
    rw [depI ns]; rfl
theorem shI (ns : List Int) : SeqAt.shaped (dI ns) = true := by
  unfold SeqAt.shaped dI
  have h1 : PyData.canLay0 (.list (ns.map PyData.int)) = true := canI ns
  have h2 : PyData.depth (.list (ns.map PyData.int)) = 1 := by show PyData.depthAll _ + 1 = 1; rw [depI]
  rw [h1, h2]; rfl
theorem eqAllI : ∀ ns ms : List Int, PyData.eqvAll (ns.map PyData.int) (ms.map PyData.int) = decide (ns = ms)
  | [], [] => rfl
  | [], _ :: _ => rfl
  | _ :: _, [] => rfl
  | n :: ns, m :: ms => by
    show (PyData.eqv (.int n) (.int m) && PyData.eqvAll (ns.map PyData.int) (ms.map PyData.int)) = _
    rw [eqAllI ns ms]
    have h : PyData.eqv (.int n) (.int m) = decide (n = m) := by simp only [PyData.eqv]; by_cases e : n = m <;> simp [e]
    rw [h]
    by_cases e : n = m <;> by_cases e2 : ns = ms <;> simp [e, e2]
theorem eqI (ns ms : List Int) : PyData.eqv (dI ns) (dI ms) = decide (ns = ms) := by
  show PyData.eqvAll _ _ = _
  exact eqAllI ns ms
theorem dpAllI : ∀ ns : List Int, DpAll K H (ns.map V.int) (ns.map PyData.int)
  | [] => .nil
  | n :: ns => .cons (.int n) (dpAllI ns)
theorem dpI {a : Addr} {ns : List Int} (h : SqL K H a (ns.map V.int)) : Dp K H (.ref a) (dI ns) := .lst h (dpAllI ns)
/-- its code points are code points -/
def OkW (w : List Nat) : Prop := ∀ c ∈ w, c < 1114112
theorem canStr {w : List Nat} (h : OkW w) : PyData.canLay0 (.str (S w)) = true := by
  show PyData.strOk (S w) = true
  unfold PyData.strOk
  rw [← Array.all_toList]
  exact List.all_eq_true.mpr fun c hc => decide_eq_true (h c (by simpa using hc))
theorem canS : ∀ ws : List (List Nat), (∀ w ∈ ws, OkW w) → PyData.canLayAll0 (ws.map fun w => PyData.str (S w)) = true
  | [], _ => rfl
  | w :: ws, h => by
    show (PyData.canLay0 (.str (S w)) && PyData.canLayAll0 (ws.map fun w => PyData.str (S w))) = true
    rw [canS ws fun v hv => h v (List.mem_cons_of_mem _ hv), canStr (h w List.mem_cons_self)]; rfl
theorem depS : ∀ ws : List (List Nat), PyData.depthAll (ws.map fun w => PyData.str (S w)) = 0
  | [] => rfl
  | w :: ws => by
    show max (PyData.depth (.str (S w))) (PyData.depthAll (ws.map fun w => PyData.str (S w))) = 0
    rw [depS ws]; rfl
theorem shS (ws : List (List Nat)) (h : ∀ w ∈ ws, OkW w) : SeqAt.shaped (dS ws) = true := by
  unfold SeqAt.shaped dS
  have h1 : PyData.canLay0 (.list (ws.map fun w => PyData.str (S w))) = true := canS ws h
  have h2 : PyData.depth (.list (ws.map fun w => PyData.str (S w))) = 1 := by show PyData.depthAll _ + 1 = 1; rw [depS]
  rw [h1, h2]; rfl
theorem eqStr (v w : List Nat) : PyData.eqv (.str (S v)) (.str (S w)) = decide (v = w) := by
  simp only [PyData.eqv]
  exact S_beq_eq
theorem eqAllS : ∀ vs ws : List (List Nat), PyData.eqvAll (vs.map fun w => PyData.str (S w)) (ws.map fun w => PyData.str (S w)) = decide (vs = ws)
  | [], [] => rfl
  | [], _ :: _ => rfl
  | _ :: _, [] => rfl
  | v :: vs, w :: ws => by
    show (PyData.eqv (.str (S v)) (.str (S w)) && PyData.eqvAll (vs.map fun w => PyData.str (S w)) (ws.map fun w => PyData.str (S w))) = _
    rw [eqAllS vs ws, eqStr]
    by_cases e : v = w <;> by_cases e2 : vs = ws <;> simp [e, e2]
theorem eqS (vs ws : List (List Nat)) : PyData.eqv (dS vs) (dS ws) = decide (vs = ws) := eqAllS vs ws
theorem dpAllS : ∀ ws : List (List Nat), DpAll K H (ws.map fun w => V.str (S w)) (ws.map fun w => PyData.str (S w))
  | [] => .nil
  | w :: ws => .cons (.str (S w)) (dpAllS ws)
theorem dpS {a : Addr} {ws : List (List Nat)} (h : SqL K H a (ws.map fun w => V.str (S w))) : Dp K H (.ref a) (dS ws) := .lst h (dpAllS ws)
theorem dpSI {a : Addr} {w : List Nat} {k : Int} (h : SqT K H a [.str (S w), .int k]) : Dp K H (.ref a) (dSI w k) := .tup h (.cons (.str _) (.cons (.int _) .nil))
theorem shSI {w : List Nat} {k : Int} (h : OkW w) : SeqAt.shaped (dSI w k) = true := by
  unfold SeqAt.shaped dSI
  have h1 : PyData.canLay0 (.tuple [.str (S w), .int k]) = true := by
    show (PyData.canLay0 (.str (S w)) && (PyData.canLay0 (.int k) && true)) = true
    rw [canStr h]; rfl
  rw [h1]; rfl
theorem eqSI (v w : List Nat) (j k : Int) : PyData.eqv (dSI v j) (dSI w k) = decide (v = w ∧ j = k) := by
  show (PyData.eqv (.str (S v)) (.str (S w)) && (PyData.eqv (.int j) (.int k) && true)) = _
  have h : PyData.eqv (.int j) (.int k) = decide (j = k) := by simp only [PyData.eqv]; by_cases e : j = k <;> simp [e]
  rw [eqStr, h]
  by_cases e : v = w <;> by_cases e2 : j = k <;> simp [e, e2]
theorem rd_eqD {d e : PyData} (hd : Dp K H x d) (he : Dp K H y e) (sd : SeqAt.shaped d = true) (se : SeqAt.shaped e = true) (q : Q (.bl (PyData.eqv d e)) H) : rEqD K x y H Q := ⟨d, e, hd, he, sd, se, q⟩
theorem rd_neD {d e : PyData} (hd : Dp K H x d) (he : Dp K H y e) (sd : SeqAt.shaped d = true) (se : SeqAt.shaped e = true) (q : Q (.bl (!PyData.eqv d e)) H) : rNeD K x y H Q := ⟨d, e, hd, he, sd, se, q⟩
theorem rd_eqLI {p r : Addr} {ns ms : List Int} (h1 : SqL K H p (ns.map V.int)) (h2 : SqL K H r (ms.map V.int)) (q : Q (.bl (decide (ns = ms))) H) : rEqD K (.ref p) (.ref r) H Q := rd_eqD (dpI h1) (dpI h2) (shI _) (shI _) (by rw [eqI]; exact q)
theorem rd_neLI {p r : Addr} {ns ms : List Int} (h1 : SqL K H p (ns.map V.int)) (h2 : SqL K H r (ms.map V.int)) (q : Q (.bl (!decide (ns = ms))) H) : rNeD K (.ref p) (.ref r) H Q := rd_neD (dpI h1) (dpI h2) (shI _) (shI _) (by rw [eqI]; exact q)
theorem rd_eqLS {p r : Addr} {ns ms : List (List Nat)} (h1 : SqL K H p (ns.map fun w => V.str (S w))) (h2 : SqL K H r (ms.map fun w => V.str (S w))) (o1 : ∀ w ∈ ns, OkW w) (o2 : ∀ w ∈ ms, OkW w) (q : Q (.bl (decide (ns = ms))) H) : rEqD K (.ref p) (.ref r) H Q := rd_eqD (dpS h1) (dpS h2) (shS _ o1) (shS _ o2) (by rw [eqS]; exact q)
theorem rd_neLS {p r : Addr} {ns ms : List (List Nat)} (h1 : SqL K H p (ns.map fun w => V.str (S w))) (h2 : SqL K H r (ms.map fun w => V.str (S w))) (o1 : ∀ w ∈ ns, OkW w) (o2 : ∀ w ∈ ms, OkW w) (q : Q (.bl (!decide (ns = ms))) H) : rNeD K (.ref p) (.ref r) H Q := rd_neD (dpS h1) (dpS h2) (shS _ o1) (shS _ o2) (by rw [eqS]; exact q)
theorem rd_eqTSI {p r : Addr} {v w : List Nat} {j k : Int} (h1 : SqT K H p [.str (S v), .int j]) (h2 : SqT K H r [.str (S w), .int k]) (o1 : OkW v) (o2 : OkW w) (q : Q (.bl (decide (v = w ∧ j = k))) H) : rEqD K (.ref p) (.ref r) H Q := rd_eqD (dpSI h1) (dpSI h2) (shSI o1) (shSI o2) (by rw [eqSI]; exact q)
theorem rd_neTSI {p r : Addr} {v w : List Nat} {j k : Int} (h1 : SqT K H p [.str (S v), .int j]) (h2 : SqT K H r [.str (S w), .int k]) (o1 : OkW v) (o2 : OkW w) (q : Q (.bl (!decide (v = w ∧ j = k))) H) : rNeD K (.ref p) (.ref r) H Q := rd_neD (dpSI h1) (dpSI h2) (shSI o1) (shSI o2) (by rw [eqSI]; exact q)
/-- two sorted lists of the same ints are one -/
theorem sorted_one : ∀ {as bs : List Int}, as.Perm bs → as.Pairwise (· ≤ ·) → bs.Pairwise (· ≤ ·) → as = bs
  | [], bs, p, _, _ => (List.nil_perm.mp p).symm
  | a :: as, [], p, _, _ => absurd (List.perm_nil.mp p) (by simp)
  | a :: as, b :: bs, p, h1, h2 => by
    rw [List.pairwise_cons] at h1 h2
    have hab : a = b := by
      have h3 : a ∈ b :: bs := p.subset List.mem_cons_self
      have h4 : b ∈ a :: as := p.symm.subset List.mem_cons_self
      rcases List.mem_cons.mp h3 with h3 | h3
      · exact h3
      · rcases List.mem_cons.mp h4 with h4 | h4
        · exact h4.symm
        · have := h1.1 b h4
          have := h2.1 a h3
          omega
    subst hab
    rw [sorted_one ((List.perm_cons a).mp p) h1.2 h2.2]
theorem rd_sortedI {p : Addr} {ns ms : List Int} (h : SqL K H p (ns.map V.int)) (pm : ms.Perm ns) (srt : ms.Pairwise (· ≤ ·)) (q : ∀ r, H r = none → Q (.ref r) (upd H r (.lst (ms.map V.int)))) : rSortedI K [.ref p] H Q :=
  ⟨p, ns, rfl, h, fun ns' r p2 s2 nr => by
    have e : ns' = ms := sorted_one (p2.trans pm.symm) s2 srt
    rw [e]
    exact q r nr⟩
/-- a new list from two -/
theorem rd_catL {l b : Addr} {xs zs : List V} (h1 : H l = some (.lst xs)) (h2 : H b = some (.lst zs)) (hl : xs.length + zs.length ≤ 100000) (q : ∀ p, H p = none → Q (.ref p) (upd H p (.lst (xs ++ zs)))) : rCat (.ref l) (.ref b) H Q :=
  ⟨l, b, xs, zs, rfl, rfl, h1, h2, sz hl, q⟩
theorem rd_revL {σ : St} {te : TE} (h : te σ H fun x H1 => ∃ a xs, x = .ref a ∧ SqL K H1 a xs ∧ ∀ p, H1 p = none → Q (.ref p) (upd H1 p (.lst xs.reverse))) : tRevL K te σ H Q := h
end
end My
/-! All words over the first letters, up to a length. Plain. -/
namespace Wds
/-- the words of m letters over the first n -/
def exact (n : Nat) : Nat → List (List Nat)
  | 0 => [[]]
  | m + 1 => (List.range n).flatMap fun c => (exact n m).map fun w => (97 + c) :: w
def upto (n m : Nat) : List (List Nat) := (List.range (m + 1)).flatMap (exact n)
theorem mem_exact {n : Nat} : ∀ (m : Nat) (l : List Nat), l.length = m → (∀ c ∈ l, 97 ≤ c ∧ c < 97 + n) → l ∈ exact n m
  | 0, l, h, _ => by
    have : l = [] := List.length_eq_zero_iff.mp h
    subst this
    exact List.mem_singleton.mpr rfl
  | m + 1, [], h, _ => by cases h
  | m + 1, c :: l, h, w => by
    have h2 := w c List.mem_cons_self
    refine List.mem_flatMap.mpr ⟨c - 97, List.mem_range.mpr (by omega), List.mem_map.mpr ⟨l, mem_exact m l (by simpa using h) fun d hd => w d (List.mem_cons_of_mem _ hd), ?_⟩⟩
    rw [show 97 + (c - 97) = c by omega]
theorem mem_upto {n m : Nat} {l : List Nat} (h : l.length ≤ m) (w : ∀ c ∈ l, 97 ≤ c ∧ c < 97 + n) : l ∈ upto n m :=
  List.mem_flatMap.mpr ⟨l.length, List.mem_range.mpr (by omega), mem_exact _ l rfl w⟩
end Wds
/-! min of data, comprehensions over zip. -/
namespace My
open PySem PySem.Spec L2 SX
open PyProof.Rows hiding St
section
variable {X : Cx} {H : Hp} {Q : VK} {K : PySem.W.Frag}
/-- min(xs), xs a list of alike data -/
def rMinD (K : PySem.W.Frag) : List V → Hp → VK → Prop := fun vs H Q => ∃ (a : Addr) (xs : List V) (d : PyData) (ds : List PyData), vs = [V.ref a] ∧ SqL K H a xs ∧ DpAll K H xs (d :: ds) ∧ PySem.W.AlikeAll (d :: ds) ∧ SeqAt.shaped (.list (d :: ds)) = true ∧
  ∀ (i : Nat) (v : V), xs[i]? = some v → (d :: ds)[i]? = some (PySem.W.minD d ds) → Q v H
theorem dpAll_len : ∀ {xs : List V} {ds : List PyData}, DpAll K H xs ds → xs.length = ds.length
  | _, _, .nil => rfl
  | _, _, .cons _ t => by rw [List.length_cons, List.length_cons, dpAll_len t]
theorem reads_keep {h h' : Heap} (k : ∀ b o, h.get? b = some o → h'.get? b = some o) {v : Value} {d : PyData} {as : List Addr} (r : Reads h v d as) : Reads h' v d as := PyProof.Rows.Reads.keeps k r
theorem cr_minD (hc : X.calm = true) (hu : X.A.units + 100 < cLine) : CallR X (.builtin "min") (rMinD X.K) := by
  intro pins s σ H vs us Q I r h
  obtain ⟨a, xs, d, ds, rfl, hs, hd, hal, hsh, q⟩ := h
  obtain ⟨its, rv, hl, _⟩ := I.list hs
  rw [Vals.ref1 r]
  obtain ⟨as, hr⟩ := Dp.readsAll I (d :: ds) xs its hd rv
  have hcan : PyData.canLayAll0 (d :: ds) = true := SeqAt.canLay_of_shaped hsh
  have hdep : PyData.depthAll (d :: ds) + 1 ≤ 64 := SeqAt.depth_of_shaped hsh
  refine PySem.W.min_list_data (I.ok.hd hc) hl.isList (vs := its.toArray) (by simpa using hr) hal (by omega) fun i v h' tk bs hv hrd hk => ?_
  have hv2 : its[i]? = some v := by simpa using hv
  have hil : i < its.length := (List.getElem?_eq_some_iff.mp hv2).1
  have hxl : i < xs.length := by rw [rv.length]; exact hil
  obtain ⟨u, hu2, ru⟩ := rv.get (List.getElem?_eq_getElem hxl)
  rw [hv2] at hu2
  cases hu2
  have hdl : i < (d :: ds).length := by rw [← dpAll_len hd]; exact hxl
  have hvd : its[i]? = some v := hv2
  obtain ⟨bs2, r2, _, hm, _⟩ := PySem.W.readsAll_at hr i v hv2
  have hci : ((d :: ds).getD i .none).canLay0 = true := PyData.canLay0_of_mem (d :: ds) _ hcan hm
  have e := PySem.SeqAt.Reads.unique _ _ _ _ _ hci (reads_keep hk r2) hrd
  refine ⟨xs[i], H, I.kept hk, ru, q i _ (List.getElem?_eq_getElem hxl) ?_⟩
  rw [List.getElem?_eq_getElem hdl]
  rw [List.getD_eq_getElem?_getD, List.getElem?_eq_getElem hdl] at e
  exact congrArg some e

/-! ### pairs of a text and an int -/
def ltSI (a b : List Nat × Int) : Bool := decide (a.1 < b.1) || (decide (a.1 = b.1) && decide (a.2 < b.2))
def minSI (a : List Nat × Int) (l : List (List Nat × Int)) : List Nat × Int := l.foldl (fun m y => if ltSI y m then y else m) a
def toSI (a : List Nat × Int) : PyData := dSI a.1 a.2
theorem alikeSI (a b : List Nat × Int) : PySem.W.alike (toSI a) (toSI b) = true := by simp [toSI, dSI, PySem.W.alike, PySem.W.alikeAll]
theorem dataLtSI (a b : List Nat × Int) : PySem.W.dataLt (toSI a) (toSI b) = ltSI a b := by
  unfold toSI dSI ltSI
  rw [PySem.W.dataLt_pair (by simp [PySem.W.alike]) (by simp [PySem.W.alike]), PySem.W.dataLt_int, PySem.W.dataLt_str, eqStr]
  have e : PyData.eqv (.int a.2) (.int b.2) = decide (a.2 = b.2) := by simp only [PyData.eqv]; by_cases e : a.2 = b.2 <;> simp [e]
  rw [e]
  show (if decide (a.1 = b.1) = true then _ else decide (a.1 < b.1)) = _
  by_cases h1 : a.1 = b.1
  · rw [decide_eq_true h1, if_pos rfl, h1]
    have h2 : decide (b.1 < b.1) = false := decide_eq_false (List.lt_irrefl _)
    rw [h2]
    by_cases h3 : a.2 = b.2
    · simp [h3]
    · simp [h3]
  · rw [decide_eq_false h1, if_neg Bool.false_ne_true]
    simp
theorem minSI_D (a : List Nat × Int) : ∀ l : List (List Nat × Int), PySem.W.minD (toSI a) (l.map toSI) = toSI (minSI a l) := by
  intro l
  unfold PySem.W.minD minSI
  induction l generalizing a with
  | nil => rfl
  | cons b l ih =>
    rw [List.map_cons, List.foldl_cons, List.foldl_cons, dataLtSI]
    by_cases h : ltSI b a = true
    · rw [if_pos h, if_pos h]; exact ih b
    · rw [if_neg h, if_neg h]; exact ih a
theorem canSI (a : List Nat × Int) (h : OkW a.1) : (toSI a).canLay0 = true := by
  show (PyData.canLay0 (.str (S a.1)) && (PyData.canLay0 (.int a.2) && true)) = true
  rw [canStr h]; rfl
theorem canAllSI : ∀ l : List (List Nat × Int), (∀ a ∈ l, OkW a.1) → PyData.canLayAll0 (l.map toSI) = true
  | [], _ => rfl
  | a :: l, h => by
    show (PyData.canLay0 (toSI a) && PyData.canLayAll0 (l.map toSI)) = true
    rw [canAllSI l fun b hb => h b (List.mem_cons_of_mem _ hb), canSI a (h a List.mem_cons_self)]; rfl
theorem depAllSI : ∀ l : List (List Nat × Int), PyData.depthAll (l.map toSI) ≤ 1
  | [] => Nat.zero_le _
  | a :: l => by
    show max (PyData.depth (toSI a)) (PyData.depthAll (l.map toSI)) ≤ 1
    have h1 : PyData.depth (toSI a) = 1 := rfl
    have := depAllSI l
    omega
theorem toSI_inj {a b : List Nat × Int} (h : toSI a = toSI b) : a = b := by
  unfold toSI dSI at h
  injection h with h
  injection h with h1 h2
  injection h2 with h2 _
  injection h1 with h1
  injection h2 with h2
  exact Prod.ext (S_inj h1) h2
/-- the list's items: new tuples, as they stand -/
def TupsAt (H : Hp) : List V → List (List Nat × Int) → Prop := Paired fun v a => ∃ t, v = .ref t ∧ H t = some (.tup [.str (S a.1), .int a.2])
theorem dpTups : ∀ {vs : List V} {l : List (List Nat × Int)}, TupsAt H vs l → DpAll K H vs (l.map toSI)
  | _, _, .nil => .nil
  | _, _, .cons ⟨t, e, h⟩ r => by
    subst e
    exact .cons (dpSI (SqT.of h)) (dpTups r)
theorem tups_at {vs : List V} {l : List (List Nat × Int)} (h : TupsAt H vs l) {i : Nat} {v : V} {a : List Nat × Int} (hv : vs[i]? = some v) (ha : l[i]? = some a) : ∃ t, v = .ref t ∧ H t = some (.tup [.str (S a.1), .int a.2]) := by
  induction h generalizing i with
  | nil => simp at hv
  | cons r _ ih =>
    cases i with
    | zero =>
      simp at hv ha
      subst hv ha
      exact r
    | succ i => exact ih (by simpa using hv) (by simpa using ha)
theorem rd_minSI {p : Addr} {vs : List V} {a : List Nat × Int} {l : List (List Nat × Int)} (hs : SqL K H p vs) (ht : TupsAt H vs (a :: l)) (ho : ∀ b ∈ a :: l, OkW b.1)
    (q : ∀ t, H t = some (.tup [.str (S (minSI a l).1), .int (minSI a l).2]) → Q (.ref t) H) : rMinD K [.ref p] H Q := by
  refine ⟨p, vs, toSI a, l.map toSI, rfl, hs, dpTups ht, ⟨?_, ?_⟩, ?_, fun i v hv hd => ?_⟩
  · intro x hx y hy
    have hx2 : x ∈ (a :: l).map toSI := hx
    have hy2 : y ∈ (a :: l).map toSI := hy
    obtain ⟨b, _, rfl⟩ := List.mem_map.mp hx2
    obtain ⟨c, _, rfl⟩ := List.mem_map.mp hy2
    exact alikeSI b c
  · intro x hx
    have hx2 : x ∈ (a :: l).map toSI := hx
    obtain ⟨b, _, rfl⟩ := List.mem_map.mp hx2
    exact fun z => nomatch z
  · unfold SeqAt.shaped
    have h1 : PyData.canLay0 (.list ((a :: l).map toSI)) = true := canAllSI _ ho
    have h2 : PyData.depth (.list ((a :: l).map toSI)) ≤ 64 := by
      show PyData.depthAll ((a :: l).map toSI) + 1 ≤ 64
      have := depAllSI (a :: l)
      omega
    rw [Bool.and_eq_true]
    exact ⟨h1, decide_eq_true h2⟩
  · rw [minSI_D] at hd
    have hd2 : ((a :: l).map toSI)[i]? = some (toSI (minSI a l)) := hd
    rw [List.getElem?_map] at hd2
    cases e : (a :: l)[i]? with
    | none => rw [e] at hd2; cases hd2
    | some b =>
      rw [e] at hd2
      have e2 := toSI_inj (Option.some.inj hd2)
      subst e2
      obtain ⟨t, rfl, hst⟩ := tups_at ht hv e
      exact q t hst

/-! ### comprehensions over zip -/
variable {σ : St} {te : TE} {vs : List Nat} {R : It → Hp → Prop}
/-- the target (a, b) of names -/
abbrev g2 (K : PySem.W.Frag) (i j : Nat) : TG := gTup K 2 (gCons (gName i) (gCons (gName j) gNil))
theorem lcZ {J : It} {n : Nat} {G : Hp → Prop} {A B : Nat → Option V} (w : Walk J n G (YPair A B)) (hG : ∀ H', Same H H' → G H') {i j : Nat} (f : Nat → V) (hn : n ≤ 50000)
    (hw : ∀ x y, wipe (((wipe σ vs).set i (some x)).set j (some y)) vs = wipe σ vs)
    (he : ∀ k x y, k < n → A k = some x → B k = some y → PE0 te (((wipe σ vs).set i (some x)).set j (some y)) H (f k))
    (q : ∀ D H', H D = none → Same H H' → H' D = some (.lst ((List.range n).map f)) → Q (.ref D) H') : LcG J (g2 K i j) tYes te vs σ Q H := by
  intro D hD
  refine lc_it w (fun k H' => Same H H' ∧ H' D = some (.lst ((List.range k).map f))) ⟨Same.new hD, upd_same⟩ (fun k H' _ p => hG H' p.1) ?_ ?_
  · rintro k x H1 H1' hk ⟨s1, hd⟩ ⟨T, x, y, rfl, hT, rfl, ha, hb⟩
    refine ⟨T, [x, y], rfl, SqT.of upd_same, rfl, x, [y], rfl, y, [], rfl, rfl, hw x y, ?_⟩
    unfold tYes; dsimp only
    rw [if_pos rfl]
    have s2 : Same H (upd H1 T (.tup [x, y])) := fun b o e => by rw [upd_ne (ne_of_none (s1 b o e) hT)]; exact s1 b o e
    refine he k x y hk ha hb _ s2 _ fun H3 s3 => ?_
    have hDT : D ≠ T := ne_of_none hd hT
    refine ⟨_, s3 _ _ (by rw [upd_ne hDT]; exact hd), ?_, Same.mut (s2.trans s3) hD, ?_⟩
    · rw [List.length_map, List.length_range]
      exact szlt (by omega)
    · rw [upd_same, List.range_succ, List.map_append]
      rfl
  · rintro H1 ⟨s1, hd⟩
    exact q D H1 hD s1 hd
theorem walk_zipT {a b : Addr} {xs ys : List V} (hl : xs.length = ys.length) : Walk (RZ.ItzT K a b) xs.length (fun H => SqT K H a xs ∧ SqT K H b ys) (YPair (fun i => xs[i]?) (fun i => ys[i]?)) := by
  refine ⟨fun i _ hi q => ?_, fun _ q => ⟨xs, ys, q.1, q.2, .inl (Nat.le_refl _)⟩, fun i H v H' _ q y => ?_⟩
  · have h2 : i < ys.length := by omega
    exact ⟨xs, ys, xs[i], ys[i], q.1, q.2, by simp [hi], by simp [h2]⟩
  · obtain ⟨T, x, z, h1, h2, h3, h4, h5⟩ := y
    exact ⟨T, x, z, h1, h2, h3, h4 xs q.1, h5 ys q.2⟩
def qZip (K : PySem.W.Frag) (vs : List V) (H1 : Hp) (R : It → Hp → Prop) : Prop := ∃ a b xs ys, vs = [.ref a, .ref b] ∧ ((SqL K H1 a xs ∧ SqL K H1 b ys ∧ R (Itz K a b) H1) ∨ (SqT K H1 a xs ∧ SqT K H1 b ys ∧ R (RZ.ItzT K a b) H1))
theorem rd_iZip {ta : TA} (h : ta σ H fun vs H1 => qZip K vs H1 R) : RZ.iZipA K ta σ H R := h
theorem rd_zipL {a b : Addr} {xs ys : List V} (h1 : SqL K H a xs) (h2 : SqL K H b ys) (q : R (Itz K a b) H) : qZip K [.ref a, .ref b] H R := ⟨a, b, xs, ys, rfl, .inl ⟨h1, h2, q⟩⟩
theorem rd_zipT {a b : Addr} {xs ys : List V} (h1 : SqT K H a xs) (h2 : SqT K H b ys) (q : R (RZ.ItzT K a b) H) : qZip K [.ref a, .ref b] H R := ⟨a, b, xs, ys, rfl, .inr ⟨h1, h2, q⟩⟩
/-- all, any -/
theorem rd_all {p : Addr} {bs : List Bool} (h : SqL K H p (bs.map V.bl)) (q : Q (.bl (bs.all id)) H) : rAll K [.ref p] H Q := ⟨p, bs, rfl, h, q⟩
theorem rd_any {p : Addr} {bs : List Bool} (h : SqL K H p (bs.map V.bl)) (q : Q (.bl (bs.any id)) H) : rAny K [.ref p] H Q := ⟨p, bs, rfl, h, q⟩
/-- isinstance with a tuple of types just made -/
theorem rd_isiT {x : V} {t : Value} {tp : Addr} {cs : List V} {us : List Value} {b : Bool} (h : H tp = some (.tup cs)) (p : Paired ClsV cs us) (ty : TyX K H x t) (k : PySem.W.kitAny K t us = some b) (q : Q (.bl b) H) : rIsiT K [x, .ref tp] H Q := ⟨x, tp, cs, t, us, b, rfl, h, p, ty, k, q⟩
theorem rd_isiTL {x : V} {a : String} {tp : Addr} {r1 r2 : Bool} (h : H tp = some (.tup [.ty "tuple", .ty "list"])) (ty : TyX K H x (.type a)) (k1 : kitB a "tuple" = some r1) (k2 : kitB a "list" = some r2) (q : Q (.bl (r1 || r2)) H) : rIsiT K [x, .ref tp] H Q := by
  refine rd_isiT h (.cons (.ty _) (.cons (.ty _) .nil)) ty ?_ q
  cases r1 with
  | true => exact kitAny_cons (kit_ty k1) (fun z => nomatch z) fun _ => rfl
  | false =>
    refine kitAny_cons (b := false) (kit_ty k1) (fun _ => ?_) fun z => nomatch z
    cases r2 with
    | true => exact kitAny_cons (kit_ty k2) (fun z => nomatch z) fun _ => rfl
    | false => exact kitAny_cons (b := false) (kit_ty k2) (fun _ => kitAny_nil) fun z => nomatch z
end
end My
/-! Small rules: replace of written texts, room. -/
namespace My
open PySem PySem.Spec L2 SX
open PyProof.Rows hiding St
section
variable {X : Cx} {x y z : Str} {i j k : Nat} {cx c0 c1 apos pos : Pos}
theorem pe_replLit (l : List Nat) (hl : Txt.replace x y z = S l) (hb : x.length + (x.length + 1) * z.length ≤ 16777216) (hyz : (y == z) = false := by decide)
    (hst : starEach [.Constant (.str y) j c0, .Constant (.str z) k c1] X.env = [(false, eval (.Constant (.str y) j c0) X.env), (false, eval (.Constant (.str z) k c1) X.env)] := by rfl)
    (hbase : attributeBase (.Constant (.str x) i cx) "replace" X.env (eval (.Constant (.str x) i cx) X.env) = eval (.Constant (.str x) i cx) X.env := by rfl) (hline : (apos.endLine == pos.line) = true := by rfl) :
    PE X (.Call (.Attribute (.Constant (.str x) i cx) "replace" apos) [.Constant (.str y) j c0, .Constant (.str z) k c1] [] pos) (tC (.str (S l))) := by
  refine ⟨fun pins s σ H Q I h => ?_⟩
  refine PySem.Call_method2 hbase hst hline (Calls.Constant_str ?_)
  refine ⟨"str", _, PySem.F.plainAttrs_str, PySem.F.slot_str_replace, PySem.F.type_str_replace, typeIs_str _ _ _, (fun _ e => nomatch e), Calls.callWith_builtin rfl (Calls.evalArgs_plain (Calls.spliced_cons ?_))⟩
  refine Calls.Constant_str (Calls.spliced_cons (Calls.Constant_str (Calls.spliced_nil ?_)))
  refine PySem.SC.replace (by show s.toks + 1 ≠ 0; omega) (by show s.toks + 1 + 1 ≠ 0; omega) (by show s.toks + 1 ≠ s.toks + 1 + 1; omega) hyz hb fun t' hk => ⟨.str (S l), H, (I.tok _).tok hk, ⟨t', by rw [hl]⟩, h⟩
end
theorem pg_two {X : Cx} {i j k : Nat} {x y : Str} {p q pos : Pos} (K : PySem.W.Frag) (hK : X.K = K) (hc : X.calm = true) (hN : X.N.Nodup) (hi : X.N[i]? = some x) (hx : Loc X.env.scope x) (hj : X.N[j]? = some y) (hy : Loc X.env.scope y)
    (h1 : X.fn x = true ∨ X.env.scope.names.lookup x = some .local := by first | exact .inl rfl | exact .inr rfl | assumption)
    (h2 : X.fn y = true ∨ X.env.scope.names.lookup y = some .local := by first | exact .inl rfl | exact .inr rfl | assumption) :
    PG X (.Tuple [.Name x p, .Name y q] k pos) (gTup K 2 (gCons (gName i) (gCons (gName j) gNil))) := by
  subst hK
  exact pg_tup hc (pgs_cons (pg_name hN hi hx h1) (pgs_cons (pg_name hN hj hy h2) pgs_nil))
theorem rd_slS_mid {H : Hp} {Q : VK} {l : List Nat} {i j : Int} (hl : l.length ≤ 100000) (h0 : 0 ≤ i) (h1 : i ≤ j) (h2 : j ≤ (l.length : Int)) (q : Q (.str (S ((l.drop i.toNat).take (j - i).toNat))) H) : C8.rSlX (.str (S l)) (some i) (some j) H Q := by
  refine ⟨S l, rfl, by rw [S_len]; exact sz hl, ?_⟩
  have e : Txt.slice (S l) (some i) (some j) = S ((l.drop i.toNat).take (j - i).toNat) :=
    (beq_iff_eq.mp (PyProof.Rows.slice_closesL (x := S l) h0 h1 (by rw [S_len]; exact h2))).trans (TL.ext_tl rfl)
  rw [e]
  exact q
theorem one_lt {x y : Nat} : [x] < [y] ↔ x < y := by
  rw [List.cons_lt_cons_iff]
  simp
theorem paired_snoc {α β : Type} {R : α → β → Prop} {as : List α} {bs : List β} {a : α} {b : β} (h : Paired R as bs) (r : R a b) : Paired R (as ++ [a]) (bs ++ [b]) := by
  induction h with
  | nil => exact .cons r .nil
  | cons x _ ih => exact .cons x ih
/-- a while with what holds behind it said once -/
theorem rd_whileX {σ : St} {H : Hp} {tt : TT} {tb : TS} {nx : St → Hp → Prop} {rt : VK} {bk ct : St → Hp → Prop} (W : Nat → St → Hp → Prop) (Ex : St → Hp → Prop) (m0 : Nat) (h0 : W m0 σ H) (hx : ∀ σ H, Ex σ H → nx σ H)
    (hs : (∀ σ H, Ex σ H → nx σ H) → ∀ m σ H, W m σ H → tt σ H fun b H1 => if b = true then WhB W m tb rt nx σ H1 else nx σ H1) : tWhile tt tb ⟨nx, rt, bk, ct⟩ σ H :=
  rd_while W m0 h0 (hs hx)
theorem rd_two {a b : V} {R : V → V → Prop} (h : R a b) : ∃ v w, [a, b] = [v, w] ∧ R v w := ⟨a, b, rfl, h⟩
theorem rd_evT {b : Bool} {A B : Prop} (h : b = true) (q : A) : if b = true then A else B := by rw [if_pos h]; exact q
theorem rd_evF {b : Bool} {A B : Prop} (h : b = false) (q : B) : if b = true then A else B := by rw [if_neg (by rw [h]; exact Bool.false_ne_true)]; exact q
theorem Room.u100 {k : Nat} {A : Around} (r : Room k A) : A.units + 100 < cLine := by have := r.un; omega
theorem Room.u65 {k : Nat} {A : Around} (r : Room k A) : A.units + 65 < cLine := by have := r.un; omega
end My
/-! zip of two texts. -/
namespace My
open PySem PySem.Spec L2 SX
open PyProof.Rows hiding St
/-- the signs of two texts, in new pairs -/
def ItzS (x y : Str) : It :=
  ⟨fun i _ => i < min x.cps.size y.cps.size, fun i H v H' => ∃ T c d, v = .ref T ∧ H T = none ∧ H' = upd H T (.tup [.str ⟨#[c]⟩, .str ⟨#[d]⟩]) ∧ x.cps[i]? = some c ∧ y.cps[i]? = some d, fun i _ => i = min x.cps.size y.cps.size⟩
theorem turn_zipS {P : Program} {w : World} {K : PySem.W.Frag} {elts : List Expr} {kk : Nat} {tpos : Pos} {z TI TO i1 i2 : Addr} {x y : Str} {t u : Tok} (D : ZipSep2 z TI TO i1 i2 [i1] [i2]) :
    Turn P w K (.Tuple elts kk tpos) (ItzS x y) [z, TI, TO, i1, i2] z (fun i h => IsZip h z TI TO .none ∧ IsTupOf2 h TI (.ref i1) (.ref i2) ∧ (∃ a b, IsTupOf2 h TO a b) ∧ h.IsStrIter i1 (strIterType x) x t i ∧ h.IsStrIter i2 (strIterType y) y u i) where
  mem := by simp
  obj := fun i h st c hc => by
    obtain ⟨hz, hTI, ⟨a, b, hTO⟩, ⟨o1, e1, _, d1⟩, ⟨o2, e2, _, d2⟩⟩ := st
    have e' : c = z ∨ c = TI ∨ c = TO ∨ c = i1 ∨ c = i2 := by simpa using hc
    rcases e' with q | q | q | q | q
    · rw [q]; exact ⟨_, hz, fun v q => nomatch q⟩
    · rw [q]; exact ⟨_, hTI, fun v q => nomatch q⟩
    · rw [q]; exact ⟨_, hTO, fun v q => nomatch q⟩
    · rw [q]; exact ⟨o1, e1, fun v q => by rw [d1] at q; cases q⟩
    · rw [q]; exact ⟨o2, e2, fun v q => by rw [d2] at q; cases q⟩
  keep := fun i h h' st k => by
    obtain ⟨hz, hTI, ⟨a, b, hTO⟩, ⟨o1, e1, r1⟩, ⟨o2, e2, r2⟩⟩ := st
    exact ⟨k z (by simp) _ hz, k TI (by simp) _ hTI, ⟨a, b, k TO (by simp) _ hTO⟩, ⟨o1, k i1 (by simp) _ e1, r1⟩, ⟨o2, k i2 (by simp) _ e2, r2⟩⟩
  item := by
    intro X hP hw hK hc i pins s σ H E I hf st hg
    subst hP hw hK
    obtain ⟨hz, hTI, ⟨x0, y0, hTO⟩, h1, h2⟩ := st
    have hg2 : i < min x.cps.size y.cps.size := hg
    have hzl : z < s.heap.objs.size := Heap.lt_size hz
    have D1 := Draws.text (prog := X.prog) (w := X.w) (A := X.A.in1) (I.ok.hd hc) i1 x t
    have D2 := Draws.text (prog := X.prog) (w := X.w) (A := X.A.in1) (I.ok.hd hc) i2 y u
    refine wpAny_pyNext_zipD2_item (i := i) D D1 D2 hz hTI hTO h1 h2 (by omega) (by omega) fun v1 v2 h' tk p1 p2 z' TO' h1' h2' hT hsz hk => ?_
    obtain ⟨c, t1, hc1, rfl⟩ := p1
    obtain ⟨d, t2, hd2, rfl⟩ := p2
    refine ⟨_, rfl, wpAny_letOwnedTupleGo_zip (s := { s with heap := h', toks := tk }) z' fun h'' z'' sb => ?_⟩
    have hT2 : h''.get? s.heap.objs.size = some { cls := .type "tuple", data := .seq #[.str ⟨#[c]⟩ t1, .str ⟨#[d]⟩ t2] } := (sb.2 _ (Nat.ne_of_gt hzl)).trans hT
    have new : ObjOk X.prog X.w (upd H s.heap.objs.size (.tup [.str ⟨#[c]⟩, .str ⟨#[d]⟩])) h'' s.heap.objs.size (.tup [.str ⟨#[c]⟩, .str ⟨#[d]⟩]) :=
      ⟨by show 2 ≤ sizeLine; decide, [.str ⟨#[c]⟩ t1, .str ⟨#[d]⟩ t2], .cons ⟨t1, rfl⟩ (.cons ⟨t2, rfl⟩ .nil), ⟨_, hT2, rfl, _, rfl⟩⟩
    have I1 : Inv X pins σ (upd H s.heap.objs.size (.tup [.str ⟨#[c]⟩, .str ⟨#[d]⟩])) { s with heap := h'', toks := tk } :=
      I.turnedNew (t' := tk) (ch := [z, TI, TO, i1, i2]) (fun c o hb q => (sb.2 c (fun q' => hb (by simp [q']))).trans (hk c o (fun q' => hb (by simp [q'])) (fun q' => hb (by simp [q'])) (fun q' => hb (by simp [q'])) (fun q' => hb (by simp [q'])) q)) hf (Nat.le_refl _) new
    refine ⟨.ref s.heap.objs.size, _, I1, rfl, ⟨_, c, d, rfl, I.hok.fresh (Nat.le_refl _), rfl, hc1, hd2⟩, ⟨z'', ?_, ⟨.str ⟨#[c]⟩ t1, .str ⟨#[d]⟩ t2, ?_⟩, ?_, ?_⟩, fun b hbm => ?_⟩
    · exact (sb.2 _ D.TIz).trans (hk _ _ D.TIz D.TITO D.TIi1 D.TIi2 hTI)
    · exact (sb.2 _ D.TOz).trans TO'
    · obtain ⟨o, e, r⟩ := h1'
      exact ⟨o, (sb.2 _ (Ne.symm D.zi1)).trans e, r⟩
    · obtain ⟨o, e, r⟩ := h2'
      exact ⟨o, (sb.2 _ (Ne.symm D.zi2)).trans e, r⟩
    · have hlt : b < s.heap.objs.size := by
        have e' : b = z ∨ b = TI ∨ b = TO ∨ b = i1 ∨ b = i2 := by simpa using hbm
        rcases e' with q | q | q | q | q
        · rw [q]; exact hzl
        · rw [q]; exact Heap.lt_size hTI
        · rw [q]; exact Heap.lt_size hTO
        · rw [q]; obtain ⟨_, e1, _⟩ := h1; exact Heap.lt_size e1
        · rw [q]; obtain ⟨_, e2, _⟩ := h2; exact Heap.lt_size e2
      rw [upd_ne (Nat.ne_of_lt hlt)]
      exact (hf b hbm).1
  done := by
    intro X hP hw hK hc i pins s σ H E I hf st hg
    subst hP hw hK
    obtain ⟨hz, hTI, ⟨x0, y0, hTO⟩, h1, h2⟩ := st
    have hg2 : i = min x.cps.size y.cps.size := hg
    have D1 := Draws.text (prog := X.prog) (w := X.w) (A := X.A.in1) (I.ok.hd hc) i1 x t
    have D2 := Draws.text (prog := X.prog) (w := X.w) (A := X.A.in1) (I.ok.hd hc) i2 y u
    exact wpAny_pyNext_zipD2_end (i := i) D D1 D2 hz hTI hTO h1 h2 (by omega) (by omega) (by omega) fun h' tk hk => ⟨rfl, I.turnedL (t' := tk) (ch := [z, TI, TO, i1, i2]) (fun c o hb q =>
      hk c o (fun q' => hb (by simp [q'])) (fun q' => hb (by simp [q'])) (fun q' => hb (by simp [q'])) (fun q' => hb (by simp [q'])) q) hf⟩
  self := fun A i s Q E st h => wpAny_pyIter_zip st.1 h
def iZipS (ta : TA) : TI := fun σ H R => ta σ H fun vs H1 => ∃ x y, vs = [.str x, .str y] ∧ R (ItzS x y) H1
theorem pi_zipS {X : Cx} {e e2 : Expr} {ta : TA} {p pos tpos : Pos} {elts : List Expr} {kk : Nat} (hg : Gl X "zip") (hm : X.mg "zip" = none) (ha : PA X [e, e2] ta)
    (hs : starEach [e, e2] X.env = (false, eval e X.env) :: starEach [e2] X.env := by rfl) (hpl : (backTo pos (starEach [e2] X.env)).any (·.1) = false := by rfl) :
    PI X (.Tuple elts kk tpos) (.Call (.Name "zip" p) [e, e2] [] pos) (iZipS ta) := by
  refine ⟨fun pins s σ H R I h => ?_⟩
  refine Call_ (ld_blt I hg hm PyProof.Rows.boot_zip (PyProof.Rows.callWith_type1 (thn (ha.run pos pins s σ H _ I h) fun us s1 ⟨vs, H1, I1, r1, q1⟩ => ?_) hs hpl))
  obtain ⟨x, y, ex, q⟩ := q1
  subst ex
  cases r1 with
  | cons r rr =>
    cases rr with
    | cons r' rr =>
      cases rr
      obtain ⟨t, rfl⟩ := r
      obtain ⟨u, rfl⟩ := r'
      have fresh5 : ∀ c, c ∈ [s1.heap.objs.size + 4, s1.heap.objs.size + 2, s1.heap.objs.size + 3, s1.heap.objs.size, s1.heap.objs.size + 1] → FpOk X pins H1 c := fun c hcm => by
        have e' : c = s1.heap.objs.size + 4 ∨ c = s1.heap.objs.size + 2 ∨ c = s1.heap.objs.size + 3 ∨ c = s1.heap.objs.size ∨ c = s1.heap.objs.size + 1 := by simpa using hcm
        have hle : s1.heap.objs.size ≤ c := by omega
        exact I1.fpOk hle (I1.hok.fresh hle)
      refine zip_begins2 (begins_text x t) (begins_text y u) trivial trivial fun h' hz hTI hTO h1 h2 hsz hk => wpAny_pyIter_zip hz ?_
      have I2 : Inv X pins σ H1 { s1 with heap := h' } := I1.kept (t' := s1.toks) hk
      refine ⟨s1.heap.objs.size + 4, [s1.heap.objs.size + 4, s1.heap.objs.size + 2, s1.heap.objs.size + 3, s1.heap.objs.size, s1.heap.objs.size + 1], _, _, H1, rfl, I2, turn_zipS (t := t) (u := u) ?_, ⟨hz, hTI, ⟨_, _, hTO⟩, ⟨_, h1, rfl, rfl⟩, ⟨_, h2, rfl, rfl⟩⟩, fresh5, q⟩
      constructor <;> first | omega | simp
section
variable {σ : St} {H : Hp} {te : TE} {ta : TA} {vs : List Nat} {Q : VK} {R : It → Hp → Prop}
def qZipS (vs : List V) (H1 : Hp) (R : It → Hp → Prop) : Prop := ∃ x y, vs = [.str x, .str y] ∧ R (ItzS x y) H1
theorem rd_iZipS (h : ta σ H fun vs H1 => qZipS vs H1 R) : iZipS ta σ H R := h
theorem rd_zipS {l m : List Nat} (q : R (ItzS (S l) (S m)) H) : qZipS [.str (S l), .str (S m)] H R := ⟨S l, S m, rfl, q⟩
theorem walk_zipS {l m : List Nat} (hl : m.length ≤ l.length) : Walk (ItzS (S l) (S m)) m.length (fun _ => True) (YPair (fun i => l[i]?.map fun c => V.str (S [c])) (fun i => m[i]?.map fun c => V.str (S [c]))) := by
  have e1 : (S l).cps.size = l.length := by simp
  have e2 : (S m).cps.size = m.length := by simp
  refine ⟨fun i _ hi _ => ?_, fun _ _ => ?_, fun i H v H' _ _ y => ?_⟩
  · show i < min _ _
    omega
  · show m.length = min _ _
    omega
  · obtain ⟨T, c, d, h1, h2, h3, h4, h5⟩ := y
    refine ⟨T, .str ⟨#[c]⟩, .str ⟨#[d]⟩, h1, h2, h3, ?_, ?_⟩
    · have : l[i]? = some c := by simpa using h4
      dsimp only
      rw [this]
      rfl
    · have : m[i]? = some d := by simpa using h5
      dsimp only
      rw [this]
      rfl
end
end My
/-! x in a tuple of lists, list(range), dicts of ints, unpacking of lists, max. -/
namespace My
open PySem PySem.Spec L2 SX
open PyProof.Rows hiding St
section
variable {X : Cx} {K : PySem.W.Frag} {H : Hp} {Q : VK} {σ : St}
def rInT (K : PySem.W.Frag) (neg : Bool) : R2 := fun x y H Q => ∃ d ds, Dp K H x d ∧ Dp K H y (.tuple ds) ∧ SeqAt.shaped d = true ∧ SeqAt.shaped (.tuple ds) = true ∧ Q (.bl (if neg then !(ds.any fun z => PyData.eqv z d) else ds.any fun z => PyData.eqv z d)) H
theorem op_inT (K : PySem.W.Frag) (hK : X.K = K) (hu : X.A.units + 65 < cLine) : OpR X (compareOp .In) (rInT K false) := by
  subst hK
  intro pins s σ H x y v u Q I rx ry h
  obtain ⟨d, ds, hd, he, sd, se, q⟩ := h
  obtain ⟨as, r1⟩ := Dp.reads I d x v hd rx
  obtain ⟨bs, r2⟩ := Dp.reads I (.tuple ds) y u he ry
  exact SeqAt.in_tuple_reads r2 r1 (SeqAt.canLay_of_shaped se) (SeqAt.canLay_of_shaped sd) (room_in_shaped sd hu) ⟨.bl _, H, I, rfl, q⟩
theorem op_notInT (K : PySem.W.Frag) (hK : X.K = K) (hu : X.A.units + 65 < cLine) : OpR X (compareOp .NotIn) (rInT K true) := by
  subst hK
  intro pins s σ H x y v u Q I rx ry h
  obtain ⟨d, ds, hd, he, sd, se, q⟩ := h
  obtain ⟨as, r1⟩ := Dp.reads I d x v hd rx
  obtain ⟨bs, r2⟩ := Dp.reads I (.tuple ds) y u he ry
  exact SeqAt.notIn_tuple_reads r2 r1 (SeqAt.canLay_of_shaped se) (SeqAt.canLay_of_shaped sd) (room_in_shaped sd hu) ⟨.bl _, H, I, rfl, q⟩
/-- a list of ints not in a tuple of two such lists -/
theorem rd_notInT2 {p t q r : Addr} {a b c : List Int} (hp : SqL K H p (a.map V.int)) (ht : SqT K H t [.ref q, .ref r]) (hq : SqL K H q (b.map V.int)) (hr : SqL K H r (c.map V.int))
    (k : Q (.bl (!(decide (b = a) || decide (c = a)))) H) : rInT K true (.ref p) (.ref t) H Q := by
  refine ⟨dI a, [dI b, dI c], dpI hp, .tup ht (.cons (dpI hq) (.cons (dpI hr) .nil)), shI _, ?_, ?_⟩
  · have h1 := shI b
    have h2 := shI c
    unfold SeqAt.shaped at h1 h2 ⊢
    rw [Bool.and_eq_true] at h1 h2 ⊢
    have e1 : PyData.canLay0 (.tuple [dI b, dI c]) = (PyData.canLay0 (dI b) && (PyData.canLay0 (dI c) && true)) := rfl
    have e2 : PyData.depth (.tuple [dI b, dI c]) = max (PyData.depth (dI b)) (max (PyData.depth (dI c)) 0) + 1 := rfl
    have e3 : ∀ ns : List Int, PyData.depth (dI ns) = 1 := fun ns => by
      show PyData.depthAll (ns.map PyData.int) + 1 = 1
      rw [depI]
    refine ⟨by rw [e1, h1.1, h2.1]; rfl, decide_eq_true ?_⟩
    rw [e2, e3, e3]
    decide
  · show Q (.bl (!(PyData.eqv (dI b) (dI a) || (PyData.eqv (dI c) (dI a) || false)))) H
    rw [eqI, eqI, Bool.or_false]
    exact k
theorem op_inQ (K : PySem.W.Frag) (hK : X.K = K) : OpR X (compareOp .In) (rIn K false) := by
  subst hK
  exact op_in_seq
theorem op_notInQ (K : PySem.W.Frag) (hK : X.K = K) : OpR X (compareOp .NotIn) (rIn K true) := by
  subst hK
  exact op_notIn_seq
theorem cr_allK (K : PySem.W.Frag) (hK : X.K = K) (hc : X.calm = true) : CallR X (.builtin "all") (rAll K) := by
  subst hK
  exact cr_all hc
/-! list(range(..)) -/
def qRg (a b : Int) (H1 : Hp) (Q : VK) : Prop := RgOk a b ∧ ∀ q, H1 q = none → Q (.ref q) (upd H1 q (.lst (rgV a b)))
theorem rd_lstRg {te : St → Hp → (Int → Int → Hp → Prop) → Prop} (h : te σ H fun a b H1 => qRg a b H1 Q) : tLstRg te σ H Q := h
theorem rd_tRg1 {ta : TE} {R : Int → Int → Hp → Prop} (h : ta σ H fun x H1 => ∃ n, x = .int n ∧ R 0 n H1) : tRg1 ta σ H R := h
theorem rd_tRg2 {ta tb : TE} {R : Int → Int → Hp → Prop} (h : ta σ H fun x H1 => tb σ H1 fun y H2 => ∃ i j, x = .int i ∧ y = .int j ∧ R i j H2) : tRg2 ta tb σ H R := h
theorem rd_rg1 {n : Int} {R : Int → Prop} (h : R n) : ∃ m, V.int n = V.int m ∧ R m := ⟨n, rfl, h⟩
theorem rd_rg2 {i j : Int} {R : Int → Int → Prop} (h : R i j) : ∃ m k, V.int i = V.int m ∧ V.int j = V.int k ∧ R m k := ⟨i, j, rfl, rfl, h⟩
theorem rd_qRg {a b : Int} (h : 0 ≤ a ∧ a ≤ 100000 ∧ 0 ≤ b ∧ b ≤ 100000) (q : ∀ p, H p = none → Q (.ref p) (upd H p (.lst (rgV a b)))) : qRg a b H Q := ⟨RgOk.of_le (by omega) (by omega) (by omega) (by omega), q⟩
/-! dicts whose keys are ints -/
def qDGet (x y : V) (H2 : Hp) (Q : VK) : Prop := ∃ a v, x = .ref a ∧ DGet H2 a y (some v) ∧ Q v H2
theorem rd_tDGet {td ty : TE} (h : td σ H fun x H1 => ty σ H1 fun y H2 => qDGet x y H2 Q) : tDGet td ty σ H Q := h
theorem rd_dget {a : Addr} {kvs : List (Key × V)} {i : Int} {v : V} (h : H a = some (.dK kvs)) (e : valV kvs (.inl i) = some v) (q : Q v H) : qDGet (.ref a) (.int i) H Q := ⟨a, v, rfl, by
  have := DGet.k (k := Sum.inl i) h
  rw [e] at this
  exact this, q⟩
def qDPut (x y v : V) (H3 : Hp) (R : Hp → Prop) : Prop := ∃ a H4, x = .ref a ∧ DPut H3 a y v H4 ∧ R H4
theorem rd_sDPut {td ty tv : TE} {D : Ends} (h : tv σ H fun v H1 => td σ H1 fun x H2 => ty σ H2 fun y H3 => qDPut x y v H3 fun H4 => D.nx σ H4) : sDPut td ty tv D σ H := h
theorem rd_dput {a : Addr} {kvs : List (Key × V)} {i : Int} {v : V} {R : Hp → Prop} (h : H a = some (.dK kvs)) (hl : kvs.length < 100000) (q : R (upd H a (.dK (putK kvs (.inl i) v)))) : qDPut (.ref a) (.int i) v H R :=
  ⟨a, _, rfl, DPut.k (k := Sum.inl i) h (szlt hl), q⟩
theorem putK_len {kvs : List (Key × V)} {k : Key} {v : V} : (putK kvs k v).length ≤ kvs.length + 1 := by
  unfold putK
  split
  · rw [List.length_map]; omega
  · rw [List.length_append]; exact Nat.le_refl _
theorem rd_dnew (h : ∀ p, H p = none → Q (.ref p) (upd H p (.dK []))) : tDNewK σ H Q := h
/-! unpacking a list of three -/
theorem pg_unl3 {i j l k : Nat} {x y z : Str} {p q r pos : Pos} (K : PySem.W.Frag) (hK : X.K = K) (hc : X.calm = true) (hN : X.N.Nodup) (hi : X.N[i]? = some x) (hx : Loc X.env.scope x) (hj : X.N[j]? = some y) (hy : Loc X.env.scope y) (hl : X.N[l]? = some z) (hz : Loc X.env.scope z)
    (h1 : X.fn x = true ∨ X.env.scope.names.lookup x = some .local := by first | exact .inl rfl | exact .inr rfl | assumption)
    (h2 : X.fn y = true ∨ X.env.scope.names.lookup y = some .local := by first | exact .inl rfl | exact .inr rfl | assumption)
    (h3 : X.fn z = true ∨ X.env.scope.names.lookup z = some .local := by first | exact .inl rfl | exact .inr rfl | assumption) :
    PG X (.Tuple [.Name x p, .Name y q, .Name z r] k pos) (gUnl K 3 (gCons (gName i) (gCons (gName j) (gCons (gName l) gNil)))) := by
  subst hK
  exact pg_unl hc (pgs_cons (pg_name hN hi hx h1) (pgs_cons (pg_name hN hj hy h2) (pgs_cons (pg_name hN hl hz h3) pgs_nil)))
theorem rd_unl3 {a : Addr} {u v w : V} {i j l : Nat} {R : St → Hp → Prop} (h : SqL K H a [u, v, w]) (q : R (((σ.set i (some u)).set j (some v)).set l (some w)) H) : gUnl K 3 (gCons (gName i) (gCons (gName j) (gCons (gName l) gNil))) (.ref a) σ H R :=
  ⟨a, _, rfl, h, rfl, _, _, rfl, _, _, rfl, _, _, rfl, rfl, q⟩
/-! max of a list of ints -/
theorem rd_max {p : Addr} {ns : List Int} {m : Int} (h : SqL K H p (ns.map V.int)) (hm : m ∈ ns) (hle : ∀ y ∈ ns, y ≤ m) (q : Q (.int m) H) : rMax K [.ref p] H Q :=
  ⟨p, ns, rfl, h, List.length_pos_of_mem hm, fun m2 hm2 hle2 => by
    have e : m2 = m := Int.le_antisymm (hle m2 hm2) (hle2 m hm)
    rw [e]
    exact q⟩
/-! x in a list of ints -/
theorem inV_int {x : Int} : ∀ ns : List Int, inV (.int x) (ns.map V.int) = decide (x ∈ ns)
  | [] => rfl
  | n :: ns => by
    show (eqV (.int n) (.int x) || inV (.int x) (ns.map V.int)) = _
    rw [inV_int ns]
    have e : eqV (.int n) (.int x) = decide (n = x) := by
      first | rfl | (unfold eqV; simp) | simp [eqV]
    rw [e]
    by_cases h : x = n
    · subst h; simp
    · have h2 : ¬ n = x := fun z => h z.symm
      simp [h, h2]
theorem flat_ints (ns : List Int) : (ns.map V.int).all flatV = true := by
  rw [List.all_eq_true]
  intro v hv
  obtain ⟨n, _, rfl⟩ := List.mem_map.mp hv
  rfl
theorem rd_inI {p : Addr} {x : Int} {ns : List Int} (h : SqL K H p (ns.map V.int)) (q : Q (.bl (decide (x ∈ ns))) H) : rIn K false (.int x) (.ref p) H Q := ⟨p, _, rfl, .inl h, rfl, flat_ints ns, by rw [if_neg Bool.false_ne_true, inV_int]; exact q⟩
theorem rd_notInI {p : Addr} {x : Int} {ns : List Int} (h : SqL K H p (ns.map V.int)) (q : Q (.bl (!decide (x ∈ ns))) H) : rIn K true (.int x) (.ref p) H Q := ⟨p, _, rfl, .inl h, rfl, flat_ints ns, by rw [if_pos rfl, inV_int]; exact q⟩
theorem rd_chain {r r' : R2} {ta tb tc : TE} (h : ta σ H fun x H1 => tb σ H1 fun y H2 => r x y H2 fun z H3 => ∃ k, z = .bl k ∧ (if k = true then tc σ H3 fun w' H4 => r' y w' H4 Q else Q (.bl false) H3)) : tChain r r' ta tb tc σ H Q := h
theorem rd_g2 {T : Addr} {u v : V} {i j : Nat} {R : St → Hp → Prop} (h : SqT K H T [u, v]) (q : R ((σ.set i (some u)).set j (some v)) H) : gTup K 2 (gCons (gName i) (gCons (gName j) gNil)) (.ref T) σ H R :=
  ⟨T, _, rfl, h, rfl, _, _, rfl, _, _, rfl, rfl, q⟩
theorem at_int {hs : List Int} {i : Int} (h0 : 0 ≤ i) (h : i < (hs.length : Int)) : atI (hs.map V.int) i = some (.int (hs.getD i.toNat 0)) := by
  refine at_of h0 ?_
  have h2 : i.toNat < hs.length := by omega
  rw [List.getElem?_map, List.getElem?_eq_getElem h2, List.getD_eq_getElem?_getD, List.getElem?_eq_getElem h2]
  rfl
theorem forT {α : Type} (ls : List α) (e : α → V) {p : Addr} {j : Nat} {tb : TS} {nx : St → Hp → Prop} {rt : VK} {bk ct : St → Hp → Prop} (Pv : Nat → St → Hp → Prop) (h0 : Pv 0 σ H) (hG : ∀ i σ H, i ≤ ls.length → Pv i σ H → SqT K H p (ls.map e))
    (hs : ∀ i y σ H, ls[i]? = some y → Pv i σ H → tb ⟨Pv (i + 1), rt, nx, Pv (i + 1)⟩ (σ.set j (some (e y))) H) (hd : ∀ σ H, Pv ls.length σ H → nx σ H) : ForG (Itt K p) (gName j) tb ⟨nx, rt, bk, ct⟩ σ H := by
  have w := walk_tup (K := K) (a := p) (xs := ls.map e)
  rw [List.length_map] at w
  refine for_map ls e w (fun i H x H' hi y => ⟨y.1, ?_⟩) Pv h0 hG hs hd
  have h2 := y.2
  rw [List.getElem?_map] at h2
  cases h3 : ls[i]? with
  | none => rw [h3] at h2; cases h2
  | some z =>
    rw [h3] at h2
    exact ⟨z, rfl, (Option.some.inj h2).symm⟩
end
theorem ix_listK {X : Cx} (K : PySem.W.Frag) (hK : X.K = K) : IxR X (rIxL K) := by subst hK; exact ix_list
theorem ix_tupK {X : Cx} (K : PySem.W.Frag) (hK : X.K = K) : IxR X (rIxT K) := by subst hK; exact ix_tup
end My
/-! zip of a text and a list. -/
namespace My
open PySem PySem.Spec L2 SX
open PyProof.Rows hiding St
/-- the signs of a text and the items of the list at b, in new pairs -/
def ItzSL (K : PySem.W.Frag) (x : Str) (b : Addr) : It where
  go := fun i H => ∃ ys, SqL K H b ys ∧ i < min x.cps.size ys.length
  yld := fun i H v H' => ∃ T c d, v = .ref T ∧ H T = none ∧ H' = upd H T (.tup [.str ⟨#[c]⟩, d]) ∧ x.cps[i]? = some c ∧ ∀ ys, SqL K H b ys → ys[i]? = some d
  stop := fun i H => ∃ ys, SqL K H b ys ∧ i = min x.cps.size ys.length
theorem turn_zipSL {P : Program} {w : World} {K : PySem.W.Frag} {elts : List Expr} {kk : Nat} {tpos : Pos} {z TI TO i1 i2 b : Addr} {x : Str} {t : Tok} (D : ZipSep2 z TI TO i1 i2 [i1] [i2, b]) (hb2 : b ≠ i2) :
    Turn P w K (.Tuple elts kk tpos) (ItzSL K x b) [z, TI, TO, i1, i2] z (fun i h => IsZip h z TI TO .none ∧ IsTupOf2 h TI (.ref i1) (.ref i2) ∧ (∃ p q, IsTupOf2 h TO p q) ∧ h.IsStrIter i1 (strIterType x) x t i ∧ h.IsListIter i2 b i) := by
  have five : ∀ {c : Addr} {G : Addr → Prop}, c ∈ [z, TI, TO, i1, i2] → G z → G TI → G TO → G i1 → G i2 → G c := fun {c G} hc a1 a2 a3 a4 a5 => by
    rcases List.mem_cons.mp hc with q | hc
    · rw [q]; exact a1
    rcases List.mem_cons.mp hc with q | hc
    · rw [q]; exact a2
    rcases List.mem_cons.mp hc with q | hc
    · rw [q]; exact a3
    rcases List.mem_cons.mp hc with q | hc
    · rw [q]; exact a4
    · rw [List.mem_singleton.mp hc]; exact a5
  refine { mem := by simp, obj := ?_, keep := ?_, item := ?_, done := ?_, self := fun A i s Q E st h => wpAny_pyIter_zip st.1 h }
  · rintro i h ⟨hz, hTI, ⟨p, q, hTO⟩, ⟨o1, e1, _, d1⟩, ⟨o2, e2, _, d2⟩⟩ c hc
    refine five (G := fun c => ∃ o, h.get? c = some o ∧ ∀ v, o.data ≠ .cell v) hc ⟨_, hz, fun v q => (nomatch q)⟩ ⟨_, hTI, fun v q => (nomatch q)⟩ ⟨_, hTO, fun v q => (nomatch q)⟩ ⟨o1, e1, fun v q => ?_⟩ ⟨o2, e2, fun v q => ?_⟩
    · rw [d1] at q; cases q
    · rw [d2] at q; cases q
  · rintro i h h' ⟨hz, hTI, ⟨p, q, hTO⟩, ⟨o1, e1, r1⟩, h2⟩ k
    exact ⟨k z (by simp) _ hz, k TI (by simp) _ hTI, ⟨p, q, k TO (by simp) _ hTO⟩, ⟨o1, k i1 (by simp) _ e1, r1⟩, h2.at fun o e => k i2 (by simp) o e⟩
  · intro X hP hw hK hc i pins s σ H E I hf st hg
    subst hP hw hK
    obtain ⟨hz, hTI, ⟨p0, q0, hTO⟩, h1, h2⟩ := st
    obtain ⟨ys, hq, hlt⟩ := hg
    obtain ⟨its, rv, pl, _⟩ := I.list hq
    have len := rv.length
    have hzl : z < s.heap.objs.size := Heap.lt_size hz
    have D1 := Draws.text (prog := X.prog) (w := X.w) (A := X.A.in1) (I.ok.hd hc) i1 x t
    have D2 := Draws.list (prog := X.prog) (w := X.w) (A := X.A.in1) (I.ok.hd hc) i2 b hb2 its.toArray
    refine wpAny_pyNext_zipD2_item (i := i) D D1 D2 hz hTI hTO h1 ⟨h2, pl.isList⟩ (by omega) (by rw [List.size_toArray]; omega) fun v1 v2 h' tk p1 p2 z' TO' h1' h2' hT hsz hk => ?_
    obtain ⟨c, t1, hc1, rfl⟩ := p1
    have p3 : its[i]? = some v2 := by simpa using p2
    have hil : i < ys.length := by omega
    obtain ⟨u, hu, ru⟩ := rv.get (List.getElem?_eq_getElem hil)
    rw [p3] at hu
    cases hu
    refine ⟨_, rfl, wpAny_letOwnedTupleGo_zip (s := { s with heap := h', toks := tk }) z' fun h'' z'' sb => ?_⟩
    have hT2 : h''.get? s.heap.objs.size = some { cls := .type "tuple", data := .seq #[.str ⟨#[c]⟩ t1, v2] } := (sb.2 _ (Nat.ne_of_gt hzl)).trans hT
    have new : ObjOk X.prog X.w (upd H s.heap.objs.size (.tup [.str ⟨#[c]⟩, ys[i]])) h'' s.heap.objs.size (.tup [.str ⟨#[c]⟩, ys[i]]) :=
      ⟨by show 2 ≤ sizeLine; decide, [.str ⟨#[c]⟩ t1, v2], .cons ⟨t1, rfl⟩ (.cons ru .nil), ⟨_, hT2, rfl, _, rfl⟩⟩
    have old : ∀ c o, c ∉ [z, TI, TO, i1, i2] → s.heap.get? c = some o → h''.get? c = some o := fun c o hb q => by
      simp only [List.mem_cons, List.not_mem_nil, or_false, not_or] at hb
      obtain ⟨b1, b2, b3, b4, b5⟩ := hb
      exact (sb.2 c b1).trans (hk c o b1 b3 b4 b5 q)
    have I1 : Inv X pins σ (upd H s.heap.objs.size (.tup [.str ⟨#[c]⟩, ys[i]])) { s with heap := h'', toks := tk } := I.turnedNew (t' := tk) (ch := [z, TI, TO, i1, i2]) old hf (Nat.le_refl _) new
    refine ⟨.ref s.heap.objs.size, _, I1, rfl, ⟨_, c, ys[i], rfl, I.hok.fresh (Nat.le_refl _), rfl, hc1, fun l hl => by rw [I.list_inj hl hq]; exact List.getElem?_eq_getElem hil⟩, ⟨z'', ?_, ⟨.str ⟨#[c]⟩ t1, v2, ?_⟩, ?_, ?_⟩, fun b hbm => ?_⟩
    · exact (sb.2 _ D.TIz).trans (hk _ _ D.TIz D.TITO D.TIi1 D.TIi2 hTI)
    · exact (sb.2 _ D.TOz).trans TO'
    · obtain ⟨o, e, r⟩ := h1'
      exact ⟨o, (sb.2 _ (Ne.symm D.zi1)).trans e, r⟩
    · exact h2'.1.at fun o e => (sb.2 _ (Ne.symm D.zi2)).trans e
    · have lt : b < s.heap.objs.size := by
        obtain ⟨o1, e1, _⟩ := h1
        obtain ⟨o2, e2, _⟩ := h2
        exact five (G := fun c => c < s.heap.objs.size) hbm hzl (Heap.lt_size hTI) (Heap.lt_size hTO) (Heap.lt_size e1) (Heap.lt_size e2)
      rw [upd_ne (Nat.ne_of_lt lt)]
      exact (hf b hbm).1
  · intro X hP hw hK hc i pins s σ H E I hf st hg
    subst hP hw hK
    obtain ⟨hz, hTI, ⟨p0, q0, hTO⟩, h1, h2⟩ := st
    obtain ⟨ys, hq, hend⟩ := hg
    obtain ⟨its, rv, pl, _⟩ := I.list hq
    have len := rv.length
    have D1 := Draws.text (prog := X.prog) (w := X.w) (A := X.A.in1) (I.ok.hd hc) i1 x t
    have D2 := Draws.list (prog := X.prog) (w := X.w) (A := X.A.in1) (I.ok.hd hc) i2 b hb2 its.toArray
    have sz2 : its.toArray.size = ys.length := by rw [List.size_toArray]; omega
    refine wpAny_pyNext_zipD2_end (i := i) D D1 D2 hz hTI hTO h1 ⟨h2, pl.isList⟩ (by omega) (by omega) (by omega) fun h' tk hk => ⟨rfl, I.turnedL (t' := tk) (ch := [z, TI, TO, i1, i2]) (fun c o hb q => ?_) hf⟩
    simp only [List.mem_cons, List.not_mem_nil, or_false, not_or] at hb
    obtain ⟨b1, b2, b3, b4, b5⟩ := hb
    exact hk c o b1 b3 b4 b5 q
def iZipSL (K : PySem.W.Frag) (ta : TA) : TI := fun σ H R => ta σ H fun vs H1 => ∃ x b ys, vs = [.str x, .ref b] ∧ SqL K H1 b ys ∧ R (ItzSL K x b) H1
theorem pi_zipSL {X : Cx} {e e2 : Expr} {ta : TA} {p pos tpos : Pos} {elts : List Expr} {kk : Nat} (hg : Gl X "zip") (hm : X.mg "zip" = none) (ha : PA X [e, e2] ta)
    (ns : starEach [e, e2] X.env = (false, eval e X.env) :: starEach [e2] X.env := by rfl) (np : (backTo pos (starEach [e2] X.env)).any (·.1) = false := by rfl) : PI X (.Tuple elts kk tpos) (.Call (.Name "zip" p) [e, e2] [] pos) (iZipSL X.K ta) := by
  refine ⟨fun pins s σ H R I h => Call_ (ld_blt I hg hm PyProof.Rows.boot_zip (PyProof.Rows.callWith_type1 (thn (ha.run pos pins s σ H _ I h) fun us s1 ⟨vs, H1, I1, r1, q1⟩ => ?_) ns np))⟩
  obtain ⟨x, b, ys, ex, hq, q⟩ := q1
  subst ex
  cases r1 with
  | cons r rr =>
    cases rr with
    | cons r' rr =>
      cases rr
      obtain ⟨t, rfl⟩ := r
      cases r'
      obtain ⟨its, rv, pl, _⟩ := I1.list hq
      have hb : b < s1.heap.objs.size := pl.lt
      have big : ∀ c, c ∈ [s1.heap.objs.size + 4, s1.heap.objs.size + 2, s1.heap.objs.size + 3, s1.heap.objs.size, s1.heap.objs.size + 1] → s1.heap.objs.size ≤ c := fun c hc => by
        simp only [List.mem_cons, List.not_mem_nil, or_false] at hc
        rcases hc with z | z | z | z | z <;> rw [z] <;> first | exact Nat.le_add_right _ _ | exact Nat.le_refl _
      refine zip_begins2 (begins_text x t) (begins_list b its.toArray) trivial pl.isList fun h' hz hTI hTO h1 h2 hsz hk => wpAny_pyIter_zip hz ?_
      have I2 : Inv X pins σ H1 { s1 with heap := h' } := I1.kept (t' := s1.toks) hk
      refine ⟨s1.heap.objs.size + 4, [s1.heap.objs.size + 4, s1.heap.objs.size + 2, s1.heap.objs.size + 3, s1.heap.objs.size, s1.heap.objs.size + 1], _, _, H1, rfl, I2, turn_zipSL (t := t) ?_ ?_, ⟨hz, hTI, ⟨_, _, hTO⟩, ⟨_, h1, rfl, rfl⟩, ⟨_, h2, rfl, rfl⟩⟩, fun c hc => I1.fpOk (big c hc) (I1.hok.fresh (big c hc)), q⟩
      · have nb : ∀ k, s1.heap.objs.size + k ≠ b := fun k e => by
          have : b < s1.heap.objs.size := hb
          rw [← e] at this
          exact absurd this (Nat.not_lt_of_le (Nat.le_add_right _ _))
        have nb0 : s1.heap.objs.size ≠ b := nb 0
        constructor <;> first | omega | (simp; done) | (simp [nb, nb0]; done) | (simp only [List.mem_cons, List.not_mem_nil, or_false, not_or]; exact ⟨by omega, nb _⟩) | (simp only [List.mem_cons, List.not_mem_nil, or_false, not_or]; exact ⟨by omega, nb0⟩)
      · intro e
        exact absurd hb (by rw [e]; exact Nat.not_lt_of_le (Nat.le_add_right _ _))
section
variable {σ : St} {H : Hp} {ta : TA} {R : It → Hp → Prop} {K : PySem.W.Frag}
def qZipSL (K : PySem.W.Frag) (vs : List V) (H1 : Hp) (R : It → Hp → Prop) : Prop := ∃ x b ys, vs = [.str x, .ref b] ∧ SqL K H1 b ys ∧ R (ItzSL K x b) H1
theorem rd_iZipSL (h : ta σ H fun vs H1 => qZipSL K vs H1 R) : iZipSL K ta σ H R := h
theorem rd_zipSL {l : List Nat} {b : Addr} {ys : List V} (h : SqL K H b ys) (q : R (ItzSL K (S l) b) H) : qZipSL K [.str (S l), .ref b] H R := ⟨S l, b, ys, rfl, h, q⟩
theorem walk_zipSL {l : List Nat} {b : Addr} {ys : List V} (hl : ys.length ≤ l.length) : Walk (ItzSL K (S l) b) ys.length (fun H => SqL K H b ys) (YPair (fun i => l[i]?.map fun c => V.str (S [c])) (fun i => ys[i]?)) := by
  have e1 : (S l).cps.size = l.length := by simp
  refine ⟨fun i H hi h => ⟨ys, h, by omega⟩, fun H h => ⟨ys, h, by omega⟩, fun i H v H' _ hq y => ?_⟩
  obtain ⟨T, c, d, h1, h2, h3, h4, h5⟩ := y
  refine ⟨T, .str ⟨#[c]⟩, d, h1, h2, h3, ?_, h5 ys hq⟩
  have : l[i]? = some c := by simpa using h4
  dsimp only
  rw [this]
  rfl
end
end My
/-! enumerate of a tuple; dict(zip(a list, a range)) with tuples as keys. -/
namespace My
open PySem PySem.Spec L2 SX
open PyProof.Rows hiding St
theorem enT_new {v : Value} {o : Obj} {G : Heap → Prop} (B : Begins v o G) : Meets (Builtin.«enumerate.__new__» ⟨[.type "enumerate", v], []⟩) (fun _ R s => G s.heap ∧
    R (.ok (.ret (.ref (s.heap.push o).objs.size))) { s with heap := (s.heap.push o).push { cls := .type "enumerate", data := .fields #[.none, .bool false, .ref s.heap.objs.size, rawInt 0, .none, .none] } }) :=
  .of_wp fun prog w A R s hh => by
    obtain ⟨hp, ge, dr, tk, os⟩ := s
    obtain ⟨h1, h2⟩ := hh
    have hsub := sub_enumerate
    have it : ∀ {A' : Around} {E Q : Value → Shared → Prop}, Q (.ref hp.objs.size) ⟨hp.push o, ge, dr, tk, os⟩ → wpAny (model prog w) A' (pyIter v) Q E ⟨hp, ge, dr, tk, os⟩ := fun q => B.iter prog w _ _ ⟨hp, ge, dr, tk, os⟩ _ h1 q
    wp_walk using it
    refine wpAny_stack_any fun st => wpAny_pure ?_
    split
    · rename_i c _ _ _ _ _
      cases (c == Value.type "enumerate")
      · wp_walk using it
        exact ⟨_, rfl, h2⟩
      · wp_walk using it
        exact ⟨_, rfl, h2⟩
    · wp_walk using it
      exact ⟨_, rfl, h2⟩
section
variable {prog : Program} {w : World} {A : Around} {E : Value → Shared → Prop} {s : Shared}
theorem enT_begins {v : Value} {o : Obj} {G : Heap → Prop} {Q : Value → Shared → Prop} (B : Begins v o G) (h1 : G s.heap)
    (h : ∀ h', IsEnum h' (s.heap.objs.size + 1) s.heap.objs.size 0 .none → h'.get? s.heap.objs.size = some o → h'.objs.size = s.heap.objs.size + 2 → (∀ b u, s.heap.get? b = some u → h'.get? b = some u) → Q (.ref (s.heap.objs.size + 1)) { s with heap := h' }) :
    wpAny (model prog w) A (call (.type "enumerate") [v]) Q E s := by
  refine callType_new F.called_enumerate (by decide) (F.typeCall_enumerate_1 _) (F.newCall_enumerate_1 _) (fun obj => F.args_object_init_2 obj _) F.entry_enumerate_new (enT_new B) ⟨h1, ?_⟩
  have sz : (s.heap.push o).objs.size = s.heap.objs.size + 1 := Heap.size_push ..
  show _ ∧ _
  rw [sz]
  have e1 : ((s.heap.push o).push { cls := .type "enumerate", data := .fields #[.none, .bool false, .ref s.heap.objs.size, rawInt 0, .none, .none] }).get? (s.heap.objs.size + 1) = some { cls := .type "enumerate", data := .fields #[.none, .bool false, .ref s.heap.objs.size, rawInt 0, .none, .none] } := by
    have := Heap.get?_push_size (s.heap.push o) (o := { cls := .type "enumerate", data := .fields #[.none, .bool false, .ref s.heap.objs.size, rawInt 0, .none, .none] }) rfl
    rwa [sz] at this
  exact ⟨⟨_, e1, rfl⟩, h _ e1 (Heap.get?_push_of_some _ (Heap.get?_push_size _ B.free)) (by rw [Heap.size_push, sz]) fun b u x => Heap.get?_push_of_some _ (Heap.get?_push_of_some _ x)⟩
end
/-- the items of the tuple at a, numbered, in new pairs -/
def IteT (K : PySem.W.Frag) (a : Addr) : It where
  go := fun i H => ∃ ys, SqT K H a ys ∧ i < ys.length
  yld := fun i H v H' => ∃ T x, v = .ref T ∧ H T = none ∧ H' = upd H T (.tup [.int (i : Nat), x]) ∧ ∀ ys, SqT K H a ys → ys[i]? = some x
  stop := fun i H => ∃ ys, SqT K H a ys ∧ i = ys.length
theorem tup_inj {X : Cx} {pins : List (Addr × Obj)} {σ : L2.St} {H : Hp} {s : Shared} {a : Addr} {xs ys : List V} (I : Inv X pins σ H s) (h1 : SqT X.K H a xs) (h2 : SqT X.K H a ys) : xs = ys := by
  exact I.tuple_inj h1 h2
theorem turn_enT {P : Program} {w : World} {K : PySem.W.Frag} {elts : List Expr} {kk : Nat} {tpos : Pos} (a e it : Addr) (hae : a ≠ it) :
    Turn P w K (.Tuple elts kk tpos) (IteT K a) [e, it] e (fun i h => (∃ old, IsEnum h e it ((i : Nat) : Int) old) ∧ h.IsTupleIter it a i ∧ e ≠ it ∧ e ≠ a) := by
  have two : ∀ {b : Addr} {G : Addr → Prop}, b ∈ [e, it] → G e → G it → G b := fun {b G} hb g1 g2 => by
    rcases List.mem_cons.mp hb with z | z
    · rw [z]; exact g1
    · rw [List.mem_singleton.mp z]; exact g2
  refine { mem := by simp, obj := ?_, keep := ?_, item := ?_, done := ?_, self := fun A i s Q E st h => let ⟨⟨_, he⟩, _⟩ := st; wpAny_pyIter_enum he h }
  · rintro i h ⟨⟨old, he⟩, ⟨o, ho, hc, hd⟩, _⟩ b hb
    refine two (G := fun b => ∃ o, h.get? b = some o ∧ ∀ v, o.data ≠ .cell v) hb ⟨_, he, fun v q => (nomatch q)⟩ ⟨o, ho, fun v q => ?_⟩
    rw [hd] at q; cases q
  · rintro i h h' ⟨⟨old, he⟩, hi, hne⟩ k
    exact ⟨⟨old, k e (by simp) _ he⟩, hi.at fun o q => k it (by simp) o q, hne⟩
  · intro X hP hw hK hc i pins s σ H E I hf st hg
    subst hP hw hK
    obtain ⟨⟨old, he⟩, hit, hne, hea⟩ := st
    obtain ⟨ys, hq, hlt⟩ := hg
    obtain ⟨its, rv, pl, hz⟩ := I.tuple hq
    have len := rv.length
    have hel : e < s.heap.objs.size := Heap.lt_size he
    have hil : it < s.heap.objs.size := by obtain ⟨_, q, _⟩ := hit; exact Heap.lt_size q
    have D := Draws.tuple (prog := X.prog) (w := X.w) (A := X.A.in1) (I.ok.hd hc) it a hae its.toArray
    refine wpAny_pyNext_enum_itemD (n := its.toArray.size) D he ⟨hit, pl⟩ (by rw [List.size_toArray]; omega) hne (by simp only [List.mem_cons, List.not_mem_nil, or_false, not_or]; exact ⟨hne, hea⟩) fun u h' tk hu ho hit' hT hsz hk => ?_
    obtain ⟨w1, hw1, rw1⟩ := rv.get (List.getElem?_eq_getElem hlt)
    have hu2 : its[i]? = some u := by simpa using hu
    rw [hw1] at hu2
    cases hu2
    refine ⟨_, rfl, wpAny_letOwnedTupleGo_enum (s := { s with heap := h', toks := tk + 1 }) ho fun h'' he' sb => ?_⟩
    have hT2 : h''.get? s.heap.objs.size = some { cls := .type "tuple", data := .seq #[.int i tk, u] } := (sb.2 _ (Nat.ne_of_gt hel)).trans hT
    have new : ObjOk X.prog X.w (upd H s.heap.objs.size (.tup [.int (i : Nat), ys[i]])) h'' s.heap.objs.size (.tup [.int (i : Nat), ys[i]]) :=
      ⟨by show 2 ≤ sizeLine; decide, [.int i tk, u], .cons ⟨_, rfl⟩ (.cons rw1 .nil), ⟨_, hT2, rfl, _, rfl⟩⟩
    have I1 : Inv X pins σ (upd H s.heap.objs.size (.tup [.int (i : Nat), ys[i]])) { s with heap := h'', toks := tk + 1 } := by
      refine I.turnedNew (t' := tk + 1) (ch := [e, it]) (fun b ob hb q => ?_) hf (Nat.le_refl _) new
      simp only [List.mem_cons, List.not_mem_nil, or_false, not_or] at hb
      exact (sb.2 b hb.1).trans (hk b ob hb.1 hb.2 q)
    refine ⟨.ref s.heap.objs.size, _, I1, rfl, ⟨_, ys[i], rfl, I.hok.fresh (Nat.le_refl _), rfl, fun zs hz2 => by rw [tup_inj I hz2 hq]; exact List.getElem?_eq_getElem hlt⟩, ⟨⟨u, ?_⟩, hit'.1.at fun o q => (sb.2 it (Ne.symm hne)).trans q, hne, hea⟩, fun b hb => ?_⟩
    · have e1 : ((i + 1 : Nat) : Int) = (i : Int) + 1 := by omega
      rw [e1]; exact he'
    · have hb' : b < s.heap.objs.size := two (G := fun b => b < s.heap.objs.size) hb hel hil
      rw [upd_ne (Nat.ne_of_lt hb')]
      exact (hf b hb).1
  · intro X hP hw hK hc i pins s σ H E I hf st hg
    subst hP hw hK
    obtain ⟨⟨old, he⟩, hit, hne, hea⟩ := st
    obtain ⟨ys, hq, hend⟩ := hg
    obtain ⟨its, rv, pl, hz⟩ := I.tuple hq
    have len := rv.length
    have ei : its.toArray.size = i := by rw [List.size_toArray]; omega
    have D := Draws.tuple (prog := X.prog) (w := X.w) (A := X.A.in1) (I.ok.hd hc) it a hae its.toArray
    refine wpAny_pyNext_enum_endD (n := its.toArray.size) D he (by rw [ei]; exact ⟨hit, pl⟩) fun h' eb => ⟨rfl, I.turnedL (t' := s.toks) (ch := [e, it]) (fun b o hb q => eb b o ?_ q) hf⟩
    simp only [List.mem_cons, List.not_mem_nil, or_false, not_or] at hb
    exact hb.2
def iEnT (K : PySem.W.Frag) (ta : TA) : TI := fun σ H R => ta σ H fun vs H1 => ∃ a ys, vs = [.ref a] ∧ SqT K H1 a ys ∧ R (IteT K a) H1
theorem pi_enT {X : Cx} {e : Expr} {ta : TA} {p pos tpos : Pos} {elts : List Expr} {kk : Nat} (hg : Gl X "enumerate") (hm : X.mg "enumerate" = none) (ha : PA X [e] ta) (hs : starEach [e] X.env = [(false, eval e X.env)] := by rfl) :
    PI X (.Tuple elts kk tpos) (.Call (.Name "enumerate" p) [e] [] pos) (iEnT X.K ta) := by
  refine ⟨fun pins s σ H R I h => Call_ (ld_blt I hg hm boot_enumerate (PyProof.Rows.callWith_type1 (thn (ha.run pos pins s σ H _ I h) fun us s1 ⟨vs, H1, I1, r1, q1⟩ => ?_) hs rfl))⟩
  obtain ⟨a, ys, ex, hq, q⟩ := q1
  subst ex
  obtain rfl := Vals.ref1 r1
  obtain ⟨its, rv, pl, hz⟩ := I1.tuple hq
  have hal : a < s1.heap.objs.size := by obtain ⟨o, e, _⟩ := pl; exact Heap.lt_size e
  refine enT_begins (begins_tuple a its.toArray) pl fun h' he hit hsz hk => wpAny_pyIter_enum he ?_
  have I2 : Inv X pins σ H1 { s1 with heap := h' } := I1.kept (t' := s1.toks) hk
  have nb : ∀ k, s1.heap.objs.size + k ≠ a := fun k z => by
    rw [← z] at hal
    exact absurd hal (Nat.not_lt_of_le (Nat.le_add_right _ _))
  refine ⟨s1.heap.objs.size + 1, [s1.heap.objs.size + 1, s1.heap.objs.size], _, _, H1, rfl, I2, turn_enT a (s1.heap.objs.size + 1) s1.heap.objs.size (Ne.symm (nb 0)), ⟨⟨.none, he⟩, ⟨_, hit, rfl, rfl⟩, Nat.succ_ne_self _, nb 1⟩, fun b hb => ?_, q⟩
  have hle : s1.heap.objs.size ≤ b := by
    rcases List.mem_cons.mp hb with z | z
    · rw [z]; exact Nat.le_add_right _ _
    · rw [List.mem_singleton.mp z]; exact Nat.le_refl _
  exact I1.fpOk hle (I1.hok.fresh hle)
section
variable {σ : St} {H : Hp} {ta : TA} {R : It → Hp → Prop} {K : PySem.W.Frag}
def qEnT (K : PySem.W.Frag) (vs : List V) (H1 : Hp) (R : It → Hp → Prop) : Prop := ∃ a ys, vs = [.ref a] ∧ SqT K H1 a ys ∧ R (IteT K a) H1
theorem rd_iEnT (h : ta σ H fun vs H1 => qEnT K vs H1 R) : iEnT K ta σ H R := h
theorem rd_enT {a : Addr} {ys : List V} (h : SqT K H a ys) (q : R (IteT K a) H) : qEnT K [.ref a] H R := ⟨a, ys, rfl, h, q⟩
def qEnL (K : PySem.W.Frag) (vs : List V) (H1 : Hp) (R : It → Hp → Prop) : Prop := ∃ a ys, vs = [.ref a] ∧ SqL K H1 a ys ∧ R (Ite K a) H1
theorem rd_iEnL (h : ta σ H fun vs H1 => qEnL K vs H1 R) : iEnum K ta σ H R := h
theorem rd_enL {a : Addr} {ys : List V} (h : SqL K H a ys) (q : R (Ite K a) H) : qEnL K [.ref a] H R := ⟨a, ys, rfl, h, q⟩
theorem walk_enT {a : Addr} {ys : List V} : Walk (IteT K a) ys.length (fun H => SqT K H a ys) (YPair (fun i => some (.int (i : Nat))) (fun i => ys[i]?)) := by
  refine ⟨fun i H hi q => ⟨ys, q, hi⟩, fun H q => ⟨ys, q, rfl⟩, fun i H v H' _ q y => ?_⟩
  obtain ⟨T, x, h1, h2, h3, h4⟩ := y
  exact ⟨T, .int (i : Nat), x, h1, h2, h3, rfl, h4 ys q⟩
end
end My
/-! dict(zip(a list of tuples, range(n))). -/
namespace My
open PySem PySem.Spec L2 SX
open PyProof.Rows hiding St
section
variable {prog : Program} {w : World} {A : Around} {E : Value → Shared → Prop} {s : Shared}
theorem next_rg {it : Addr} {x left : Int} {Q : Value → Shared → Prop} (hit : IsRangeIter s.heap it x left 1) (hleft : 0 < left)
    (hQ : ∀ h', IsRangeIter h' it (x + 1) (left - 1) 1 → Heap.SameBut it s.heap h' → Q (.int x s.toks) { s with heap := h', toks := s.toks + 1 }) : wpAny (model prog w) A (Builtin.SmallTypes.nextOf (.ref it)) Q E s := by
  have hT : s.TypeIs (.ref it) "range_iterator" := ⟨_, hit, rfl⟩
  unfold Builtin.SmallTypes.nextOf
  refine wpAny_bind (wpAny_callSpecial?_slot (name := Str.ofString "__next__") hT F.slot_range_iterator_next
    (call_meets F.slot_range_iterator_next hT F.entry_range_iterator_next (F.args_range_iterator_next_1 _) (AutoRange.range_iterator___next___range_iterator_1 it x left 1 (by omega)) ⟨hit, ?_⟩))
  exact wpAny_pure (hQ _ (Heap.get?_update_self _ (Heap.get?_update_self _ hit rfl) rfl) ((Heap.SameBut.update ..).trans (Heap.SameBut.update ..)))
theorem end_rg {it : Addr} {x left : Int} {Q : Value → Shared → Prop} (hh : A.handled = none) (hit : IsRangeIter s.heap it x left 1) (hleft : left ≤ 0)
    (hE : ∀ h' e, Heap.ExtBut it s.heap h' → (∃ o, h'.get? e = some o ∧ o.cls = .type "StopIteration") → E (.ref e) { s with heap := h' }) : wpAny (model prog w) A (Builtin.SmallTypes.nextOf (.ref it)) Q E s := by
  have hT : s.TypeIs (.ref it) "range_iterator" := ⟨_, hit, rfl⟩
  unfold Builtin.SmallTypes.nextOf
  refine wpAny_bind (wpAny_callSpecial?_slot (name := Str.ofString "__next__") hT F.slot_range_iterator_next
    (wpAny_call_entry F.slot_range_iterator_next hT F.entry_range_iterator_next ?_ (F.args_range_iterator_next_1 _)))
  show wpAny _ _ (field (.ref it) 0 >>= _) _ _ s
  refine wpAny_bind (wpAny_field hit rfl (x := rawInt x) rfl ?_)
  show wpAny _ _ (field (.ref it) 1 >>= _) _ _ s
  refine wpAny_bind (wpAny_field hit rfl (x := rawInt left) rfl ?_)
  show wpAny _ _ (field (.ref it) 2 >>= _) _ _ s
  refine wpAny_bind (wpAny_field hit rfl (x := rawInt 1) rfl ?_)
  show wpAny _ _ (if left ≤ 0 then _ else _) _ _ s
  rw [if_pos hleft]
  refine wpAny_bind (wpAny_rule ?_)
  refine wpAny_bind ?_
  show wpAny _ _ (newExc (.type "StopIteration") [] >>= _) _ _ _
  refine wpAny_bind ?_
  simp only [newExc, newTuple]
  refine wpAny_bind (wpAny_newObj_type ?_ (by size_fits))
  refine wpAny_bind (m := firstArgMember _ _) (wpAny_of_eq (a := Value.none) (by first | rfl | (simp only [firstArgMember]; rfl)) ?_)
  refine wpAny_newObj_type ?_ (by size_fits)
  simp only [raiseNew]
  refine wpAny_bind (wpAny_handled ?_)
  first | rw [show A.in1.handled = none from hh] | rw [hh]
  refine wpAny_bind (wpAny_pure (wpAny_throw ?_))
  exact hE _ _ (((Heap.ExtBut.refl it s.heap).push _).push _) ⟨_, Heap.get?_push_size _ rfl, rfl⟩
theorem draws_rg (hh : A.handled = none) (it : Addr) (n : Nat) : Draws prog w A it [it] n (fun i v => ∃ t, v = .int (i : Nat) t) (fun i h => IsRangeIter h it (i : Nat) ((n : Int) - (i : Nat)) 1) where
  live := fun _ _ st => ⟨_, st⟩
  frame := fun _ _ _ st hk => hk it (by simp) _ st
  item := fun i s Q E hi st hQ => by
    refine next_rg st (by omega) fun h' a b => ?_
    refine hQ _ h' _ ⟨_, rfl⟩ ?_ b
    rw [show ((i + 1 : Nat) : Int) = (i : Nat) + 1 by omega, show (n : Int) - ((i : Nat) + 1) = (n : Int) - (i : Nat) - 1 by omega]
    exact a
  done := fun s Q E st hE => end_rg hh st (by omega) hE
theorem begins_rg (r : Addr) (n : Nat) (t u v : Tok) (hn : n ≤ 100000) : Begins (.ref r) { cls := .type "range_iterator", data := .fields #[rawInt 0, rawInt (n : Nat), rawInt 1] } fun h => IsRange h r 0 n 1 t u v where
  iter := fun prog w A E s Q hl h => by
    refine wpAny_pyIter_range hl (small_one (by omega) (by omega) (by omega) (by omega)) ?_
    rw [rangeSize_nat 0 n, show (((n : Int) - 0).toNat) = n by omega]
    exact h
  keeps := fun h h' x hk => hk _ _ x
  free := rfl
variable {z TI TO T i1 i2 : Addr} {fp1 fp2 : List Addr} {n1 n2 i : Nat} {P1 P2 : Nat → Value → Prop} {St1 St2 : Nat → Heap → Prop} {f : Bool} {oT : Obj}
theorem zipH_item {Q : Value → Shared → Prop} (S : ZipSep2 z TI TO i1 i2 fp1 fp2) (D1 : Draws prog w A i1 fp1 n1 P1 St1) (D2 : Draws prog w A i2 fp2 n2 P2 St2) (hz : IsZipHeld s.heap z TI TO T f) (hT : s.heap.get? T = some oT) (hTI : IsTupOf2 s.heap TI (.ref i1) (.ref i2))
    (st1 : St1 i s.heap) (st2 : St2 i s.heap) (l1 : i < n1) (l2 : i < n2)
    (hQ : ∀ x1 x2 h' tk, P1 i x1 → P2 i x2 → IsZipHeld h' z TI TO T true → St1 (i + 1) h' → St2 (i + 1) h' → IsTupOf2 h' s.heap.objs.size x1 x2 → h'.objs.size = s.heap.objs.size + 1 → (∀ c o, c ≠ z → c ≠ i1 → c ≠ i2 → s.heap.get? c = some o → h'.get? c = some o) →
      Q (.ref s.heap.objs.size) { s with heap := h', toks := tk }) :
    wpAny (model prog w) A (Builtin.«zip.__next__» ⟨[.ref z], []⟩) (fun fin s' => ∃ v, fin = .done (.ret v) ∧ Q v s') E s := by
  obtain ⟨hp, g, d, tk0, os⟩ := s
  show wpAny _ _ (field (.ref z) 2 >>= _) _ _ _
  refine wpAny_bind (wpAny_field hz rfl (x := .bool false) rfl ?_)
  show wpAny _ _ (field (.ref z) 3 >>= _) _ _ _
  refine wpAny_bind (wpAny_field hz rfl (x := .ref TI) rfl ?_)
  refine wpAny_bind (wpAny_seqItems hTI rfl ?_)
  show wpAny _ _ (Builtin.SmallTypes.ownedTupleIsFree (.ref z) >>= _) _ _ _
  refine wpAny_bind (wpAny_tupleHeld_zip hz hT fun g0 hz0 hs0 => ?_)
  replace hs0 : Heap.SameBut z hp g0 := hs0
  simp only [Bool.false_eq_true, if_false]
  refine wpAny_bind ?_
  rw [← Array.forIn_toList]
  simp only [List.forIn_cons, List.forIn_nil]
  refine wpAny_bind (wpAny_bind (wpAny_holding ?_))
  show wpAny _ _ (Builtin.SmallTypes.nextOf (.ref i1) >>= _) _ _ ⟨g0, g, d, tk0, os⟩
  refine wpAny_bind (D1.item i _ _ _ l1 (D1.over st1 hs0 S.zf1) fun x1 p1 tk1 hx1 sn1 hp1 => wpAny_pure ?_)
  replace hp1 : Heap.SameBut i1 g0 p1 := hp1
  refine wpAny_pure ?_
  refine wpAny_bind (wpAny_bind (wpAny_holding ?_))
  show wpAny _ _ (Builtin.SmallTypes.nextOf (.ref i2) >>= _) _ _ ⟨p1, g, d, tk1, os⟩
  refine wpAny_bind (D2.item i _ _ _ l2 (D2.over (D2.over st2 hs0 S.zf2) hp1 S.sep1_2) fun x2 p2 tk2 hx2 sn2 hp2 => wpAny_pure ?_)
  replace hp2 : Heap.SameBut i2 p1 p2 := hp2
  refine wpAny_pure (wpAny_pure ?_)
  show wpAny _ _ (newTuple [x1, x2] >>= _) _ _ _
  refine wpAny_bind (wpAny_newTuple ?_)
  have hsz : p2.objs.size = hp.objs.size := by rw [hp2.1, hp1.1, hs0.1]
  have hz2 : IsZipHeld p2 z TI TO T true := hp2.extBut _ _ S.zi2 (hp1.extBut _ _ S.zi1 hz0)
  have hk : ∀ c o, c ≠ z → c ≠ i1 → c ≠ i2 → hp.get? c = some o → p2.get? c = some o := fun c o c1 c2 c3 e => hp2.extBut _ _ c3 (hp1.extBut _ _ c2 (hs0.extBut _ _ c1 e))
  have up : ∀ c o, p2.get? c = some o → (p2.push { cls := .type "tuple", data := .seq #[x1, x2] }).get? c = some o := fun c o e => Heap.get?_push_of_some _ e
  have q1 : St1 (i + 1) p2 := D1.over sn1 hp2 S.sep2_1
  have hp3 : IsTupOf2 (p2.push { cls := .type "tuple", data := .seq #[x1, x2] }) p2.objs.size x1 x2 := Heap.get?_push_size _ rfl
  have hz4 : (p2.push { cls := .type "tuple", data := .seq #[x1, x2] }).objs.size = p2.objs.size + 1 := Heap.size_push ..
  refine wpAny_pure ⟨_, rfl, ?_⟩
  show Q (.ref p2.objs.size) _
  rw [hsz] at hp3 hz4 ⊢
  exact hQ x1 x2 _ tk2 hx1 hx2 (up _ _ hz2) (D1.frame _ _ _ q1 fun b hb o e => up b o e) (D2.frame _ _ _ sn2 fun b hb o e => up b o e) hp3 hz4 fun c o c1 c2 c3 e => up c o (hk c o c1 c2 c3 e)
theorem zipH_end {Q : Fin → Shared → Prop} (S : ZipSep2 z TI TO i1 i2 fp1 fp2) (D1 : Draws prog w A i1 fp1 n1 P1 St1) (hz : IsZipHeld s.heap z TI TO T f) (hT : s.heap.get? T = some oT) (hTI : IsTupOf2 s.heap TI (.ref i1) (.ref i2))
    (st1 : St1 n1 s.heap) (hE : ∀ h' tk e, (∀ c o, c ≠ z → c ≠ i1 → s.heap.get? c = some o → h'.get? c = some o) → (∃ o, h'.get? e = some o ∧ o.cls = .type "StopIteration") → E (.ref e) { s with heap := h', toks := tk }) :
    wpAny (model prog w) A (Builtin.«zip.__next__» ⟨[.ref z], []⟩) Q E s := by
  obtain ⟨hp, g, d, tk0, os⟩ := s
  show wpAny _ _ (field (.ref z) 2 >>= _) _ _ _
  refine wpAny_bind (wpAny_field hz rfl (x := .bool false) rfl ?_)
  show wpAny _ _ (field (.ref z) 3 >>= _) _ _ _
  refine wpAny_bind (wpAny_field hz rfl (x := .ref TI) rfl ?_)
  refine wpAny_bind (wpAny_seqItems hTI rfl ?_)
  show wpAny _ _ (Builtin.SmallTypes.ownedTupleIsFree (.ref z) >>= _) _ _ _
  refine wpAny_bind (wpAny_tupleHeld_zip hz hT fun g0 hz0 hs0 => ?_)
  replace hs0 : Heap.SameBut z hp g0 := hs0
  simp only [Bool.false_eq_true, if_false]
  refine wpAny_bind ?_
  rw [← Array.forIn_toList]
  simp only [List.forIn_cons, List.forIn_nil]
  refine wpAny_bind (wpAny_bind (wpAny_holding ?_))
  show wpAny _ _ (Builtin.SmallTypes.nextOf (.ref i1) >>= _) _ _ ⟨g0, g, d, tk0, os⟩
  refine wpAny_bind (D1.done ⟨g0, g, d, tk0, os⟩ _ _ (D1.over st1 hs0 S.zf1) fun q e hq he => ?_)
  replace hq : Heap.ExtBut i1 g0 q := hq
  exact hE q tk0 e (fun c o c1 c2 x => hq _ _ c2 (hs0.extBut _ _ c1 x)) he
end
section
variable {prog : Program} {w : World}
/-- dict's argument: zip of two things that are told by what they draw, of one length -/
theorem arg_zipD {z TI TO i1 i2 : Addr} {fp1 fp2 : List Addr} {n : Nat} {P1 P2 : Nat → Value → Prop} {St1 St2 : Nat → Heap → Prop} (S : ZipSep2 z TI TO i1 i2 fp1 fp2) (D1 : ∀ A : Around, A.handled = none → Draws prog w A i1 fp1 n P1 St1) (D2 : ∀ A : Around, A.handled = none → Draws prog w A i2 fp2 n P2 St2)
    (th : ∀ h, St1 0 h → St2 0 h → ∀ b, b ∈ fp1 ∨ b ∈ fp2 → ∃ o, h.get? b = some o) :
    PairArg prog w "zip" z (z :: TI :: TO :: (fp1 ++ fp2)) [z, TO, i1, i2] n (fun i k v => P1 i k ∧ P2 i v)
      (fun h => IsZip h z TI TO .none ∧ IsTupOf2 h TI (.ref i1) (.ref i2) ∧ (∃ a b, IsTupOf2 h TO a b) ∧ St1 0 h ∧ St2 0 h) where
  type := fun s ok => ⟨_, ok.1, rfl⟩
  notDict := by decide
  keep := fun h h' ⟨hz, hTI, ⟨a, b, hTO⟩, h1, h2⟩ hk => by
    have A0 : callerA.handled = none := rfl
    exact ⟨hk _ _ hz, hk _ _ hTI, ⟨a, b, hk _ _ hTO⟩, (D1 callerA A0).frame _ _ _ h1 fun b _ o e => hk b o e, (D2 callerA A0).frame _ _ _ h2 fun b _ o e => hk b o e⟩
  there := fun h ⟨hz, hTI, ⟨a, c, hTO⟩, h1, h2⟩ b hb => by
    rcases List.mem_cons.mp hb with e | hb
    · rw [e]; exact ⟨_, hz⟩
    rcases List.mem_cons.mp hb with e | hb
    · rw [e]; exact ⟨_, hTI⟩
    rcases List.mem_cons.mp hb with e | hb
    · rw [e]; exact ⟨_, hTO⟩
    · exact th h h1 h2 b (List.mem_append.mp hb)
  sub := fun b hb => by
    simp only [List.mem_cons, List.not_mem_nil, or_false] at hb
    rcases hb with e | e | e | e
    · rw [e]; exact List.mem_cons_self
    · rw [e]; simp
    · rw [e]; exact List.mem_cons_of_mem _ (List.mem_cons_of_mem _ (List.mem_cons_of_mem _ (List.mem_append_left _ S.mem1)))
    · rw [e]; exact List.mem_cons_of_mem _ (List.mem_cons_of_mem _ (List.mem_cons_of_mem _ (List.mem_append_right _ S.mem2)))
  noKeys := fun A s Q E hA ok h => getAttrOr_miss_zip ok.1 rfl rfl rfl zip_no_keys (by decide +kernel) hA h
  iter := fun A s d Q E hA ⟨hz, hTI, ⟨a, b, hTO⟩, h1, h2⟩ hd hdf h => by
    have dz : d ≠ z := fun e => hdf (by rw [e]; exact List.mem_cons_self)
    have dTI : d ≠ TI := fun e => hdf (by rw [e]; simp)
    have dTO : d ≠ TO := fun e => hdf (by rw [e]; simp)
    have d1 : d ∉ fp1 := fun e => hdf (List.mem_cons_of_mem _ (List.mem_cons_of_mem _ (List.mem_cons_of_mem _ (List.mem_append_left _ e))))
    have d2 : d ∉ fp2 := fun e => hdf (List.mem_cons_of_mem _ (List.mem_cons_of_mem _ (List.mem_cons_of_mem _ (List.mem_append_right _ e))))
    have di1 : d ≠ i1 := fun e => d1 (by rw [e]; exact S.mem1)
    have di2 : d ≠ i2 := fun e => d2 (by rw [e]; exact S.mem2)
    refine wpAny_pyIter_zip hz (h z [z, TO, i1, i2] (fun i h => IsTupOf2 h TI (.ref i1) (.ref i2) ∧ St1 i h ∧ St2 i h ∧ ((IsZip h z TI TO .none ∧ ∃ a b, IsTupOf2 h TO a b) ∨ ∃ T f oT, IsZipHeld h z TI TO T f ∧ h.get? T = some oT ∧ T ≠ z ∧ T ≠ i1 ∧ T ≠ i2 ∧ T ≠ d)) s.heap s.toks ?_
      ⟨hTI, h1, h2, .inl ⟨hz, a, b, hTO⟩⟩ (fun _ _ e => e) fun b hb => .inl hb)
    have E1 := D1 A.in1 hA
    have E2 := D2 A.in1 hA
    refine { off := fun hm => ?_, frame := fun i h₁ h₂ st hk => ?_, item := fun i s₁ Q₁ E₁ hi st hds hQ => ?_, done := fun s₁ Q₁ E₁ st hQ => ?_ }
    · simp only [List.mem_cons, List.not_mem_nil, or_false] at hm
      rcases hm with e | e | e | e
      · exact dz e
      · exact dTO e
      · exact di1 e
      · exact di2 e
    · obtain ⟨hTI, h1, h2, hz⟩ := st
      refine ⟨hk _ _ (Ne.symm dTI) hTI, E1.frame _ _ _ h1 fun b hb o e => hk b o (fun q => d1 (q ▸ hb)) e, E2.frame _ _ _ h2 fun b hb o e => hk b o (fun q => d2 (q ▸ hb)) e, ?_⟩
      rcases hz with ⟨hz, a, b, hTO⟩ | ⟨T, f, oT, hz, hT, r1, r2, r3, r4⟩
      · exact .inl ⟨hk _ _ (Ne.symm dz) hz, a, b, hk _ _ (Ne.symm dTO) hTO⟩
      · exact .inr ⟨T, f, oT, hk _ _ (Ne.symm dz) hz, hk _ _ r4 hT, r1, r2, r3, r4⟩
    · obtain ⟨hTI, h1, h2, hz⟩ := st
      have lt : ∀ {c o}, s₁.heap.get? c = some o → s₁.heap.objs.size ≠ c := fun e => Nat.ne_of_gt (Heap.lt_size e)
      have m1 : s₁.heap.objs.size ≠ i1 := let ⟨_, e⟩ := E1.live _ _ h1; lt e
      have m2 : s₁.heap.objs.size ≠ i2 := let ⟨_, e⟩ := E2.live _ _ h2; lt e
      rcases hz with ⟨hz, a, b, hTO⟩ | ⟨T, f, oT, hz, hT, r1, r2, r3, r4⟩
      · refine wpAny_pyNext_zipD2_item S E1 E2 hz hTI hTO h1 h2 hi hi fun x1 x2 h' tk y1 y2 b1 b2 e1 e2 b5 b6 hk => ?_
        exact hQ s₁.heap.objs.size _ _ h' tk ⟨y1, y2⟩ (.inl ⟨_, b5, rfl, _, rfl⟩)
          ⟨hk _ _ S.TIz S.TITO S.TIi1 S.TIi2 hTI, e1, e2, .inr ⟨s₁.heap.objs.size, false, _, b1, b5, lt hz, m1, m2, Nat.ne_of_gt hds⟩⟩
          fun c o hc e => by
            simp only [List.mem_cons, List.not_mem_nil, or_false, not_or] at hc
            exact hk c o hc.1 hc.2.1 hc.2.2.1 hc.2.2.2 e
      · have hTy : s₁.TypeIs (.ref z) "zip" := ⟨_, hz, rfl⟩
        unfold pyNext
        refine wpAny_bind (wpAny_attempt (wpAny_callSpecial?_slot (name := Str.ofString "__next__") hTy F.slot_zip_next (wpAny_call_entry F.slot_zip_next hTy F.entry_zip_next
          (zipH_item S E1 E2 hz hT hTI h1 h2 hi hi fun x1 x2 h' tk y1 y2 b1 e1 e2 b5 b6 hk => wpAny_pure ?_) (F.args_zip_next_1 _))))
        exact hQ s₁.heap.objs.size _ _ h' tk ⟨y1, y2⟩ (.inl ⟨_, b5, rfl, _, rfl⟩)
          ⟨hk _ _ S.TIz S.TIi1 S.TIi2 hTI, e1, e2, .inr ⟨T, true, oT, b1, hk _ _ r1 r2 r3 hT, r1, r2, r3, r4⟩⟩
          fun c o hc e => by
            simp only [List.mem_cons, List.not_mem_nil, or_false, not_or] at hc
            exact hk c o hc.1 hc.2.2.1 hc.2.2.2 e
    · obtain ⟨hTI, h1, h2, hz⟩ := st
      rcases hz with ⟨hz, a, b, hTO⟩ | ⟨T, f, oT, hz, hT, r1, r2, r3, r4⟩
      · refine wpAny_pyNext_zipD2_end S E1 E2 hz hTI hTO h1 h2 (Nat.le_refl _) (Nat.le_refl _) (.inl rfl) fun h' tk hk => hQ h' tk fun c o hc e => ?_
        simp only [List.mem_cons, List.not_mem_nil, or_false, not_or] at hc
        exact hk c o hc.1 hc.2.1 hc.2.2.1 hc.2.2.2 e
      · have hTy : s₁.TypeIs (.ref z) "zip" := ⟨_, hz, rfl⟩
        unfold pyNext
        refine wpAny_bind (wpAny_attempt (wpAny_callSpecial?_slot (name := Str.ofString "__next__") hTy F.slot_zip_next
          (wpAny_call_entry F.slot_zip_next hTy F.entry_zip_next (zipH_end S E1 hz hT hTI h1 fun h' tk e hk he => ?_) (F.args_zip_next_1 _))))
        obtain ⟨o, ho, hc⟩ := he
        refine wpAny_bind (wpAny_isInstance (T := "StopIteration") (b := true) ⟨o, ho, hc⟩ isSubtype_stop ?_)
        refine wpAny_pure (hQ _ _ fun c o hc e => ?_)
        simp only [List.mem_cons, List.not_mem_nil, or_false, not_or] at hc
        exact hk c o hc.1 hc.2.2.1 e
end
end My
/-! The rule for dict(zip(xs, range(n))), xs a list of tuples. -/
namespace My
open PySem PySem.Spec L2 SX
open PyProof.Rows hiding St
/-- the tuples at the addresses, told by their items -/
def KeysAt (H : Hp) (ka : List (List Key × Addr)) : Prop := ∀ p ∈ ka, H p.2 = some (.tup (p.1.map kV))
/-- numbered keys -/
def numK (n : Nat) (ks : List (List Key)) : List (List Key × V) := (ks.zipIdx n).map fun p => (p.1, V.int ((p.2 : Nat) : Int))
theorem numK_len (n : Nat) (ks : List (List Key)) : (numK n ks).length = ks.length := by unfold numK; simp
/-- what stands in the dict so far -/
def Filled (ka : List (List Key × Addr)) (i : Nat) (ps : List (List Key × Addr × Value)) : Prop := ps.length = i ∧ ∀ (j : Nat) (p : List Key × Addr), j < i → ka[j]? = some p → ∃ t, ps[j]? = some (p.1, p.2, Value.int ((j : Nat) : Int) t)
theorem Filled.keys {ka : List (List Key × Addr)} {i : Nat} {ps : List (List Key × Addr × Value)} (f : Filled ka i ps) (hi : i ≤ ka.length) : ps.map (·.1) = (ka.take i).map (·.1) := by
  refine List.ext_getElem? fun j => ?_
  rw [List.getElem?_map, List.getElem?_map]
  by_cases hj : j < i
  · have h1 : j < ka.length := by omega
    obtain ⟨t, e⟩ := f.2 j _ hj (List.getElem?_eq_getElem h1)
    rw [e, List.getElem?_take_of_lt hj, List.getElem?_eq_getElem h1]; rfl
  · rw [List.getElem?_eq_none (by rw [f.1]; omega), List.getElem?_eq_none (by rw [List.length_take]; omega)]; rfl
theorem paired_num {H : Hp} : ∀ (n : Nat) (ka : List (List Key × Addr)) (ps : List (List Key × Addr × Value)), KeysAt H ka → ps.length = ka.length → (∀ (j : Nat) (p : List Key × Addr), ka[j]? = some p → ∃ t, ps[j]? = some (p.1, p.2, Value.int ((n + j : Nat) : Int) t)) →
    Paired (fun (p : List Key × V) (q : List Key × Addr × Value) => p.1 = q.1 ∧ H q.2.1 = some (.tup (p.1.map kV)) ∧ RelV p.2 q.2.2) (numK n (ka.map (·.1))) ps
  | _, [], [], _, _, _ => .nil
  | _, [], _ :: _, _, h, _ => by cases h
  | _, _ :: _, [], _, h, _ => by cases h
  | n, a :: ka, p :: ps, hk, hl, h => by
    obtain ⟨t, e⟩ := h 0 a rfl
    have e2 : p = (a.1, a.2, .int ((n : Nat) : Int) t) := Option.some.inj e
    have ih := paired_num (n + 1) ka ps (fun q hq => hk q (List.mem_cons_of_mem _ hq)) (by simpa using hl) fun j q hq => by
      have := h (j + 1) q hq
      rwa [show n + (j + 1) = n + 1 + j by omega] at this
    subst e2
    exact .cons ⟨rfl, hk a List.mem_cons_self, ⟨_, rfl⟩⟩ ih
def tDictZR (K : PySem.W.Frag) (te : TE) (tr : St → Hp → (Int → Int → Hp → Prop) → Prop) : TE := fun σ H Q => te σ H fun x H1 => ∃ a, x = .ref a ∧ tr σ H1 fun lo hi H2 => lo = 0 ∧ ∃ ka : List (List Key × Addr), SqL K H2 a (ka.map fun p => V.ref p.2) ∧ hi = ((ka.length : Nat) : Int) ∧ ka.length ≤ 100000 ∧ KeysAt H2 ka ∧ (ka.map (·.1)).Nodup ∧
  ∀ p, H2 p = none → Q (.ref p) (upd H2 p (.dT (numK 0 (ka.map (·.1)))))
section
variable {X : Cx} {e e2 : Expr} {te : TE} {tr : St → Hp → (Int → Int → Hp → Prop) → Prop} {p1 p2 pos1 pos2 : Pos}
theorem pe_dictZR (hc : X.calm = true) (hu : X.A.units + 65 < cLine) (hgd : Gl X "dict") (hmd : X.mg "dict" = none) (hgz : Gl X "zip") (hmz : X.mg "zip" = none) (he : PE X e te) (hr : PRg X e2 tr)
    (n1 : starEach [.Call (.Name "zip" p2) [e, e2] [] pos2] X.env = (false, eval (.Call (.Name "zip" p2) [e, e2] [] pos2) X.env) :: starEach [] X.env := by rfl)
    (n2 : starEach [e, e2] X.env = (false, eval e X.env) :: starEach [e2] X.env := by rfl) (n3 : starEach [e2] X.env = (false, eval e2 X.env) :: starEach [] X.env := by rfl) (np : (backTo pos2 (starEach [e2] X.env)).any (·.1) = false := by rfl) :
    PE X (.Call (.Name "dict" p1) [.Call (.Name "zip" p2) [e, e2] [] pos2] [] pos1) (tDictZR X.K te tr) := by
  refine ⟨fun pins s σ H Q I h => ?_⟩
  refine Call_ (ld_blt I hgd hmd boot_dict (PyProof.Rows.callWith_type1 (args_cons (Call_ (ld_blt I hgz hmz boot_zip (PyProof.Rows.callWith_type1 (args_cons (thn (he.run pins s σ H _ I h) fun v s1 ⟨x, H1, I1, r1, q1⟩ => ?_) n2) n2 np))) n1) n1))
  obtain ⟨a, rfl, q1⟩ := q1
  obtain rfl : v = Value.ref a := r1
  refine args_cons (thn (hr pins s1 σ H1 _ I1 q1) fun v2 s2 ⟨r, lo, hi, t, u, w0, H2, ev, hrg, I2, elo, ka, hs, ehi, hl, hk, hn, q⟩ => args_nil ?_) n3
  subst ev
  subst elo
  subst ehi
  obtain ⟨its, rv, pl, hz⟩ := I2.list hs
  have hlen : its.length = ka.length := by rw [← rv.length, List.length_map]
  have hal : a < s2.heap.objs.size := pl.lt
  have hrl : r < s2.heap.objs.size := Heap.lt_size hrg
  refine zip_begins2 (begins_list a its.toArray) (begins_rg r ka.length t u w0 hl) pl.isList hrg fun h' g1 g2 g3 g4 g5 g6 g7 => args_nil ?_
  have nb : ∀ k, s2.heap.objs.size + k ≠ a := fun k z => by
    rw [← z] at hal
    exact absurd hal (Nat.not_lt_of_le (Nat.le_add_right _ _))
  have nb0 : s2.heap.objs.size ≠ a := nb 0
  have S : ZipSep2 (s2.heap.objs.size + 4) (s2.heap.objs.size + 2) (s2.heap.objs.size + 3) s2.heap.objs.size (s2.heap.objs.size + 1) [s2.heap.objs.size, a] [s2.heap.objs.size + 1] := by
    refine zip_sep2 (fp1 := [a]) (fp2 := []) (fun b hb => ?_) (fun b hb => nomatch hb)
    rw [List.mem_singleton.mp hb]; exact hal
  have P := arg_zipD (prog := X.prog) (w := X.w) (n := ka.length) S (fun A hA => by
      have := Draws.list (prog := X.prog) (w := X.w) hA s2.heap.objs.size a (Ne.symm nb0) its.toArray
      have ez : its.toArray.size = ka.length := by simp [hlen]
      rw [ez] at this
      exact this) (fun A hA => draws_rg hA (s2.heap.objs.size + 1) ka.length) (fun h0 st1 st2 b hb => by
      rcases hb with hb | hb
      · rcases List.mem_cons.mp hb with z | z
        · rw [z]; obtain ⟨⟨o, e, _⟩, _⟩ := st1; exact ⟨o, e⟩
        · rw [List.mem_singleton.mp z]; obtain ⟨_, ⟨o, e, _⟩⟩ := st1; exact ⟨o, e⟩
      · rw [List.mem_singleton.mp hb]; exact ⟨_, st2⟩)
  have ok : IsZip h' (s2.heap.objs.size + 4) (s2.heap.objs.size + 2) (s2.heap.objs.size + 3) .none ∧ IsTupOf2 h' (s2.heap.objs.size + 2) (.ref s2.heap.objs.size) (.ref (s2.heap.objs.size + 1)) ∧ (∃ b c, IsTupOf2 h' (s2.heap.objs.size + 3) b c) ∧
      (h'.IsListIter s2.heap.objs.size a 0 ∧ h'.IsList a its.toArray) ∧ IsRangeIter h' (s2.heap.objs.size + 1) ((0 : Nat) : Int) ((ka.length : Int) - ((0 : Nat) : Int)) 1 := by
    refine ⟨g1, g2, ⟨_, _, g3⟩, ⟨⟨_, g4, rfl, rfl⟩, pl.isList.at fun o e => g7 _ _ e⟩, ?_⟩
    rw [show ((ka.length : Int) - ((0 : Nat) : Int)) = (ka.length : Nat) by omega]
    exact g5
  have hh : X.A.handled = none := I2.ok.hd hc
  have I3 : Inv X pins σ H2 { s2 with heap := h' } := I2.kept (t' := s2.toks) g7
  refine call_dict_arg P ok fun s₃ hs₃ hdf ok₃ => ?_
  subst hs₃
  have up : ∀ b o, s2.heap.get? b = some o → (h'.push { cls := .type "dict", data := .dict #[] }).get? b = some o := fun b o e => Heap.get?_push_of_some _ (g7 b o e)
  have hlt2 : ∀ b o, s2.heap.get? b = some o → b ≠ h'.objs.size ∧ b ∉ [s2.heap.objs.size + 4, s2.heap.objs.size + 3, s2.heap.objs.size, s2.heap.objs.size + 1] := fun b o e => by
    have h1 : b < s2.heap.objs.size := Heap.lt_size e
    refine ⟨fun z => ?_, fun z => ?_⟩
    · rw [z, g6] at h1
      exact absurd h1 (Nat.not_lt_of_le (Nat.le_add_right _ _))
    · simp only [List.mem_cons, List.not_mem_nil, or_false] at z
      rcases z with z | z | z | z
      · rw [z] at h1; exact absurd h1 (Nat.not_lt_of_le (Nat.le_add_right _ _))
      · rw [z] at h1; exact absurd h1 (Nat.not_lt_of_le (Nat.le_add_right _ _))
      · rw [z] at h1; exact absurd h1 (Nat.lt_irrefl _)
      · rw [z] at h1; exact absurd h1 (Nat.not_lt_of_le (Nat.le_add_right _ _))
  refine updateFrom_arg (A := X.A.in1) (Tab := fun i h => (∀ b o, s2.heap.get? b = some o → h.get? b = some o) ∧ i ≤ ka.length ∧ ∃ ps, Filled ka i ps ∧ h.DictOfH (tupleKind (mixKind X.prog X.w)) h'.objs.size ps) P .none hh ok₃ hdf
    ⟨up, Nat.zero_le _, [], ⟨rfl, fun j p hj => absurd hj (Nat.not_lt_zero _)⟩, Heap.DictOfH.new h'⟩ (fun i h0 tb => let ⟨_, _, ps, _, dd⟩ := tb; dd.lt_size) ?_ ?_ ?_
  · rintro i h1 h2 wr' hd hw ⟨k1, hle, ps, f, dd⟩ hkp
    have k2 : ∀ b o, s2.heap.get? b = some o → h2.get? b = some o := fun b o e => hkp b o (fun hm => by
      rcases hw b hm with z | z
      · exact (hlt2 b o e).2 z
      · have := up b o e
        have z' : (h'.push { cls := .type "dict", data := .dict #[] }).get? b = none := z
        rw [z'] at this; cases this) (k1 b o e)
    have ok2 := I2.hok.kept k2
    refine ⟨k2, hle, ps, f, dd.at' (fun o e => hkp _ o hd e) fun y hy => ?_⟩
    obtain ⟨j, hj⟩ := List.mem_iff_getElem?.mp hy
    have hj2 : j < i := by rw [← f.1]; exact (List.getElem?_eq_some_iff.mp hj).1
    have hja : j < ka.length := by omega
    obtain ⟨tt, e⟩ := f.2 j _ hj2 (List.getElem?_eq_getElem hja)
    rw [hj] at e
    cases e
    exact key_of ok2 (hk _ (List.getElem_mem hja))
  · rintro i key v s' Q' E' hi ⟨hk1, hk2⟩ ⟨k1, hle, ps, f, dd⟩ _ hQ
    obtain ⟨tt, rfl⟩ := hk2
    have hik : its[i]? = some key := by simpa using hk1
    obtain ⟨w1, hw1, rw1⟩ := rv.get (i := i) (x := .ref (ka[i]).2) (by rw [List.getElem?_map, List.getElem?_eq_getElem hi]; rfl)
    rw [hik] at hw1
    cases hw1
    obtain rfl : key = Value.ref (ka[i]).2 := rw1
    have ok2 := I2.hok.kept k1
    have hnew : atKey ps (ka[i]).1 = none := by
      unfold atKey
      rw [Option.map_eq_none_iff, List.find?_eq_none]
      intro y hy
      have hkeys := f.keys (Nat.le_of_lt hi)
      have h2 : y.1 ∈ (ka.take i).map (·.1) := by rw [← hkeys]; exact List.mem_map.mpr ⟨y, hy, rfl⟩
      have h3 : (ka.map (·.1)) = (ka.take i).map (·.1) ++ (ka.drop i).map (·.1) := by rw [← List.map_append, List.take_append_drop]
      rw [h3, List.nodup_append] at hn
      have h4 : (ka[i]).1 ∈ (ka.drop i).map (·.1) := List.mem_map.mpr ⟨ka[i], by rw [List.drop_eq_getElem_cons hi]; exact List.mem_cons_self, rfl⟩
      have h5 := hn.2.2 _ h2 _ h4
      simpa using h5
    have hpl : ps.length ≤ sizeLine := by rw [f.1]; exact Nat.le_of_lt (Nat.lt_of_lt_of_le hi (sz hl))
    refine wpAny_dictSet_heap (hsz := hpl) (tupleKind_room_in1 (by show X.A.units + 1 + 1 < cLine; omega)) (key_of ok2 (hk _ (List.getElem_mem hi))) dd fun h2 dd2 sb => ?_
    refine hQ h2 _ ⟨fun b o e => sb.extBut b o (hlt2 b o e).1 (k1 b o e), hi, _, ?_, dd2⟩ sb
    rw [storedH_new hnew]
    refine ⟨by rw [List.length_append, f.1]; rfl, fun j p hj hp => ?_⟩
    by_cases hji : j < i
    · obtain ⟨t5, e5⟩ := f.2 j p hji hp
      exact ⟨t5, by rw [List.getElem?_append_left (by rw [f.1]; exact hji)]; exact e5⟩
    · have ej : j = i := by omega
      subst ej
      rw [List.getElem?_eq_getElem hi] at hp
      cases hp
      exact ⟨tt, by rw [List.getElem?_append_right (by rw [f.1]; exact Nat.le_refl _), f.1]; simp⟩
  · rintro h2 tk ⟨k1, hle, ps, f, dd⟩ hkp
    have hq := q h'.objs.size (I2.hok.fresh (by rw [g6]; exact Nat.le_add_right _ _))
    refine ⟨rfl, ?_⟩
    obtain ⟨o, es, ep, e1, e2, e3, e4, e5, e6⟩ := dd
    have hfr : H2 h'.objs.size = none := I2.hok.fresh (by rw [g6]; exact Nat.le_add_right _ _)
    refine ⟨.ref h'.objs.size, _, I2.laid (t' := tk) k1 (by rw [g6]; exact Nat.le_add_right _ _) ?_, rfl, hq⟩
    refine ⟨by rw [numK_len, List.length_map]; exact sz hl, ?_, ps, ?_, o, es, ep, e1, e2, e3, e4, e6⟩
    · have h8 := I3.big
      have h9 : h'.objs.size ≠ sysModules := Nat.ne_of_gt h8
      simpa using h9
    · refine paired_num 0 ka ps (fun p hp => ?_) f.1 fun j p hp => ?_
      · rw [upd_ne (ne_of_none (hk p hp) hfr)]; exact hk p hp
      · rw [Nat.zero_add]
        exact f.2 j p (List.getElem?_eq_some_iff.mp hp).1 hp
end
end My
/-! Tables of monoids, their trees, least words, rules. Plain. -/
namespace Mon
abbrev Tab := List (List Nat)
def at2 (T : Tab) (n l : Nat) : Nat := (T.getD n []).getD l 0
/-- where a word leads; its signs are codes of letters -/
def run (T : Tab) (n : Nat) (w : List Nat) : Nat := w.foldl (fun n c => at2 T n (c - 97)) n
theorem run_snoc (T : Tab) (n : Nat) (w : List Nat) (c : Nat) : run T n (w ++ [c]) = at2 T (run T n w) (c - 97) := by
  unfold run; rw [List.foldl_append]; rfl
/-- the pairs at which a new number comes -/
def trR (T : Tab) (n : Nat) : Nat → List (Nat × Nat) → List (Nat × Nat)
  | 0, a => a
  | j + 1, a => if at2 T n j = (trR T n j a).length then trR T n j a ++ [(n, j)] else trR T n j a
def trT (T : Tab) (m : Nat) : Nat → List (Nat × Nat)
  | 0 => [(0, 0)]
  | n + 1 => trR T n m (trT T m n)
/-- numbers come in order -/
def Ord (T : Tab) (m N : Nat) : Prop := ∀ n, n < N → n < (trT T m n).length ∧ ∀ j, j < m → at2 T n j ≤ (trR T n j (trT T m n)).length
/-- a list built along a tree -/
def along {α : Type} (x0 : α) (g : List α → Nat × Nat → α) (tr : List (Nat × Nat)) : List α := tr.tail.foldl (fun a p => a ++ [g a p]) [x0]

theorem rev_ind {α : Type} {P : List α → Prop} (h0 : P []) (hs : ∀ l p, P l → P (l ++ [p])) (l : List α) : P l := by
  have key : ∀ r : List α, P r.reverse := fun r => by
    induction r with
    | nil => exact h0
    | cons a r ih => rw [List.reverse_cons]; exact hs _ _ ih
  have := key l.reverse
  rwa [List.reverse_reverse] at this
/-! ### lists built along -/
section
variable {α : Type} {x0 : α} {g : List α → Nat × Nat → α}
theorem fold_len (l : List (Nat × Nat)) : ∀ a : List α, (l.foldl (fun a p => a ++ [g a p]) a).length = a.length + l.length := by
  induction l with
  | nil => intro a; rfl
  | cons p l ih => intro a; rw [List.foldl_cons, ih]; simp; omega
theorem fold_pre (l : List (Nat × Nat)) : ∀ a : List α, ∃ b, l.foldl (fun a p => a ++ [g a p]) a = a ++ b := by
  induction l with
  | nil => intro a; exact ⟨[], by simp⟩
  | cons p l ih =>
    intro a
    obtain ⟨b, h⟩ := ih (a ++ [g a p])
    exact ⟨g a p :: b, by rw [List.foldl_cons, h]; simp⟩
theorem along_len {tr : List (Nat × Nat)} (h : tr ≠ []) : (along x0 g tr).length = tr.length := by
  unfold along
  rw [fold_len]
  cases tr with
  | nil => exact absurd rfl h
  | cons p l => simp; omega
theorem along_snoc {tr : List (Nat × Nat)} (h : tr ≠ []) (p : Nat × Nat) : along x0 g (tr ++ [p]) = along x0 g tr ++ [g (along x0 g tr) p] := by
  unfold along
  cases tr with
  | nil => exact absurd rfl h
  | cons q l => simp [List.foldl_append]
/-- the k-th item by what stands ahead -/
theorem along_get {tr : List (Nat × Nat)} {k : Nat} (hk : 0 < k) (h : k < tr.length) (d : α) : (along x0 g tr).getD k d = g ((along x0 g tr).take k) (tr.getD k (0, 0)) := by
  revert k
  refine rev_ind (P := fun tr => ∀ {k : Nat}, 0 < k → k < tr.length → (along x0 g tr).getD k d = g ((along x0 g tr).take k) (tr.getD k (0, 0))) ?_ ?_ tr
  · intro k hk h; simp at h
  · intro l p ih k hk h
    by_cases hl : l = []
    · subst hl; simp at h; omega
    · rw [along_snoc hl]
      have ll := along_len (x0 := x0) (g := g) hl
      by_cases hk2 : k < l.length
      · have e1 : (along x0 g l ++ [g (along x0 g l) p]).getD k d = (along x0 g l).getD k d := by
          rw [List.getD_eq_getElem?_getD, List.getD_eq_getElem?_getD, List.getElem?_append_left (by omega)]
        have e2 : (l ++ [p]).getD k (0, 0) = l.getD k (0, 0) := by
          rw [List.getD_eq_getElem?_getD, List.getD_eq_getElem?_getD, List.getElem?_append_left (by omega)]
        rw [e1, e2, List.take_append_of_le_length (by omega)]
        exact ih hk hk2
      · have ek : k = l.length := by simp at h; omega
        subst ek
        have e1 : (along x0 g l ++ [g (along x0 g l) p]).getD l.length d = g (along x0 g l) p := by
          rw [List.getD_eq_getElem?_getD, List.getElem?_append_right (by omega), ll]; simp
        have e2 : (l ++ [p]).getD l.length (0, 0) = p := by
          rw [List.getD_eq_getElem?_getD, List.getElem?_append_right (by omega)]; simp
        rw [e1, e2, List.take_append_of_le_length (by omega), List.take_of_length_le (by omega)]
theorem along_zero {tr : List (Nat × Nat)} (d : α) : (along x0 g tr).getD 0 d = x0 := by
  unfold along
  obtain ⟨b, h⟩ := fold_pre (g := g) tr.tail [x0]
  rw [h]; rfl
end

/-! ### the tree -/
def lx (p q : Nat × Nat) : Prop := p.1 < q.1 ∨ (p.1 = q.1 ∧ p.2 < q.2)
theorem getD_left {α : Type} {a b : List α} {k : Nat} {d : α} (h : k < a.length) : (a ++ b).getD k d = a.getD k d := by
  rw [List.getD_eq_getElem?_getD, List.getD_eq_getElem?_getD, List.getElem?_append_left h]
theorem getD_at {α : Type} {a : List α} {x d : α} {k : Nat} (h : k = a.length) : (a ++ [x]).getD k d = x := by
  subst h; rw [List.getD_eq_getElem?_getD, List.getElem?_append_right (Nat.le_refl _)]; simp
structure TI (T : Tab) (m n j : Nat) (b : List (Nat × Nat)) : Prop where
  ne : 0 < b.length
  fst : ∀ k, 0 < k → k < b.length → (b.getD k (0, 0)).1 < k ∧ (b.getD k (0, 0)).2 < m ∧ at2 T (b.getD k (0, 0)).1 (b.getD k (0, 0)).2 = k ∧ lx (b.getD k (0, 0)) (n, j)
  inc : ∀ k k', 0 < k → k < k' → k' < b.length → lx (b.getD k (0, 0)) (b.getD k' (0, 0))
  seen : ∀ n' j', lx (n', j') (n, j) → j' < m → at2 T n' j' < b.length
  ear : ∀ n' j', lx (n', j') (n, j) → j' < m → 0 < at2 T n' j' → b.getD (at2 T n' j') (0, 0) = (n', j') ∨ lx (b.getD (at2 T n' j') (0, 0)) (n', j')
theorem lx_step {p : Nat × Nat} {n j : Nat} (h : lx p (n, j)) : lx p (n, j + 1) := by
  unfold lx at *; dsimp only at *; omega
theorem lx_split {n' j' n j : Nat} (h : lx (n', j') (n, j + 1)) : lx (n', j') (n, j) ∨ (n' = n ∧ j' = j) := by
  unfold lx at *; dsimp only at *; omega
theorem TI.zero {T : Tab} {m : Nat} : TI T m 0 0 [(0, 0)] :=
  ⟨by decide, fun k h1 h2 => by simp at h2; omega, fun k k' h1 h2 h3 => by simp at h3; omega, fun n' j' h => by unfold lx at h; dsimp only at h; omega, fun n' j' h => by unfold lx at h; dsimp only at h; omega⟩
theorem TI.step {T : Tab} {m n j : Nat} {b : List (Nat × Nat)} (t : TI T m n j b) (hj : j < m) (hn : n < b.length) (hv : at2 T n j ≤ b.length) : TI T m n (j + 1) (if at2 T n j = b.length then b ++ [(n, j)] else b) := by
  by_cases h : at2 T n j = b.length
  · rw [if_pos h]
    have hl : (b ++ [(n, j)]).length = b.length + 1 := by simp
    refine ⟨by omega, fun k h1 h2 => ?_, fun k k' h1 h2 h3 => ?_, fun n' j' hx hj' => ?_, fun n' j' hx hj' h0 => ?_⟩
    · by_cases hk : k < b.length
      · rw [getD_left hk]
        obtain ⟨a1, a2, a3, a4⟩ := t.fst k h1 hk
        exact ⟨a1, a2, a3, lx_step a4⟩
      · have hk : k = b.length := by omega
        rw [getD_at hk]
        exact ⟨by dsimp only; omega, hj, by dsimp only; omega, .inr ⟨rfl, Nat.lt_succ_self _⟩⟩
    · by_cases hk : k' < b.length
      · rw [getD_left hk, getD_left (by omega)]
        exact t.inc k k' h1 h2 hk
      · rw [getD_at (k := k') (by omega), getD_left (by omega)]
        exact (t.fst k h1 (by omega)).2.2.2
    · rcases lx_split hx with hx | ⟨rfl, rfl⟩
      · have := t.seen n' j' hx hj'; omega
      · omega
    · rcases lx_split hx with hx | ⟨rfl, rfl⟩
      · rw [getD_left (t.seen n' j' hx hj')]
        exact t.ear n' j' hx hj' h0
      · exact .inl (getD_at h)
  · rw [if_neg h]
    refine ⟨t.ne, fun k h1 h2 => ?_, t.inc, fun n' j' hx hj' => ?_, fun n' j' hx hj' h0 => ?_⟩
    · obtain ⟨a1, a2, a3, a4⟩ := t.fst k h1 h2
      exact ⟨a1, a2, a3, lx_step a4⟩
    · rcases lx_split hx with hx | ⟨rfl, rfl⟩
      · exact t.seen n' j' hx hj'
      · omega
    · rcases lx_split hx with hx | ⟨rfl, rfl⟩
      · exact t.ear n' j' hx hj' h0
      · have h2 := (t.fst (at2 T n' j') h0 (by omega)).2.2.2
        exact .inr h2
theorem TI.row {T : Tab} {m n : Nat} {b : List (Nat × Nat)} (t : TI T m n m b) : TI T m (n + 1) 0 b := by
  have up : ∀ {p : Nat × Nat}, lx p (n, m) → lx p (n + 1, 0) := fun {p} h => by unfold lx at *; dsimp only at *; omega
  have dn : ∀ {n' j' : Nat}, j' < m → lx (n', j') (n + 1, 0) → lx (n', j') (n, m) := fun {n' j'} hj h => by unfold lx at *; dsimp only at *; omega
  exact ⟨t.ne, fun k h1 h2 => let ⟨a1, a2, a3, a4⟩ := t.fst k h1 h2; ⟨a1, a2, a3, up a4⟩, t.inc, fun n' j' hx hj => t.seen n' j' (dn hj hx) hj, fun n' j' hx hj h0 => t.ear n' j' (dn hj hx) hj h0⟩
theorem trR_mono {T : Tab} {n : Nat} {a : List (Nat × Nat)} : ∀ j, a.length ≤ (trR T n j a).length
  | 0 => Nat.le_refl _
  | j + 1 => by
    have := trR_mono (T := T) (n := n) (a := a) j
    unfold trR
    split
    · simp; omega
    · exact this
theorem TI.rowj {T : Tab} {m n : Nat} {a : List (Nat × Nat)} (t : TI T m n 0 a) (hn : n < a.length) : ∀ j, j ≤ m → (∀ i, i < j → at2 T n i ≤ (trR T n i a).length) → TI T m n j (trR T n j a)
  | 0, _, _ => t
  | j + 1, h, hv => by
    have ih := TI.rowj t hn j (by omega) (fun i hi => hv i (by omega))
    exact ih.step (by omega) (Nat.lt_of_lt_of_le hn (trR_mono j)) (hv j (by omega))
theorem TI.all {T : Tab} {m N : Nat} (hO : Ord T m N) : ∀ n, n ≤ N → TI T m n 0 (trT T m n)
  | 0, _ => TI.zero
  | n + 1, h => by
    have o := hO n (by omega)
    exact ((TI.all hO n (by omega)).rowj o.1 m (Nat.le_refl _) o.2).row
/-- what a table must be -/
structure Good (T : Tab) (m N : Nat) : Prop where
  pos : 0 < N
  ord : Ord T m N
  lt : ∀ n l, n < N → l < m → at2 T n l < N
  row : ∀ n, n < N → (T.getD n []).length = m
def tree (T : Tab) (m N : Nat) : List (Nat × Nat) := trT T m N
section
variable {T : Tab} {m N : Nat}
theorem trR_le {n B : Nat} {a : List (Nat × Nat)} (ha : a.length ≤ B) : ∀ j, (∀ i, i < j → at2 T n i < B) → (trR T n j a).length ≤ B
  | 0, _ => ha
  | j + 1, h => by
    have ih := trR_le ha j (fun i hi => h i (by omega))
    have := h j (Nat.lt_succ_self _)
    unfold trR
    split
    · simp; omega
    · exact ih
theorem trT_le {B : Nat} (h1 : 1 ≤ B) : ∀ n, (∀ i l, i < n → l < m → at2 T i l < B) → (trT T m n).length ≤ B
  | 0, _ => h1
  | n + 1, h => trR_le (trT_le h1 n fun i l hi hl => h i l (by omega) hl) m fun i hi => h n i (Nat.lt_succ_self _) hi
theorem trT_mono {n : Nat} : (trT T m n).length ≤ (trT T m (n + 1)).length := trR_mono m
theorem Good.len (g : Good T m N) : (tree T m N).length = N := by
  have h1 : (tree T m N).length ≤ N := trT_le g.pos N g.lt
  obtain ⟨n, rfl⟩ : ∃ n, N = n + 1 := ⟨N - 1, by have := g.pos; omega⟩
  have h2 := (g.ord n (Nat.lt_succ_self _)).1
  have h3 := trT_mono (T := T) (m := m) (n := n)
  unfold tree at *
  omega
theorem Good.ti (g : Good T m N) : TI T m N 0 (tree T m N) := TI.all g.ord N (Nat.le_refl _)
end
end Mon
namespace Mon
/-! ### shorter first, then by letters -/
def slt (u v : List Nat) : Prop := u.length < v.length ∨ (u.length = v.length ∧ u < v)
theorem lt_app : ∀ {u v : List Nat} (x y : List Nat), u.length = v.length → u < v → u ++ x < v ++ y
  | [], [], _, _, _, h => absurd h (List.lt_irrefl _)
  | [], _ :: _, _, _, h, _ => by cases h
  | _ :: _, [], _, _, h, _ => by cases h
  | a :: u, b :: v, x, y, hl, h => by
    rw [List.cons_append, List.cons_append]
    rcases List.cons_lt_cons_iff.mp h with h2 | ⟨h3, h2⟩
    · exact List.cons_lt_cons_iff.mpr (.inl h2)
    · exact List.cons_lt_cons_iff.mpr (.inr ⟨h3, lt_app x y (by simpa using hl) h2⟩)
theorem app_lt {c d : Nat} (h : c < d) : ∀ u : List Nat, u ++ [c] < u ++ [d]
  | [] => List.cons_lt_cons_iff.mpr (.inl h)
  | a :: u => List.cons_lt_cons_iff.mpr (.inr ⟨rfl, app_lt h u⟩)
theorem slt_app {u v : List Nat} (c d : Nat) (h : slt u v) : slt (u ++ [c]) (v ++ [d]) := by
  rcases h with h | ⟨h1, h2⟩
  · exact .inl (by simp; omega)
  · exact .inr ⟨by simp; omega, lt_app _ _ h1 h2⟩
theorem slt_last (u : List Nat) {c d : Nat} (h : c < d) : slt (u ++ [c]) (u ++ [d]) := .inr ⟨by simp, app_lt h u⟩
theorem slt_cons {u v : List Nat} (c : Nat) (h : slt u v) : slt (c :: u) (c :: v) := by
  rcases h with h | ⟨h1, h2⟩
  · exact .inl (by simp; omega)
  · exact .inr ⟨by simp; omega, List.cons_lt_cons_iff.mpr (.inr ⟨rfl, h2⟩)⟩
theorem slt_irr (u : List Nat) : ¬ slt u u := fun h => by
  rcases h with h | ⟨_, h⟩
  · omega
  · exact List.lt_irrefl _ h
theorem slt_trans {u v w : List Nat} (h : slt u v) (h' : slt v w) : slt u w := by
  rcases h with h | ⟨h1, h2⟩
  · rcases h' with h' | ⟨h3, h4⟩
    · exact .inl (by omega)
    · exact .inl (by omega)
  · rcases h' with h' | ⟨h3, h4⟩
    · exact .inl (by omega)
    · exact .inr ⟨by omega, List.lt_trans h2 h4⟩
theorem slt_snoc (u : List Nat) (c : Nat) : slt u (u ++ [c]) := .inl (by simp)

section
variable {T : Tab} {m N : Nat}
/-- the least words, by the tree -/
def wds (tr : List (Nat × Nat)) : List (List Nat) := along [] (fun ws p => ws.getD p.1 [] ++ [97 + p.2]) tr
def W (T : Tab) (m N k : Nat) : List Nat := (wds (tree T m N)).getD k []
theorem getD_take {α : Type} {l : List α} {i k : Nat} {d : α} (h : i < k) : (l.take k).getD i d = l.getD i d := by
  rw [List.getD_eq_getElem?_getD, List.getD_eq_getElem?_getD, List.getElem?_take_of_lt h]
abbrev P1 (T : Tab) (m N k : Nat) : Nat := ((tree T m N).getD k (0, 0)).1
abbrev P2 (T : Tab) (m N k : Nat) : Nat := ((tree T m N).getD k (0, 0)).2
theorem Good.ne (g : Good T m N) : tree T m N ≠ [] := fun h => by have := g.len; rw [h] at this; have := g.pos; simp at *; omega
theorem Good.fst (g : Good T m N) {k : Nat} (h0 : 0 < k) (h : k < N) : P1 T m N k < k ∧ P2 T m N k < m ∧ at2 T (P1 T m N k) (P2 T m N k) = k ∧ P1 T m N k < N := by
  obtain ⟨a1, a2, a3, a4⟩ := g.ti.fst k h0 (by rw [g.len]; exact h)
  exact ⟨a1, a2, a3, Nat.lt_trans a1 h⟩
theorem Good.W0 (g : Good T m N) : W T m N 0 = [] := along_zero _
theorem Good.Wk (g : Good T m N) {k : Nat} (h0 : 0 < k) (h : k < N) : W T m N k = W T m N (P1 T m N k) ++ [97 + P2 T m N k] := by
  show (along _ _ _).getD k [] = _
  rw [along_get h0 (by rw [g.len]; exact h), getD_take (g.fst h0 h).1]
  rfl
theorem Good.wlen (g : Good T m N) : (wds (tree T m N)).length = N := by
  show (along _ _ _).length = N
  rw [along_len g.ne, g.len]
theorem run_nil (n : Nat) : run T n [] = n := rfl
theorem Good.runW (g : Good T m N) : ∀ k, k < N → run T 0 (W T m N k) = k := fun k => by
  induction k using Nat.strongRecOn with
  | _ k ih =>
    intro h
    by_cases h0 : k = 0
    · subst h0; rw [g.W0]; rfl
    · have f := g.fst (by omega) h
      rw [g.Wk (by omega) h, run_snoc, ih _ f.1 f.2.2.2, show 97 + P2 T m N k - 97 = P2 T m N k by omega]
      exact f.2.2.1
theorem slt_lx (g : Good T m N) {n l i j : Nat} (hn : n < N) (hi : i < N) (ih : ∀ a b, a < b → b ≤ i → slt (W T m N a) (W T m N b)) (h : lx (n, l) (i, j)) : slt (W T m N n ++ [97 + l]) (W T m N i ++ [97 + j]) := by
  rcases h with h | ⟨h1, h2⟩
  · exact slt_app _ _ (ih n i h (Nat.le_refl _))
  · dsimp only at h1 h2
    subst h1
    exact slt_last _ (by omega)
theorem Good.mono (g : Good T m N) : ∀ b, b < N → ∀ a, a < b → slt (W T m N a) (W T m N b) := fun b => by
  induction b using Nat.strongRecOn with
  | _ b ih =>
    intro hb a hab
    have fb := g.fst (k := b) (by omega) hb
    by_cases h0 : a = 0
    · subst h0
      rw [g.W0, g.Wk (by omega) hb]
      exact .inl (by simp)
    · have fa := g.fst (k := a) (by omega) (by omega)
      rw [g.Wk (k := a) (by omega) (by omega), g.Wk (k := b) (by omega) hb]
      have hx := g.ti.inc a b (by omega) hab (by rw [g.len]; exact hb)
      exact slt_lx g fa.2.2.2 fb.2.2.2 (fun x y hxy hy => ih y (by omega) (by omega) x hxy) hx
theorem Good.inj (g : Good T m N) {a b : Nat} (ha : a < N) (hb : b < N) (h : W T m N a = W T m N b) : a = b := by
  have := g.runW a ha
  rw [h, g.runW b hb] at this
  exact this.symm
/-- the first pair that leads to a number -/
def least (T : Tab) (m N n l : Nat) : Bool := decide (0 < at2 T n l ∧ (tree T m N).getD (at2 T n l) (0, 0) = (n, l))
theorem Good.least_eq (g : Good T m N) {n l : Nat} (hn : n < N) (hl : l < m) (h : least T m N n l = true) : W T m N (at2 T n l) = W T m N n ++ [97 + l] := by
  obtain ⟨h0, he⟩ := of_decide_eq_true h
  rw [g.Wk h0 (g.lt n l hn hl)]
  unfold P1 P2
  rw [he]
theorem Good.not_least (g : Good T m N) {n l : Nat} (hn : n < N) (hl : l < m) (h : least T m N n l = false) : slt (W T m N (at2 T n l)) (W T m N n ++ [97 + l]) := by
  have h2 := of_decide_eq_false h
  by_cases h0 : 0 < at2 T n l
  · have hv := g.lt n l hn hl
    have f := g.fst h0 hv
    rcases g.ti.ear n l (by unfold lx; dsimp only; omega) hl h0 with e | e
    · exact absurd ⟨h0, e⟩ h2
    · rw [g.Wk h0 hv]
      exact slt_lx g (i := n) f.2.2.2 hn (fun a b hab hb => g.mono b (by omega) a hab) e
  · rw [show at2 T n l = 0 by omega, g.W0]
    exact .inl (by simp)
theorem Good.least_iff (g : Good T m N) {n l : Nat} (hn : n < N) (hl : l < m) : least T m N n l = true ↔ W T m N (at2 T n l) = W T m N n ++ [97 + l] := by
  constructor
  · exact g.least_eq hn hl
  · intro h
    cases e : least T m N n l with
    | true => rfl
    | false =>
      have := g.not_least hn hl e
      rw [h] at this
      exact absurd this (slt_irr _)
/-- its signs are letters -/
def Lt (m : Nat) (w : List Nat) : Prop := ∀ c ∈ w, 97 ≤ c ∧ c < 97 + m
theorem Good.ltW (g : Good T m N) : ∀ k, k < N → Lt m (W T m N k) := fun k => by
  induction k using Nat.strongRecOn with
  | _ k ih =>
    intro h
    by_cases h0 : k = 0
    · subst h0; rw [g.W0]; intro c hc; cases hc
    · have f := g.fst (by omega) h
      rw [g.Wk (by omega) h]
      intro c hc
      rcases List.mem_append.mp hc with hc | hc
      · exact ih _ f.1 f.2.2.2 c hc
      · rw [List.mem_singleton.mp hc]
        have := f.2.1
        omega
theorem Good.run_lt (g : Good T m N) : ∀ w, Lt m w → run T 0 w < N := by
  refine rev_ind (by intro _; exact g.pos) fun w c ih h => ?_
  rw [run_snoc]
  have hc := h c (by simp)
  exact g.lt _ _ (ih fun d hd => h d (by simp [hd])) (by omega)
/-- the least word of a number is least -/
theorem Good.le (g : Good T m N) : ∀ w, Lt m w → W T m N (run T 0 w) = w ∨ slt (W T m N (run T 0 w)) w := by
  refine rev_ind (by intro _; exact .inl g.W0) fun w c ih h => ?_
  rw [run_snoc]
  have hc := h c (by simp)
  have hw : Lt m w := fun d hd => h d (by simp [hd])
  have hr := g.run_lt w hw
  have e : 97 + (c - 97) = c := by omega
  have h1 : W T m N (at2 T (run T 0 w) (c - 97)) = W T m N (run T 0 w) ++ [c] ∨ slt (W T m N (at2 T (run T 0 w) (c - 97))) (W T m N (run T 0 w) ++ [c]) := by
    cases hL : least T m N (run T 0 w) (c - 97) with
    | true => left; rw [g.least_eq hr (by omega) hL, e]
    | false => right; have := g.not_least hr (by omega) hL; rwa [e] at this
  rcases ih hw with i | i
  · rw [i] at h1
    exact h1
  · right
    have h2 := slt_app c c i
    rcases h1 with h1 | h1
    · rw [h1]; exact h2
    · exact slt_trans h1 h2
end
end Mon
namespace Mon
section
variable {T : Tab} {m N : Nat}
/-! ### the word without its first letter -/
def ends (T : Tab) (tr : List (Nat × Nat)) : List Nat := along 0 (fun es p => if p.1 = 0 then 0 else at2 T (es.getD p.1 0) p.2) tr
def E (T : Tab) (m N k : Nat) : Nat := (ends T (tree T m N)).getD k 0
theorem Good.E_eq (g : Good T m N) : ∀ k, k < N → E T m N k = run T 0 (W T m N k).tail := fun k => by
  induction k using Nat.strongRecOn with
  | _ k ih =>
    intro h
    by_cases h0 : k = 0
    · subst h0
      rw [g.W0]
      exact along_zero _
    · have f := g.fst (by omega) h
      have e : E T m N k = if P1 T m N k = 0 then 0 else at2 T (E T m N (P1 T m N k)) (P2 T m N k) := by
        show (along _ _ _).getD k 0 = _
        rw [along_get (by omega) (by rw [g.len]; exact h), getD_take f.1]
        rfl
      rw [e, g.Wk (by omega) h]
      by_cases h1 : P1 T m N k = 0
      · rw [if_pos h1, h1, g.W0]; rfl
      · rw [if_neg h1, ih _ f.1 f.2.2.2]
        have hne : W T m N (P1 T m N k) ≠ [] := by rw [g.Wk (by omega) f.2.2.2]; simp
        rw [List.tail_append_of_ne_nil hne, run_snoc, show 97 + P2 T m N k - 97 = P2 T m N k by omega]
theorem Good.E0 (g : Good T m N) : E T m N 0 = 0 := along_zero _
theorem Good.Ek (g : Good T m N) {k : Nat} (h0 : 0 < k) (h : k < N) : E T m N k = if P1 T m N k = 0 then 0 else at2 T (E T m N (P1 T m N k)) (P2 T m N k) := by
  have f := g.fst h0 h
  show (along _ _ _).getD k 0 = _
  rw [along_get h0 (by rw [g.len]; exact h), getD_take f.1]
  rfl
theorem Good.E_lt (g : Good T m N) {k : Nat} (h : k < N) : E T m N k < N := by
  rw [g.E_eq k h]
  exact g.run_lt _ fun c hc => g.ltW k h c (List.mem_of_mem_tail hc)
theorem Good.elen (g : Good T m N) : (ends T (tree T m N)).length = N := by
  show (along _ _ _).length = N
  rw [along_len g.ne, g.len]
/-! ### multiplied from the left -/
def lefts (T : Tab) (tr : List (Nat × Nat)) : Tab := along (T.getD 0 []) (fun ls p => (ls.getD p.1 []).map fun n => at2 T n p.2) tr
theorem Good.llen (g : Good T m N) : (lefts T (tree T m N)).length = N := by
  show (along _ _ _).length = N
  rw [along_len g.ne, g.len]
def Lf (T : Tab) (m N k : Nat) : List Nat := (lefts T (tree T m N)).getD k []
theorem Good.Lfk (g : Good T m N) {k : Nat} (h0 : 0 < k) (h : k < N) : Lf T m N k = (Lf T m N (P1 T m N k)).map fun n => at2 T n (P2 T m N k) := by
  show (along _ _ _).getD k [] = _
  rw [along_get h0 (by rw [g.len]; exact h), getD_take (g.fst h0 h).1]
  rfl
theorem Good.Lf0 (g : Good T m N) : Lf T m N 0 = T.getD 0 [] := along_zero _
theorem Good.Lf_len (g : Good T m N) : ∀ k, k < N → (Lf T m N k).length = m := fun k => by
  induction k using Nat.strongRecOn with
  | _ k ih =>
    intro h
    by_cases h0 : k = 0
    · subst h0; rw [g.Lf0]; exact g.row 0 h
    · have f := g.fst (by omega) h
      rw [g.Lfk (by omega) h, List.length_map]
      exact ih _ f.1 f.2.2.2
theorem getD_map {α β : Type} {l : List α} {f : α → β} {a : Nat} {d : α} {e : β} (h : a < l.length) : (l.map f).getD a e = f (l.getD a d) := by
  rw [List.getD_eq_getElem?_getD, List.getD_eq_getElem?_getD, List.getElem?_map, List.getElem?_eq_getElem h]; rfl
theorem Good.Lf_run (g : Good T m N) : ∀ k, k < N → ∀ a, a < m → (Lf T m N k).getD a 0 = run T 0 ((97 + a) :: W T m N k) := fun k => by
  induction k using Nat.strongRecOn with
  | _ k ih =>
    intro h a ha
    by_cases h0 : k = 0
    · subst h0
      rw [g.Lf0, g.W0]
      show _ = at2 T 0 (97 + a - 97)
      rw [show 97 + a - 97 = a by omega]; rfl
    · have f := g.fst (by omega) h
      rw [g.Lfk (by omega) h, getD_map (d := 0) (by rw [g.Lf_len _ f.2.2.2]; exact ha), ih _ f.1 f.2.2.2 a ha, g.Wk (by omega) h]
      rw [← List.cons_append, run_snoc, show 97 + P2 T m N k - 97 = P2 T m N k by omega]
theorem list_ext0 {u v : List Nat} (h : u.length = v.length) (k : ∀ a, a < u.length → u.getD a 0 = v.getD a 0) : u = v := by
  refine List.ext_getElem h fun i h1 h2 => ?_
  have := k i h1
  rw [List.getD_eq_getElem?_getD, List.getD_eq_getElem?_getD, List.getElem?_eq_getElem h1, List.getElem?_eq_getElem h2] at this
  exact this
/-- products are those of a monoid -/
def Prod (T : Tab) (m N : Nat) : Prop := ∀ n l, n < N → l < m → Lf T m N (at2 T n l) = (Lf T m N n).map fun k => at2 T k l
/-- it is so if what words do tells their numbers -/
theorem Good.prod_of (g : Good T m N) (h : ∀ a n l, a < m → n < N → l < m → run T 0 ((97 + a) :: W T m N (at2 T n l)) = at2 T (run T 0 ((97 + a) :: W T m N n)) l) : Prod T m N := by
  intro n l hn hl
  have hv := g.lt n l hn hl
  refine list_ext0 (by rw [List.length_map, g.Lf_len _ hv, g.Lf_len _ hn]) fun a ha => ?_
  rw [g.Lf_len _ hv] at ha
  rw [getD_map (d := 0) (by rw [g.Lf_len _ hn]; exact ha), g.Lf_run _ hv a ha, g.Lf_run _ hn a ha]
  exact h a n l ha hn hl
theorem Good.cong (g : Good T m N) (p : Prod T m N) {a : Nat} (ha : a < m) : ∀ w, Lt m w → run T 0 ((97 + a) :: w) = (Lf T m N (run T 0 w)).getD a 0 := by
  refine rev_ind (fun _ => ?_) fun w c ih h => ?_
  · rw [run_nil, g.Lf_run 0 g.pos a ha, g.W0]
  · have hc := h c (by simp)
    have hw : Lt m w := fun d hd => h d (by simp [hd])
    have hr := g.run_lt w hw
    rw [← List.cons_append, run_snoc, run_snoc, ih hw, p _ _ hr (by omega), getD_map (d := 0) (by rw [g.Lf_len _ hr]; exact ha)]
/-- a least word without its first letter is least -/
theorem Good.tail (g : Good T m N) (p : Prod T m N) {k c : Nat} {v : List Nat} (hk : k < N) (h : W T m N k = c :: v) : W T m N (run T 0 v) = v := by
  have hl := g.ltW k hk
  rw [h] at hl
  have hv : Lt m v := fun d hd => hl d (List.mem_cons_of_mem _ hd)
  have hc := hl c List.mem_cons_self
  have hr := g.run_lt v hv
  rcases g.le v hv with e | e
  · exact e
  · exfalso
    obtain ⟨a, rfl⟩ : ∃ a, c = 97 + a := ⟨c - 97, by omega⟩
    have h2 := slt_cons (97 + a) e
    rw [← h] at h2
    have hw : Lt m ((97 + a) :: W T m N (run T 0 v)) := fun d hd => by
      rcases List.mem_cons.mp hd with q | q
      · rw [q]; exact hc
      · exact g.ltW _ hr d q
    have e3 : run T 0 ((97 + a) :: W T m N (run T 0 v)) = k := by
      rw [g.cong p (by omega) _ (g.ltW _ hr), g.runW _ hr, ← g.cong p (by omega) v hv, ← h, g.runW k hk]
    have h3 := g.le _ hw
    rw [e3] at h3
    rcases h3 with h3 | h3
    · rw [← h3] at h2; exact slt_irr _ h2
    · exact slt_irr _ (slt_trans h2 h3)
/-! ### rules -/
def rule (T : Tab) (m N n l : Nat) : Bool := !least T m N n l && (decide (n = 0) || least T m N (E T m N n) l)
def rules (T : Tab) (m N : Nat) : List (List Nat × List Nat) := (List.range N).flatMap fun n => ((List.range m).filter (rule T m N n)).map fun l => (W T m N n ++ [97 + l], W T m N (at2 T n l))
/-- a known word is the least of its number -/
def Known (T : Tab) (m N : Nat) (w : List Nat) : Prop := ∃ k, k < N ∧ W T m N k = w
theorem Good.known_iff (g : Good T m N) {w : List Nat} (hw : Lt m w) : Known T m N w ↔ W T m N (run T 0 w) = w := by
  constructor
  · rintro ⟨k, hk, rfl⟩
    rw [g.runW k hk]
  · intro h
    exact ⟨_, g.run_lt w hw, h⟩
theorem Good.Lt_snoc (g : Good T m N) {n l : Nat} (hn : n < N) (hl : l < m) : Lt m (W T m N n ++ [97 + l]) := fun c hc => by
  rcases List.mem_append.mp hc with hc | hc
  · exact g.ltW n hn c hc
  · rw [List.mem_singleton.mp hc]; omega
theorem Good.run_longer (g : Good T m N) {n l : Nat} (hn : n < N) : run T 0 (W T m N n ++ [97 + l]) = at2 T n l := by
  rw [run_snoc, g.runW n hn, show 97 + l - 97 = l by omega]
theorem Good.known_longer (g : Good T m N) {n l : Nat} (hn : n < N) (hl : l < m) : Known T m N (W T m N n ++ [97 + l]) ↔ least T m N n l = true := by
  rw [g.known_iff (g.Lt_snoc hn hl), g.run_longer hn, g.least_iff hn hl]
theorem Good.W_tail (g : Good T m N) (p : Prod T m N) {n : Nat} (hn : n < N) : W T m N (E T m N n) = (W T m N n).tail := by
  rw [g.E_eq n hn]
  cases h : W T m N n with
  | nil => exact g.W0
  | cons c v => exact g.tail p hn h
theorem Good.known_tail (g : Good T m N) (p : Prod T m N) {n l : Nat} (hn : n < N) (hl : l < m) : Known T m N (W T m N n ++ [97 + l]).tail ↔ n = 0 ∨ least T m N (E T m N n) l = true := by
  by_cases h0 : n = 0
  · subst h0
    rw [g.W0]
    exact ⟨fun _ => .inl rfl, fun _ => ⟨0, g.pos, g.W0⟩⟩
  · have hne : W T m N n ≠ [] := by rw [g.Wk (by omega) hn]; simp
    rw [List.tail_append_of_ne_nil hne, ← g.W_tail p hn, g.known_longer (g.E_lt hn) hl]
    exact ⟨fun h => .inr h, fun h => h.resolve_left h0⟩
theorem Good.rule_iff (g : Good T m N) (p : Prod T m N) {n l : Nat} (hn : n < N) (hl : l < m) : rule T m N n l = true ↔ ¬ Known T m N (W T m N n ++ [97 + l]) ∧ Known T m N (W T m N n ++ [97 + l]).tail := by
  rw [g.known_longer hn hl, g.known_tail p hn hl]
  unfold rule
  cases least T m N n l <;> by_cases h : n = 0 <;> simp [h]
/-! ### rules in order -/
theorem Good.rules_sorted (g : Good T m N) : (rules T m N).Pairwise fun a b => slt a.1 b.1 := by
  unfold rules
  rw [List.pairwise_flatMap]
  refine ⟨fun n hn => ?_, ?_⟩
  · rw [List.pairwise_map]
    exact (List.pairwise_lt_range).filter _ |>.imp fun h => slt_last _ (by omega)
  · refine List.pairwise_lt_range.imp_of_mem fun {a b} ha hb hab => ?_
    intro x hx y hy
    obtain ⟨l, _, rfl⟩ := List.mem_map.mp hx
    obtain ⟨l', _, rfl⟩ := List.mem_map.mp hy
    exact slt_app _ _ (g.mono b (List.mem_range.mp hb) a hab)
theorem flat_len {α β : Type} (f : α → List β) (B : Nat) : ∀ l : List α, (∀ a ∈ l, (f a).length ≤ B) → (l.flatMap f).length ≤ l.length * B
  | [], _ => by simp
  | a :: l, h => by
    have h1 := flat_len f B l fun b hb => h b (List.mem_cons_of_mem _ hb)
    have h2 := h a List.mem_cons_self
    rw [List.flatMap_cons, List.length_append, List.length_cons, Nat.add_mul]
    omega
theorem rules_len : (rules T m N).length ≤ N * m := by
  have := flat_len (fun n => ((List.range m).filter (rule T m N n)).map fun l => (W T m N n ++ [97 + l], W T m N (at2 T n l))) m (List.range N) fun n _ => by
    rw [List.length_map]
    exact Nat.le_trans (List.length_filter_le _ _) (by simp)
  rw [List.length_range] at this
  exact this
end
end Mon
namespace Mon
/-! ### maps, listed by multiplying -/
def IsMap (sz : Nat) (f : List Nat) : Prop := f.length = sz ∧ ∀ x ∈ f, x < sz
def mul (f r : List Nat) : List Nat := f.map fun i => r.getD i 0
theorem getD_lt {r : List Nat} {sz i : Nat} (h : IsMap sz r) (hi : i < sz) : r.getD i 0 < sz := by
  have h1 : i < r.length := by rw [h.1]; exact hi
  rw [List.getD_eq_getElem?_getD, List.getElem?_eq_getElem h1]
  exact h.2 _ (List.getElem_mem h1)
theorem mul_map {sz : Nat} {f r : List Nat} (hf : IsMap sz f) (hr : IsMap sz r) : IsMap sz (mul f r) := by
  refine ⟨by unfold mul; rw [List.length_map, hf.1], fun x hx => ?_⟩
  obtain ⟨i, hi, rfl⟩ := List.mem_map.mp hx
  exact getD_lt hr (hf.2 i hi)
theorem mul_assoc {sz : Nat} {f g h : List Nat} (hf : IsMap sz f) (hg : IsMap sz g) : mul (mul f g) h = mul f (mul g h) := by
  unfold mul
  rw [List.map_map]
  refine List.map_congr_left fun i hi => ?_
  have h1 : i < g.length := by rw [hg.1]; exact hf.2 i hi
  rw [getD_map (d := 0) h1]
  rfl
theorem one_map (sz : Nat) : IsMap sz (List.range sz) := ⟨List.length_range, fun x hx => List.mem_range.mp hx⟩
theorem one_mul {sz : Nat} {r : List Nat} (h : IsMap sz r) : mul (List.range sz) r = r := by
  refine list_ext0 (by unfold mul; rw [List.length_map, List.length_range, h.1]) fun a ha => ?_
  unfold mul at *
  rw [List.length_map] at ha
  rw [getD_map (d := 0) ha]
  have : (List.range sz).getD a 0 = a := by
    rw [List.length_range] at ha
    rw [List.getD_eq_getElem?_getD, List.getElem?_range ha]; rfl
  rw [this]
def fdR (rows : Tab) (f : List Nat) : Nat → List (List Nat) → List (List Nat)
  | 0, fd => fd
  | j + 1, fd => if mul f (rows.getD j []) ∈ fdR rows f j fd then fdR rows f j fd else fdR rows f j fd ++ [mul f (rows.getD j [])]
def wsR (rows : Tab) (f w : List Nat) : Nat → List (List Nat) → List (List Nat) → List (List Nat)
  | 0, _, ws => ws
  | j + 1, fd, ws => if mul f (rows.getD j []) ∈ fdR rows f j fd then wsR rows f w j fd ws else wsR rows f w j fd ws ++ [w ++ [97 + j]]
def rowR (rows : Tab) (f : List Nat) (j : Nat) (fd : List (List Nat)) : List Nat := (List.range j).map fun i => (fdR rows f (i + 1) fd).idxOf (mul f (rows.getD i []))
def fdT (rows : Tab) (sz : Nat) : Nat → List (List Nat)
  | 0 => [List.range sz]
  | n + 1 => fdR rows ((fdT rows sz n).getD n []) rows.length (fdT rows sz n)
def wsT (rows : Tab) (sz : Nat) : Nat → List (List Nat)
  | 0 => [[]]
  | n + 1 => wsR rows ((fdT rows sz n).getD n []) ((wsT rows sz n).getD n []) rows.length (fdT rows sz n) (wsT rows sz n)
def tbT (rows : Tab) (sz n : Nat) : Tab := (List.range n).map fun k => rowR rows ((fdT rows sz k).getD k []) rows.length (fdT rows sz k)
theorem tbT_succ (rows : Tab) (sz n : Nat) : tbT rows sz (n + 1) = tbT rows sz n ++ [rowR rows ((fdT rows sz n).getD n []) rows.length (fdT rows sz n)] := by
  unfold tbT; rw [List.range_succ, List.map_append]; rfl
theorem rowR_succ (rows : Tab) (f : List Nat) (j : Nat) (fd : List (List Nat)) : rowR rows f (j + 1) fd = rowR rows f j fd ++ [(fdR rows f (j + 1) fd).idxOf (mul f (rows.getD j []))] := by
  unfold rowR; rw [List.range_succ, List.map_append]; rfl
theorem fdR_succ (rows : Tab) (f : List Nat) (j : Nat) (fd : List (List Nat)) : fdR rows f (j + 1) fd = if mul f (rows.getD j []) ∈ fdR rows f j fd then fdR rows f j fd else fdR rows f j fd ++ [mul f (rows.getD j [])] := rfl
section
variable {rows : Tab} {sz : Nat}
theorem fdR_pre (f : List Nat) (fd : List (List Nat)) (j : Nat) : ∀ i, ∃ b, fdR rows f (j + i) fd = fdR rows f j fd ++ b
  | 0 => ⟨[], by simp⟩
  | i + 1 => by
    obtain ⟨b, h⟩ := fdR_pre f fd j i
    show ∃ b, fdR rows f (j + i + 1) fd = _
    rw [fdR_succ]
    split
    · exact ⟨b, h⟩
    · exact ⟨b ++ [mul f (rows.getD (j + i) [])], by rw [h, List.append_assoc]⟩
theorem fdT_pre (n : Nat) : ∀ i, ∃ b, fdT rows sz (n + i) = fdT rows sz n ++ b
  | 0 => ⟨[], by simp⟩
  | i + 1 => by
    obtain ⟨b, h⟩ := fdT_pre n i
    obtain ⟨c, h2⟩ := fdR_pre (rows := rows) ((fdT rows sz (n + i)).getD (n + i) []) (fdT rows sz (n + i)) 0 rows.length
    rw [Nat.zero_add] at h2
    exact ⟨b ++ c, by rw [← List.append_assoc, ← h]; exact h2⟩
theorem fdR_nodup {f : List Nat} {fd : List (List Nat)} (h : fd.Nodup) : ∀ j, (fdR rows f j fd).Nodup
  | 0 => h
  | j + 1 => by
    have ih := fdR_nodup (f := f) h j
    rw [fdR_succ]
    split
    · exact ih
    · rename_i hn
      rw [List.nodup_append]
      refine ⟨ih, List.pairwise_singleton _ _, fun a ha b hb => ?_⟩
      rw [List.mem_singleton.mp hb]
      intro e
      exact hn (e ▸ ha)
theorem fdT_nodup : ∀ n, (fdT rows sz n).Nodup
  | 0 => List.pairwise_singleton _ _
  | n + 1 => fdR_nodup (fdT_nodup n) _
theorem getD_mem {l : List (List Nat)} {n : Nat} (h : n < l.length) : l.getD n [] ∈ l := by
  rw [List.getD_eq_getElem?_getD, List.getElem?_eq_getElem h]
  exact List.getElem_mem h
theorem fdR_maps {f : List Nat} {fd : List (List Nat)} (hr : ∀ r ∈ rows, IsMap sz r) (hf : IsMap sz f) (h : ∀ g ∈ fd, IsMap sz g) : ∀ j, j ≤ rows.length → ∀ g ∈ fdR rows f j fd, IsMap sz g
  | 0, _ => h
  | j + 1, hj => by
    have ih := fdR_maps hr hf h j (by omega)
    rw [fdR_succ]
    split
    · exact ih
    · intro g hg
      rcases List.mem_append.mp hg with hg | hg
      · exact ih g hg
      · rw [List.mem_singleton.mp hg]
        exact mul_map hf (hr _ (getD_mem (by omega)))
theorem fdT_maps (hr : ∀ r ∈ rows, IsMap sz r) : ∀ n, (∀ k, k < n → k < (fdT rows sz k).length) → ∀ g ∈ fdT rows sz n, IsMap sz g
  | 0, _ => fun g hg => by rw [List.mem_singleton.mp hg]; exact one_map sz
  | n + 1, h => by
    have ih := fdT_maps hr n fun k hk => h k (by omega)
    exact fdR_maps hr (ih _ (getD_mem (h n (Nat.lt_succ_self _)))) ih _ (Nat.le_refl _)
end
/-! ### how many maps there are -/
theorem nodup_le : ∀ (B : Nat) (l : List Nat), l.Nodup → (∀ x ∈ l, x < B) → l.length ≤ B
  | 0, [], _, _ => Nat.le_refl _
  | 0, x :: _, _, h => absurd (h x List.mem_cons_self) (Nat.not_lt_zero _)
  | B + 1, l, hn, h => by
    have h1 := nodup_le B (l.filter fun x => x != B) (hn.filter _) fun x hx => by
      have := List.mem_filter.mp hx
      have h2 := h x this.1
      have h3 : x ≠ B := by simpa using this.2
      omega
    have h2 : (l.filter fun x => x == B).length ≤ 1 := by
      have h4 : (l.filter fun x => x == B).Nodup := hn.filter _
      have h5 : ∀ x ∈ l.filter fun x => x == B, x = B := fun x hx => by simpa using (List.mem_filter.mp hx).2
      match hm : l.filter fun x => x == B, h4, h5 with
      | [], _, _ => simp
      | [_], _, _ => simp
      | x :: y :: r, h4, h5 =>
        have e1 := h5 x (by simp)
        have e2 := h5 y (by simp)
        rw [e1, e2] at h4
        simp at h4
    have h3 : l.length = (l.filter fun x => x == B).length + (l.filter fun x => x != B).length := by
      have key : ∀ l : List Nat, l.length = (l.filter fun x => x == B).length + (l.filter fun x => x != B).length := fun l => by
        induction l with
        | nil => rfl
        | cons a l ih => by_cases e : a = B <;> simp [e] <;> omega
      exact key l
    omega
def code (f : List Nat) : Nat := f.foldr (fun x a => a * 4 + x) 0
theorem code_lt : ∀ f : List Nat, (∀ x ∈ f, x < 4) → code f < 4 ^ f.length
  | [], _ => by decide
  | x :: f, h => by
    have h1 := code_lt f fun y hy => h y (List.mem_cons_of_mem _ hy)
    have h2 := h x List.mem_cons_self
    show code f * 4 + x < 4 ^ (f.length + 1)
    rw [Nat.pow_succ]
    omega
theorem code_inj : ∀ f g : List Nat, f.length = g.length → (∀ x ∈ f, x < 4) → (∀ x ∈ g, x < 4) → code f = code g → f = g
  | [], [], _, _, _, _ => rfl
  | [], _ :: _, h, _, _, _ => by cases h
  | _ :: _, [], h, _, _, _ => by cases h
  | x :: f, y :: g, hl, hf, hg, h => by
    have h2 := hf x List.mem_cons_self
    have h3 := hg y List.mem_cons_self
    have h4 : code f * 4 + x = code g * 4 + y := h
    have e1 : x = y := by omega
    have e2 : code f = code g := by omega
    rw [e1, code_inj f g (by simpa using hl) (fun z hz => hf z (List.mem_cons_of_mem _ hz)) (fun z hz => hg z (List.mem_cons_of_mem _ hz)) e2]
theorem maps_le {sz : Nat} (h4 : sz ≤ 4) {l : List (List Nat)} (hn : l.Nodup) (h : ∀ f ∈ l, IsMap sz f) : l.length ≤ 256 := by
  have h1 := nodup_le 256 (l.map code) ?_ ?_
  · rwa [List.length_map] at h1
  · unfold List.Nodup
    rw [List.pairwise_map]
    refine List.Pairwise.imp_of_mem (fun {a b} ha hb hab e => hab ?_) hn
    exact code_inj a b (by rw [(h a ha).1, (h b hb).1]) (fun x hx => Nat.lt_of_lt_of_le ((h a ha).2 x hx) h4) (fun x hx => Nat.lt_of_lt_of_le ((h b hb).2 x hx) h4) e
  · intro x hx
    obtain ⟨f, hf, rfl⟩ := List.mem_map.mp hx
    have h2 := code_lt f fun y hy => Nat.lt_of_lt_of_le ((h f hf).2 y hy) h4
    rw [(h f hf).1] at h2
    have h3 : 4 ^ sz ≤ 4 ^ 4 := Nat.pow_le_pow_right (by decide) h4
    have h5 : 4 ^ 4 = 256 := by decide
    omega
end Mon
namespace Mon
/-- the listing is over at N -/
structure Done (rows : Tab) (sz N : Nat) : Prop where
  maps : ∀ r ∈ rows, IsMap sz r
  go : ∀ k, k < N → k < (fdT rows sz k).length
  stop : (fdT rows sz N).length = N
theorem idx_app {l b : List (List Nat)} {p : List Nat} (h : p ∈ l) : (l ++ b).idxOf p = l.idxOf p := by
  rw [List.idxOf_append, if_pos h]
theorem idx_new {l : List (List Nat)} {p : List Nat} (h : p ∉ l) : (l ++ [p]).idxOf p = l.length := by
  rw [List.idxOf_append, if_neg h]; simp
theorem getD_idx {l : List (List Nat)} {p : List Nat} (h : p ∈ l) : l.getD (l.idxOf p) [] = p := by
  have h2 := List.idxOf_lt_length_iff.mpr h
  rw [List.getD_eq_getElem?_getD, List.getElem?_eq_getElem h2]
  simp
section
variable {rows : Tab} {sz N : Nat}
theorem fdT_pos (n : Nat) : 0 < (fdT rows sz n).length := by
  obtain ⟨b, h⟩ := fdT_pre (rows := rows) (sz := sz) 0 n
  rw [Nat.zero_add] at h
  rw [h, List.length_append]
  show 0 < 1 + b.length
  omega
namespace Done
variable (d : Done rows sz N)
include d
abbrev F (rows : Tab) (sz N : Nat) : List (List Nat) := fdT rows sz N
theorem pre {n : Nat} (h : n ≤ N) : ∃ b, fdT rows sz N = fdT rows sz n ++ b := by
  obtain ⟨b, e⟩ := fdT_pre (rows := rows) (sz := sz) n (N - n)
  rw [show n + (N - n) = N by omega] at e
  exact ⟨b, e⟩
theorem Fn {n : Nat} (h : n < N) : (fdT rows sz n).getD n [] = (fdT rows sz N).getD n [] := by
  obtain ⟨b, e⟩ := d.pre (Nat.le_of_lt h)
  rw [e, getD_left (d.go n h)]
theorem Fmap : ∀ g ∈ fdT rows sz N, IsMap sz g := fdT_maps d.maps N d.go
theorem Fm {n : Nat} (h : n < N) : IsMap sz ((fdT rows sz N).getD n []) := d.Fmap _ (getD_mem (by rw [d.stop]; exact h))
theorem cell {n j : Nat} (hn : n < N) (hj : j < rows.length) : at2 (tbT rows sz N) n j = (fdR rows ((fdT rows sz n).getD n []) (j + 1) (fdT rows sz n)).idxOf (mul ((fdT rows sz n).getD n []) (rows.getD j [])) := by
  unfold at2 tbT
  rw [getD_map (d := 0) (by rw [List.length_range]; exact hn)]
  have e1 : (List.range N).getD n 0 = n := by rw [List.getD_eq_getElem?_getD, List.getElem?_range hn]; rfl
  rw [e1]
  unfold rowR
  rw [getD_map (d := 0) (by rw [List.length_range]; exact hj)]
  have e2 : (List.range rows.length).getD j 0 = j := by rw [List.getD_eq_getElem?_getD, List.getElem?_range hj]; rfl
  rw [e2]
theorem mem_step (f : List Nat) (fd : List (List Nat)) (j : Nat) : mul f (rows.getD j []) ∈ fdR rows f (j + 1) fd := by
  rw [fdR_succ]
  split
  · assumption
  · exact List.mem_append_right _ (List.mem_singleton.mpr rfl)
theorem pre_row {n j : Nat} (hn : n < N) (hj : j ≤ rows.length) : ∃ b, fdT rows sz N = fdR rows ((fdT rows sz n).getD n []) j (fdT rows sz n) ++ b := by
  obtain ⟨b, e⟩ := d.pre (n := n + 1) hn
  obtain ⟨c, e2⟩ := fdR_pre (rows := rows) ((fdT rows sz n).getD n []) (fdT rows sz n) j (rows.length - j)
  rw [show j + (rows.length - j) = rows.length by omega] at e2
  exact ⟨c ++ b, by rw [e]; show fdR rows _ rows.length _ ++ b = _; rw [e2, List.append_assoc]⟩
theorem cell2 {n j : Nat} (hn : n < N) (hj : j < rows.length) : mul ((fdT rows sz N).getD n []) (rows.getD j []) ∈ fdT rows sz N ∧ at2 (tbT rows sz N) n j = (fdT rows sz N).idxOf (mul ((fdT rows sz N).getD n []) (rows.getD j [])) := by
  have h1 := d.mem_step ((fdT rows sz n).getD n []) (fdT rows sz n) j
  obtain ⟨b, e⟩ := d.pre_row hn (j := j + 1) hj
  rw [d.cell hn hj, ← d.Fn hn]
  refine ⟨?_, ?_⟩
  · rw [e]; exact List.mem_append_left _ h1
  · rw [e, idx_app h1]
theorem cell_lt {n j : Nat} (hn : n < N) (hj : j < rows.length) : at2 (tbT rows sz N) n j < N := by
  obtain ⟨h1, h2⟩ := d.cell2 hn hj
  rw [h2]
  have := List.idxOf_lt_length_iff.mpr h1
  rw [d.stop] at this
  exact this
theorem F_cell {n j : Nat} (hn : n < N) (hj : j < rows.length) : (fdT rows sz N).getD (at2 (tbT rows sz N) n j) [] = mul ((fdT rows sz N).getD n []) (rows.getD j []) := by
  obtain ⟨h1, h2⟩ := d.cell2 hn hj
  rw [h2, getD_idx h1]
/-- one step of a row: the tree grows as the list does -/
theorem step {n j : Nat} (hn : n < N) (hj : j < rows.length) : (mul ((fdT rows sz n).getD n []) (rows.getD j []) ∈ fdR rows ((fdT rows sz n).getD n []) j (fdT rows sz n) → at2 (tbT rows sz N) n j < (fdR rows ((fdT rows sz n).getD n []) j (fdT rows sz n)).length) ∧ (mul ((fdT rows sz n).getD n []) (rows.getD j []) ∉ fdR rows ((fdT rows sz n).getD n []) j (fdT rows sz n) → at2 (tbT rows sz N) n j = (fdR rows ((fdT rows sz n).getD n []) j (fdT rows sz n)).length) := by
  rw [d.cell hn hj, fdR_succ]
  refine ⟨fun h => ?_, fun h => ?_⟩
  · rw [if_pos h]; exact List.idxOf_lt_length_iff.mpr h
  · rw [if_neg h]; exact idx_new h
theorem rowLen {n : Nat} (hn : n < N) (ih : (fdT rows sz n).length = (trT (tbT rows sz N) rows.length n).length) : ∀ j, j ≤ rows.length → (fdR rows ((fdT rows sz n).getD n []) j (fdT rows sz n)).length = (trR (tbT rows sz N) n j (trT (tbT rows sz N) rows.length n)).length
  | 0, _ => ih
  | j + 1, hj => by
    have e := rowLen hn ih j (by omega)
    obtain ⟨s1, s2⟩ := d.step hn (j := j) hj
    rw [fdR_succ]
    unfold trR
    by_cases h : mul ((fdT rows sz n).getD n []) (rows.getD j []) ∈ fdR rows ((fdT rows sz n).getD n []) j (fdT rows sz n)
    · have := s1 h
      rw [if_pos h, if_neg (by omega), e]
    · have := s2 h
      rw [if_neg h, if_pos (by omega), List.length_append, List.length_append, e]
      rfl
theorem lens : ∀ n, n ≤ N → (fdT rows sz n).length = (trT (tbT rows sz N) rows.length n).length
  | 0, _ => rfl
  | n + 1, h => d.rowLen (by omega) (lens n (by omega)) rows.length (Nat.le_refl _)
theorem ord : Ord (tbT rows sz N) rows.length N := fun n hn => by
  have e := d.lens n (Nat.le_of_lt hn)
  refine ⟨by rw [← e]; exact d.go n hn, fun j hj => ?_⟩
  rw [← d.rowLen hn e j (Nat.le_of_lt hj)]
  obtain ⟨s1, s2⟩ := d.step hn (j := j) hj
  by_cases h : mul ((fdT rows sz n).getD n []) (rows.getD j []) ∈ fdR rows ((fdT rows sz n).getD n []) j (fdT rows sz n)
  · exact Nat.le_of_lt (s1 h)
  · exact Nat.le_of_eq (s2 h)
theorem tlen : (tbT rows sz N).length = N := by unfold tbT; simp
theorem good : Good (tbT rows sz N) rows.length N := by
  refine ⟨by have := fdT_pos (rows := rows) (sz := sz) N; rw [d.stop] at this; exact this, d.ord, fun n l hn hl => d.cell_lt hn hl, fun n hn => ?_⟩
  unfold tbT
  rw [getD_map (d := 0) (by rw [List.length_range]; exact hn)]
  unfold rowR
  simp
theorem wsR_pre (f w : List Nat) (fd ws : List (List Nat)) : ∀ j, ∃ b, wsR rows f w j fd ws = ws ++ b
  | 0 => ⟨[], by simp [wsR]⟩
  | j + 1 => by
    obtain ⟨b, h⟩ := wsR_pre f w fd ws j
    unfold wsR
    split
    · exact ⟨b, h⟩
    · exact ⟨b ++ [w ++ [97 + j]], by rw [h, List.append_assoc]⟩
theorem trR_ne {T : Tab} {n j : Nat} {a : List (Nat × Nat)} (h : a ≠ []) : trR T n j a ≠ [] := fun e => by
  have := trR_mono (T := T) (n := n) (a := a) j
  rw [e] at this
  exact h (List.length_eq_zero_iff.mp (by simpa using this))
theorem wsRow {n : Nat} (hn : n < N) (ih : wsT rows sz n = wds (trT (tbT rows sz N) rows.length n)) : ∀ j, j ≤ rows.length →
    wsR rows ((fdT rows sz n).getD n []) ((wsT rows sz n).getD n []) j (fdT rows sz n) (wsT rows sz n) = wds (trR (tbT rows sz N) n j (trT (tbT rows sz N) rows.length n))
  | 0, _ => ih
  | j + 1, hj => by
    have e := wsRow hn ih j (by omega)
    have el := d.rowLen hn (d.lens n (by omega)) j (by omega)
    have hne : trT (tbT rows sz N) rows.length n ≠ [] := fun z => by
      have := d.lens n (by omega)
      rw [z] at this
      have h2 := fdT_pos (rows := rows) (sz := sz) n
      simp at this
      rw [this] at h2
      simp at h2
    obtain ⟨s1, s2⟩ := d.step hn (j := j) hj
    unfold wsR trR
    by_cases h : mul ((fdT rows sz n).getD n []) (rows.getD j []) ∈ fdR rows ((fdT rows sz n).getD n []) j (fdT rows sz n)
    · have := s1 h
      rw [if_pos h, if_neg (by omega), e]
    · have := s2 h
      rw [if_neg h, if_pos (by omega)]
      unfold wds
      rw [along_snoc (d.trR_ne hne)]
      unfold wds at e
      rw [← e]
      obtain ⟨b, hb⟩ := d.wsR_pre ((fdT rows sz n).getD n []) ((wsT rows sz n).getD n []) (fdT rows sz n) (wsT rows sz n) j
      have hl : n < (wsT rows sz n).length := by
        rw [ih]
        unfold wds
        rw [along_len hne, ← d.lens n (by omega)]
        exact d.go n hn
      rw [hb]
      dsimp only
      rw [getD_left hl]
theorem words : ∀ n, n ≤ N → wsT rows sz n = wds (trT (tbT rows sz N) rows.length n)
  | 0, _ => rfl
  | n + 1, h => d.wsRow (by omega) (words n (by omega)) rows.length (Nat.le_refl _)
/-- what a word does -/
def act (rows : Tab) (sz : Nat) (w : List Nat) : List Nat := w.foldl (fun f c => mul f (rows.getD (c - 97) [])) (List.range sz)
theorem act_snoc (w : List Nat) (c : Nat) : act rows sz (w ++ [c]) = mul (act rows sz w) (rows.getD (c - 97) []) := by
  unfold act; rw [List.foldl_append]; rfl
theorem act_map : ∀ w, Lt rows.length w → IsMap sz (act rows sz w) := by
  refine rev_ind (fun _ => one_map sz) fun w c ih h => ?_
  rw [d.act_snoc]
  have hc := h c (by simp)
  exact mul_map (ih fun x hx => h x (by simp [hx])) (d.maps _ (getD_mem (by omega)))
theorem F_run : ∀ w, Lt rows.length w → (fdT rows sz N).getD (run (tbT rows sz N) 0 w) [] = act rows sz w := by
  refine rev_ind (fun _ => ?_) fun w c ih h => ?_
  · have hp := d.good.pos
    show (fdT rows sz N).getD 0 [] = List.range sz
    rw [← d.Fn hp]; rfl
  · have hc := h c (by simp)
    have hw : Lt rows.length w := fun x hx => h x (by simp [hx])
    rw [run_snoc, d.F_cell (d.good.run_lt w hw) (by omega), ih hw, d.act_snoc]
theorem act_cons {a : Nat} (ha : a < rows.length) : ∀ w, Lt rows.length w → act rows sz ((97 + a) :: w) = mul (rows.getD a []) (act rows sz w) := by
  have hm := d.maps _ (getD_mem ha)
  refine rev_ind (fun _ => ?_) fun w c ih h => ?_
  · show mul (List.range sz) (rows.getD (97 + a - 97) []) = mul (rows.getD a []) (List.range sz)
    rw [show 97 + a - 97 = a by omega, one_mul hm]
    refine list_ext0 (by unfold mul; simp) fun i hi => ?_
    unfold mul
    rw [getD_map (d := 0) hi]
    have : (rows.getD a []).getD i 0 < sz := getD_lt hm (by rw [← hm.1]; exact hi)
    generalize (rows.getD a []).getD i 0 = x at this
    rw [List.getD_eq_getElem?_getD, List.getElem?_range this]; rfl
  · have hw : Lt rows.length w := fun x hx => h x (by simp [hx])
    rw [← List.cons_append, d.act_snoc, ih hw, d.act_snoc, mul_assoc hm (d.act_map w hw)]
theorem F_inj {a b : Nat} (ha : a < N) (hb : b < N) (h : (fdT rows sz N).getD a [] = (fdT rows sz N).getD b []) : a = b := by
  have ha' : a < (fdT rows sz N).length := by rw [d.stop]; exact ha
  have hb' : b < (fdT rows sz N).length := by rw [d.stop]; exact hb
  rw [List.getD_eq_getElem?_getD, List.getD_eq_getElem?_getD, List.getElem?_eq_getElem ha', List.getElem?_eq_getElem hb'] at h
  exact (List.getElem_inj (fdT_nodup N)).mp h
theorem prod : Prod (tbT rows sz N) rows.length N := by
  have g := d.good
  refine g.prod_of fun a n l ha hn hl => ?_
  have hv := d.cell_lt hn hl
  have l1 : ∀ k, k < N → Lt rows.length ((97 + a) :: W (tbT rows sz N) rows.length N k) := fun k hk c hc => by
    rcases List.mem_cons.mp hc with hc | hc
    · omega
    · exact g.ltW k hk c hc
  have r1 := g.run_lt _ (l1 n hn)
  refine d.F_inj (g.run_lt _ (l1 _ hv)) (d.cell_lt r1 hl) ?_
  rw [d.F_run _ (l1 _ hv), d.act_cons ha _ (g.ltW _ hv), ← d.F_run _ (g.ltW _ hv), g.runW _ hv, d.F_cell hn hl, d.F_cell r1 hl, d.F_run _ (l1 n hn), d.act_cons ha _ (g.ltW n hn), ← d.F_run _ (g.ltW n hn), g.runW n hn,
    mul_assoc (d.maps _ (getD_mem ha)) (d.Fm hn)]
theorem run_idx {w : List Nat} (hw : Lt rows.length w) : (fdT rows sz N).idxOf (act rows sz w) = run (tbT rows sz N) 0 w := by
  have hr := d.good.run_lt w hw
  have hm : act rows sz w ∈ fdT rows sz N := by
    rw [← d.F_run w hw]; exact getD_mem (by rw [d.stop]; exact hr)
  have h2 := List.idxOf_lt_length_iff.mpr hm
  rw [d.stop] at h2
  refine d.F_inj h2 hr ?_
  rw [getD_idx hm, d.F_run w hw]
end Done
end
end Mon
namespace Mon
theorem sorted_ext {α : Type} {R : α → α → Prop} (irr : ∀ a, ¬ R a a) (tr : ∀ {a b c}, R a b → R b c → R a c) : ∀ {l k : List α}, l.Pairwise R → k.Pairwise R → (∀ x, x ∈ l ↔ x ∈ k) → l = k
  | [], [], _, _, _ => rfl
  | [], b :: k, _, _, h => absurd ((h b).mpr List.mem_cons_self) (by simp)
  | a :: l, [], _, _, h => absurd ((h a).mp List.mem_cons_self) (by simp)
  | a :: l, b :: k, h1, h2, h => by
    rw [List.pairwise_cons] at h1 h2
    have hab : a = b := by
      rcases List.mem_cons.mp ((h a).mp List.mem_cons_self) with e | e
      · exact e
      · rcases List.mem_cons.mp ((h b).mpr List.mem_cons_self) with e2 | e2
        · exact e2.symm
        · exact absurd (tr (h1.1 b e2) (h2.1 a e)) (irr a)
    subst hab
    rw [sorted_ext irr tr h1.2 h2.2 fun x => ?_]
    constructor
    · intro hx
      rcases List.mem_cons.mp ((h x).mp (List.mem_cons_of_mem _ hx)) with e | e
      · subst e; exact absurd (h1.1 x hx) (irr x)
      · exact e
    · intro hx
      rcases List.mem_cons.mp ((h x).mpr (List.mem_cons_of_mem _ hx)) with e | e
      · subst e; exact absurd (h2.1 x hx) (irr x)
      · exact e
/-- all words of t letters, in order -/
def wl (m : Nat) : Nat → List (List Nat)
  | 0 => [[]]
  | t + 1 => (wl m t).flatMap fun w => (List.range m).map fun l => w ++ [97 + l]
theorem mem_wl {m : Nat} : ∀ (t : Nat) (w : List Nat), w ∈ wl m t ↔ Lt m w ∧ w.length = t
  | 0, w => by
    show w ∈ [[]] ↔ _
    rw [List.mem_singleton]
    constructor
    · intro h; subst h; exact ⟨(fun c hc => by cases hc), rfl⟩
    · intro h; exact List.length_eq_zero_iff.mp h.2
  | t + 1, w => by
    unfold wl
    rw [List.mem_flatMap]
    constructor
    · rintro ⟨u, hu, hw⟩
      obtain ⟨l, hl, rfl⟩ := List.mem_map.mp hw
      obtain ⟨h1, h2⟩ := (mem_wl t u).mp hu
      refine ⟨fun c hc => ?_, by simp [h2]⟩
      rcases List.mem_append.mp hc with hc | hc
      · exact h1 c hc
      · rw [List.mem_singleton.mp hc]
        have := List.mem_range.mp hl
        omega
    · rintro ⟨h1, h2⟩
      rcases List.eq_nil_or_concat w with rfl | ⟨u, c, rfl⟩
      · cases h2
      · rw [List.concat_eq_append] at *
        have hc := h1 c (by simp)
        refine ⟨u, (mem_wl t u).mpr ⟨fun d hd => h1 d (by simp [hd]), by simpa using h2⟩, List.mem_map.mpr ⟨c - 97, List.mem_range.mpr (by omega), ?_⟩⟩
        rw [show 97 + (c - 97) = c by omega]
theorem wl_sorted {m : Nat} : ∀ t, (wl m t).Pairwise slt
  | 0 => List.pairwise_singleton _ _
  | t + 1 => by
    unfold wl
    rw [List.pairwise_flatMap]
    refine ⟨fun u hu => ?_, (wl_sorted t).imp fun {a b} hab x hx y hy => ?_⟩
    · rw [List.pairwise_map]
      exact List.pairwise_lt_range.imp fun h => slt_last _ (by omega)
    · obtain ⟨l, _, rfl⟩ := List.mem_map.mp hx
      obtain ⟨l', _, rfl⟩ := List.mem_map.mp hy
      exact slt_app _ _ hab
/-- the parts of a word that are shorter than it -/
def parts (w : List Nat) : List (List Nat) := (List.range w.length).flatMap fun b => ((List.range (w.length + 1 - b)).filter fun i => decide (i < w.length)).map fun i => (w.drop b).take i
theorem mem_parts {w x : List Nat} : x ∈ parts w ↔ ∃ b i, b < w.length ∧ b + i ≤ w.length ∧ i < w.length ∧ x = (w.drop b).take i := by
  unfold parts
  rw [List.mem_flatMap]
  constructor
  · rintro ⟨b, hb, h⟩
    obtain ⟨i, hi, rfl⟩ := List.mem_map.mp h
    have h1 := List.mem_range.mp hb
    have h2 := List.mem_filter.mp hi
    have h3 := List.mem_range.mp h2.1
    exact ⟨b, i, h1, by omega, of_decide_eq_true h2.2, rfl⟩
  · rintro ⟨b, i, h1, h2, h3, rfl⟩
    exact ⟨b, List.mem_range.mpr h1, List.mem_map.mpr ⟨i, List.mem_filter.mpr ⟨List.mem_range.mpr (by omega), decide_eq_true h3⟩, rfl⟩⟩
section
variable {T : Tab} {m N : Nat}
theorem Good.mem_wds (g : Good T m N) {w : List Nat} : w ∈ wds (tree T m N) ↔ Known T m N w := by
  rw [List.mem_iff_getElem?]
  constructor
  · rintro ⟨k, hk⟩
    have h1 : k < N := by
      rw [← g.wlen]
      exact (List.getElem?_eq_some_iff.mp hk).1
    exact ⟨k, h1, by unfold W; rw [List.getD_eq_getElem?_getD, hk]; rfl⟩
  · rintro ⟨k, hk, e⟩
    have h1 : k < (wds (tree T m N)).length := by rw [g.wlen]; exact hk
    refine ⟨k, ?_⟩
    unfold W at e
    rw [List.getD_eq_getElem?_getD, List.getElem?_eq_getElem h1] at e
    rw [List.getElem?_eq_getElem h1]
    exact congrArg some e
theorem Good.known_nil (g : Good T m N) : Known T m N [] := ⟨0, g.pos, g.W0⟩
theorem Good.known_lt (g : Good T m N) {w : List Nat} (h : Known T m N w) : Lt m w := by
  obtain ⟨k, hk, rfl⟩ := h
  exact g.ltW k hk
theorem Good.known_tl (g : Good T m N) (p : Prod T m N) {c : Nat} {w : List Nat} (h : Known T m N (c :: w)) : Known T m N w := by
  have hl := g.known_lt h
  obtain ⟨k, hk, e⟩ := h
  have := g.tail p hk e
  exact ⟨_, g.run_lt w fun d hd => hl d (List.mem_cons_of_mem _ hd), this⟩
theorem Good.known_drop (g : Good T m N) (p : Prod T m N) : ∀ (b : Nat) (w : List Nat), Known T m N w → Known T m N (w.drop b)
  | 0, w, h => by rw [List.drop_zero]; exact h
  | b + 1, [], h => by rw [List.drop_nil]; exact h
  | b + 1, c :: w, h => by rw [List.drop_succ_cons]; exact g.known_drop p b w (g.known_tl p h)
theorem Good.known_init (g : Good T m N) {c : Nat} {w : List Nat} (h : Known T m N (w ++ [c])) : Known T m N w := by
  obtain ⟨k, hk, e⟩ := h
  by_cases h0 : k = 0
  · subst h0; rw [g.W0] at e; exact absurd e.symm (by simp)
  · rw [g.Wk (by omega) hk] at e
    have := (List.append_inj_left' e rfl)
    exact ⟨_, (g.fst (by omega) hk).2.2.2, this⟩
theorem Good.known_pre (g : Good T m N) (u : List Nat) : ∀ v, Known T m N (u ++ v) → Known T m N u := by
  refine rev_ind (fun h => by rwa [List.append_nil] at h) fun v c ih h => ?_
  rw [← List.append_assoc] at h
  exact ih (g.known_init h)
theorem Good.known_take (g : Good T m N) {w : List Nat} (i : Nat) (h : Known T m N w) : Known T m N (w.take i) :=
  g.known_pre _ (w.drop i) (by rw [List.take_append_drop]; exact h)
/-- what the listing by words asks of a word -/
def PP (T : Tab) (m N : Nat) (w : List Nat) : Prop := W T m N (run T 0 w) ≠ w ∧ ∀ x ∈ parts w, x ∈ wds (tree T m N)
instance : Decidable (PP T m N w) := inferInstanceAs (Decidable (_ ∧ _))
theorem Good.pp_of_rule (g : Good T m N) (p : Prod T m N) {n l : Nat} (hn : n < N) (hl : l < m) (h : rule T m N n l = true) : PP T m N (W T m N n ++ [97 + l]) := by
  obtain ⟨h1, h2⟩ := (g.rule_iff p hn hl).mp h
  refine ⟨fun e => h1 ((g.known_iff (g.Lt_snoc hn hl)).mpr e), fun x hx => g.mem_wds.mpr ?_⟩
  obtain ⟨b, i, hb, hbi, hi, rfl⟩ := mem_parts.mp hx
  cases b with
  | zero =>
    rw [List.drop_zero]
    simp at hi
    rw [List.take_append_of_le_length (by omega)]
    exact g.known_take _ ⟨n, hn, rfl⟩
  | succ b =>
    have e : (W T m N n ++ [97 + l]).drop (b + 1) = (W T m N n ++ [97 + l]).tail.drop b := by rw [← List.drop_one, List.drop_drop, Nat.add_comm]
    rw [e]
    exact g.known_take _ (g.known_drop p _ _ h2)
theorem Good.rule_of_pp (g : Good T m N) (p : Prod T m N) {w : List Nat} (hw : Lt m w) (h0 : w ≠ []) (h : PP T m N w) : ∃ n l, n < N ∧ l < m ∧ rule T m N n l = true ∧ w = W T m N n ++ [97 + l] := by
  obtain ⟨h1, h2⟩ := h
  rcases List.eq_nil_or_concat w with rfl | ⟨u, c, rfl⟩
  · exact absurd rfl h0
  · rw [List.concat_eq_append] at *
    have hc := hw c (by simp)
    have hu : Known T m N u := g.mem_wds.mp (h2 u (mem_parts.mpr ⟨0, u.length, by simp, by simp, by simp, by simp⟩))
    obtain ⟨n, hn, rfl⟩ := hu
    have ec : 97 + (c - 97) = c := by omega
    refine ⟨n, c - 97, hn, by omega, (g.rule_iff p hn (by omega)).mpr ?_, by rw [ec]⟩
    rw [ec]
    refine ⟨fun k => h1 ((g.known_iff hw).mp k), ?_⟩
    by_cases hl : (W T m N n ++ [c]).length = 1
    · have e : (W T m N n ++ [c]).tail = [] := by
        have : W T m N n = [] := List.length_eq_zero_iff.mp (by simpa using hl)
        rw [this]; rfl
      rw [e]; exact g.known_nil
    · refine g.mem_wds.mp (h2 _ (mem_parts.mpr ⟨1, (W T m N n ++ [c]).length - 1, ?_, ?_, ?_, ?_⟩))
      · have : 0 < (W T m N n ++ [c]).length := by simp
        omega
      · have : 0 < (W T m N n ++ [c]).length := by simp
        omega
      · have : 0 < (W T m N n ++ [c]).length := by simp
        omega
      · rw [List.drop_one, List.take_of_length_le (by rw [List.length_tail]; exact Nat.le_refl _)]
/-- the rules found by going through all words -/
def byW (T : Tab) (m N most : Nat) : List (List Nat × List Nat) := (List.range most).flatMap fun t => ((wl m (t + 1)).filter fun w => decide (PP T m N w)).map fun w => (w, W T m N (run T 0 w))
theorem Good.byW_eq (g : Good T m N) (p : Prod T m N) (most : Nat) : (rules T m N).filter (fun x => decide (x.1.length ≤ most)) = byW T m N most := by
  refine sorted_ext (R := fun a b => slt a.1 b.1) (fun a => slt_irr a.1) (fun {a b c} h h' => slt_trans (u := a.1) (v := b.1) (w := c.1) h h') (g.rules_sorted.filter _) ?_ fun x => ?_
  · unfold byW
    rw [List.pairwise_flatMap]
    refine ⟨fun t _ => ?_, List.pairwise_lt_range.imp fun {a b} hab x hx y hy => ?_⟩
    · rw [List.pairwise_map]
      exact (wl_sorted _).filter _
    · obtain ⟨u, hu, rfl⟩ := List.mem_map.mp hx
      obtain ⟨v, hv, rfl⟩ := List.mem_map.mp hy
      have h1 := ((mem_wl _ u).mp (List.mem_filter.mp hu).1).2
      have h2 := ((mem_wl _ v).mp (List.mem_filter.mp hv).1).2
      exact .inl (by dsimp only; omega)
  · unfold byW rules
    rw [List.mem_filter, List.mem_flatMap, List.mem_flatMap]
    constructor
    · rintro ⟨⟨n, hn, hx⟩, hlen⟩
      obtain ⟨l, hl, rfl⟩ := List.mem_map.mp hx
      have hn := List.mem_range.mp hn
      obtain ⟨hl, hr⟩ := List.mem_filter.mp hl
      have hl := List.mem_range.mp hl
      have hlen := of_decide_eq_true hlen
      dsimp only at hlen
      have hpos : 0 < (W T m N n ++ [97 + l]).length := by simp
      refine ⟨(W T m N n ++ [97 + l]).length - 1, List.mem_range.mpr (by omega), List.mem_map.mpr ⟨W T m N n ++ [97 + l], List.mem_filter.mpr ⟨(mem_wl _ _).mpr ⟨g.Lt_snoc hn hl, by omega⟩, decide_eq_true (g.pp_of_rule p hn hl hr)⟩, ?_⟩⟩
      rw [g.run_longer hn]
    · rintro ⟨t, ht, hx⟩
      obtain ⟨w, hw, rfl⟩ := List.mem_map.mp hx
      obtain ⟨hw, hp⟩ := List.mem_filter.mp hw
      obtain ⟨hw, hlen⟩ := (mem_wl _ _).mp hw
      have ht := List.mem_range.mp ht
      have h0 : w ≠ [] := fun e => by subst e; cases hlen
      obtain ⟨n, l, hn, hl, hr, rfl⟩ := g.rule_of_pp p hw h0 (of_decide_eq_true hp)
      refine ⟨⟨n, List.mem_range.mpr hn, List.mem_map.mpr ⟨l, List.mem_filter.mpr ⟨List.mem_range.mpr hl, hr⟩, by rw [g.run_longer hn]⟩⟩, decide_eq_true ?_⟩
      dsimp only
      omega
/-- the law's own listing of rules -/
def due (T : Tab) (m N : Nat) (ws : List (List Nat)) : List (List Nat × List Nat) := (List.range N).flatMap fun n => ((List.range m).filter fun l => decide (ws.getD n [] ++ [97 + l] ∉ ws ∧ (ws.getD n [] ++ [97 + l]).tail ∈ ws)).map fun l => (ws.getD n [] ++ [97 + l], ws.getD (at2 T n l) [])
theorem flatMap_congr' {α β : Type} {f h : α → List β} : ∀ l : List α, (∀ a ∈ l, f a = h a) → l.flatMap f = l.flatMap h
  | [], _ => rfl
  | a :: l, e => by rw [List.flatMap_cons, List.flatMap_cons, e a List.mem_cons_self, flatMap_congr' l fun b hb => e b (List.mem_cons_of_mem _ hb)]
theorem Good.due_eq (g : Good T m N) (p : Prod T m N) : due T m N (wds (tree T m N)) = rules T m N := by
  unfold due rules
  refine flatMap_congr' _ fun n hn => ?_
  have hn := List.mem_range.mp hn
  have e : (List.range m).filter (fun l => decide ((wds (tree T m N)).getD n [] ++ [97 + l] ∉ wds (tree T m N) ∧ ((wds (tree T m N)).getD n [] ++ [97 + l]).tail ∈ wds (tree T m N))) = (List.range m).filter (rule T m N n) := by
    refine List.filter_congr fun l hl => ?_
    have hl := List.mem_range.mp hl
    have h := g.rule_iff p hn hl
    cases hr : rule T m N n l with
    | true => exact decide_eq_true ⟨fun z => (h.mp hr).1 (g.mem_wds.mp z), g.mem_wds.mpr (h.mp hr).2⟩
    | false => exact decide_eq_false fun z => by rw [h.mpr ⟨fun k => z.1 (g.mem_wds.mpr k), g.mem_wds.mp z.2⟩] at hr; cases hr
  rw [e]
  rfl
end
theorem Good.W_len {T : Tab} {m N : Nat} (g : Good T m N) : ∀ k, k < N → (W T m N k).length ≤ k := fun k => by
  induction k using Nat.strongRecOn with
  | _ k ih =>
    intro h
    by_cases h0 : k = 0
    · subst h0; rw [g.W0]; exact Nat.le_refl _
    · have f := g.fst (by omega) h
      rw [g.Wk (by omega) h, List.length_append]
      have := ih _ f.1 f.2.2.2
      show _ + 1 ≤ k
      omega
theorem Good.Lf_lt {T : Tab} {m N : Nat} (g : Good T m N) {k : Nat} (hk : k < N) : ∀ x ∈ Lf T m N k, x < N := fun x hx => by
  obtain ⟨a, ha⟩ := List.mem_iff_getElem?.mp hx
  have h1 : a < (Lf T m N k).length := (List.getElem?_eq_some_iff.mp ha).1
  rw [g.Lf_len k hk] at h1
  have e := g.Lf_run k hk a h1
  rw [List.getD_eq_getElem?_getD, ha] at e
  have e2 : x = run T 0 ((97 + a) :: W T m N k) := e
  rw [e2]
  refine g.run_lt _ fun c hc => ?_
  rcases List.mem_cons.mp hc with hc | hc
  · omega
  · exact g.ltW k hk c hc
/-! ### tables that are written -/
instance : Decidable (Ord T m N) := inferInstanceAs (Decidable (∀ n, n < N → _ ∧ ∀ j, j < m → _))
instance : Decidable (Prod T m N) := decidable_of_iff (∀ n, n < N → ∀ l, l < m → Lf T m N (at2 T n l) = (Lf T m N n).map fun k => at2 T k l) ⟨fun h n l hn hl => h n hn l hl, fun h n hn l hl => h n l hn hl⟩
def okT (T : Tab) (m N : Nat) : Bool := decide (0 < N) && decide (Ord T m N) && decide (∀ n, n < N → ∀ l, l < m → at2 T n l < N) && decide (∀ n, n < N → (T.getD n []).length = m) && decide (Prod T m N)
theorem ok_good {T : Tab} {m N : Nat} (h : okT T m N = true) : Good T m N ∧ Prod T m N := by
  unfold okT at h
  simp only [Bool.and_eq_true, decide_eq_true_eq] at h
  obtain ⟨⟨⟨⟨h1, h2⟩, h3⟩, h4⟩, h5⟩ := h
  exact ⟨⟨h1, h2, fun n l hn hl => h3 n hn l hl, h4⟩, h5⟩
theorem ok1 : okT [[0, 0, 0, 0, 0, 0]] 6 1 = true := by decide +kernel
theorem ok2 : okT [[1, 1], [1, 1]] 2 2 = true := by decide +kernel
def ring : Tab := (List.range 39).map (fun n => [n + 1]) ++ [[7]]
theorem ok3 : okT ring 1 40 = true := by decide +kernel
theorem r1 : rules [[0, 0, 0, 0, 0, 0]] 6 1 = [([97], []), ([98], []), ([99], []), ([100], []), ([101], []), ([102], [])] := by decide +kernel
theorem r2 : rules [[1, 1], [1, 1]] 2 2 = [([98], [97]), ([97, 97], [97])] := by decide +kernel
theorem r3 : rules ring 1 40 = [(List.replicate 40 97, List.replicate 7 97)] := by decide +kernel
end Mon
/-! sorted(xs, key=lambda pair: (len(pair[0]), pair[0])) of pairs of texts that stand in that order already. -/
namespace My
open PySem PySem.Spec L2 SX LamX
open PyProof.Rows hiding St
section
variable {prog : Program} {w : World} {A : Around} {s : Shared} {env : Env} {mg mb m : Str → Option Value} {T : Addr} {z y : Str} {t t2 : Tok}
/-- pair[0] -/
theorem key_part {ck : Nat} {q2 q3 q4 : Pos} {Q : Value → Shared → Prop} {E : Value → Shared → Prop} (hk : env.scope.kind = .function) (hl : env.kindOf "pair" = some .local) (hn : s.heap.Ns env.locals m) (hm : m "pair" = some (.ref T))
    (hT : s.heap.IsTuple T #[.str z t, .str y t2]) (h : ∀ tk, Q (.str z t) { s with toks := tk }) :
    wpAny (model prog w) A (eval (.Subscript (.Name "pair" q2) (.Constant (.int 0) ck q3) q4) env) Q E s := by
  refine Subscript_ (wpAny_Name (wpAny_loadName_local hk hl hn hm (wpAny_Constant_int ?_)) (by decide))
  have hT2 : (({ s with toks := s.toks + 1 } : Shared)).heap.IsTuple T #[.str z t, .str y t2] := hT
  refine subscriptTail_builtinR (x := .str z t) hT2.typeIs slot_tuple_getitem.lookup (getItem_tuple (j := 0) (Q := fun r s' => r = .str z t ∧ Q r s') hT2 (by decide) (by decide) (by rfl) rfl ⟨rfl, h _⟩) (by rfl)
/-- the key's expression -/
def keyE (c1 c2 c3 : Nat) (q1 q2 q3 q4 q5 q6 q7 q8 q9 : Pos) : Expr := .Tuple [.Call (.Name "len" q1) [.Subscript (.Name "pair" q2) (.Constant (.int 0) c1 q3) q4] [] q5, .Subscript (.Name "pair" q6) (.Constant (.int 0) c2 q7) q8] c3 q9
theorem key_body {c1 c2 c3 : Nat} {q1 q2 q3 q4 q5 q6 q7 q8 q9 : Pos} {E : Value → Shared → Prop} (hk : env.scope.kind = .function) (hl : env.kindOf "pair" = some .local) (hn : s.heap.Ns env.locals m) (hm : m "pair" = some (.ref T))
    (hg : env.kindOf "len" = some .globalImplicit) (hG : s.heap.Ns env.globals mg) (hG0 : mg "len" = none) (hB : s.heap.Ns env.builtins mb) (hB0 : mb "len" = some (.builtin "len")) (hz : z.length ≤ 100000)
    (hT : s.heap.IsTuple T #[.str z t, .str y t2]) :
    wpAny (model prog w) A (eval (keyE c1 c2 c3 q1 q2 q3 q4 q5 q6 q7 q8 q9) env) (PySem.W.KeyPure (.tuple [.int z.length, .str z]) s) E s := by
  unfold keyE
  refine wpAny_Tuple_spliced ?_
  show wpAny _ _ (spliced ((false, eval _ env) :: (false, eval _ env) :: [])) _ _ s
  refine Calls.spliced_cons (wpAny_Call_Name_kw (Calls.Name_function_global hk hg (Calls.loadGlobal_builtin hG hG0 hB hB0 ?_) (by decide)))
  refine PyProof.Rows.callWith_builtin1 (Calls.spliced_cons (key_part hk hl hn hm hT fun tk => Calls.spliced_nil ?_)) (by rfl) (by rfl)
  refine len_str (by omega) ?_
  refine Calls.spliced_cons (key_part (s := { s with toks := tk + 1 + 1 }) hk hl hn hm hT fun tk2 => Calls.spliced_nil ⟨(by show 2 ≤ sizeLine; decide), ?_⟩)
  refine ⟨_, _, rfl, fun b o e => Heap.get?_push_of_some _ e, ?_⟩
  refine Reads.tuple (Heap.get?_push_size _ rfl) rfl rfl ?_
  exact (ReadsAll.cons (.int _ _) (ReadsAll.cons (.str _ _) .nil) : ReadsAll _ _ _ ([] ++ ([] ++ [])))
/-- the lambda called with a pair -/
theorem key_call {c1 c2 c3 : Nat} {q1 q2 q3 q4 q5 q6 q7 q8 q9 : Pos} {f c' : Addr} {q : Str} {params : Arguments} {scope : Scope} {pm ctv : Value} {P : Program} {w : World} (hA : A.depth < recursionLimit)
    (of1 : s.heap.get? f = some (PySem.W.kla_obj "<lambda>" q params (keyE c1 c2 c3 q1 q2 q3 q4 q5 q6 q7 q8 q9) scope [] pm c' ctv)) (S : FnScope ["pair"] ["pair"] scope) (hloc : scope.names.lookup ("pair" : Str) = some NameKind.local) (hlen : scope.names.lookup ("len" : Str) = some NameKind.globalImplicit)
    (hrec : s.heap.CodeRec (.ref c') q) (hbind : bindArgs (PySem.W.kla_fn "<lambda>" q params (keyE c1 c2 c3 q1 q2 q3 q4 q5 q6 q7 q8 q9) scope [] pm (.ref c') ctv) ⟨[.ref T], []⟩ = pure [(("pair" : Str), Value.ref T)])
    (lim : s.heap.NoLimit) (hG : s.heap.Ns mainGlobals mg) (hG0 : mg "len" = none) (hB : s.heap.Ns builtinsNs mb) (hB0 : mb "len" = some (.builtin "len")) (hz : z.length ≤ 100000) (hT : s.heap.IsTuple T #[.str z t, .str y t2]) :
    wpAny (model P w) A (call (.ref f) [.ref T]) (PySem.W.KeyPure (.tuple [.int z.length, .str z]) s) (fun _ _ => False) s := by
  refine wpAny_call (PySem.W.kla_callFunE hA of1 rfl S.co S.gen rfl hrec ?_)
  rw [hbind]
  refine wpAny_pure (wpAny_newFunctionEnv_cells S.kind (fun y hy => ?_) fun env he s1 x => ?_)
  · obtain rfl : y = (("pair" : Str), Value.ref T) := List.mem_singleton.mp hy
    exact .inl hloc
  · subst he
    obtain ⟨h1, tk, rfl, hk⟩ := id x.done
    refine ⟨lim.keeps hk, PySem.W.kla_codeExpr ?_⟩
    refine wpAny_mono (key_body (T := T) (z := z) (y := y) (t := t) (t2 := t2) (mg := mg) (mb := mb) (m := bindL (fun y => scope.names.lookup y) [(("pair" : Str), Value.ref T)] fun _ => none) S.kind hloc x.toInCall.ns ?_ hlen (hG.keeps hk) hG0 (hB.keeps hk) hB0 hz (let ⟨o, e, r⟩ := hT; ⟨o, hk _ _ e, r⟩)) (fun v s' hq => ?_) (fun _ _ z => z)
    · simp [bindL, hloc]
    · obtain ⟨h2, tk2, rfl, hk2, r⟩ := hq
      exact ⟨h2, tk2, rfl, fun b o e => hk2 b o (hk b o e), r⟩
end
/-! ### the order -/
def keyD (b : List Nat × List Nat) : PyData := .tuple [.int ((b.1.length : Nat) : Int), .str (S b.1)]
instance (u v : List Nat) : Decidable (Mon.slt u v) := inferInstanceAs (Decidable (_ ∨ _))
theorem key_lt (x y : List Nat × List Nat) : PySem.W.dataLt (keyD x) (keyD y) = decide (Mon.slt x.1 y.1) := by
  unfold keyD
  rw [PySem.W.dataLt_pair (by simp [PySem.W.alike]) (by simp [PySem.W.alike]), PySem.W.dataLt_int, PySem.W.dataLt_str, eqStr]
  have e1 : PyData.eqv (.int ((x.1.length : Nat) : Int)) (.int ((y.1.length : Nat) : Int)) = decide (x.1.length = y.1.length) := by
    simp only [PyData.eqv]
    by_cases h : x.1.length = y.1.length
    · simp [h]
    · have h2 : ¬ ((x.1.length : Int) = (y.1.length : Int)) := by omega
      simp [h, h2]
  rw [e1]
  unfold Mon.slt
  by_cases h : x.1.length = y.1.length
  · have h0 : ¬ x.1.length < y.1.length := by omega
    by_cases h2 : x.1 = y.1
    · simp [h, h2, List.lt_irrefl]
    · simp [h, h2]
  · simp [h]
theorem key_sorted {bs : List (List Nat × List Nat)} {xs : List V} (hl : xs.length = bs.length) (h : bs.Pairwise fun a b => Mon.slt a.1 b.1) : (xs.zip bs).mergeSort (PySem.W.dataLe false fun p : V × (List Nat × List Nat) => keyD p.2) = xs.zip bs := by
  refine List.mergeSort_of_pairwise ?_
  have h2 : ((xs.zip bs).map Prod.snd).Pairwise fun a b => Mon.slt a.1 b.1 := by rw [List.map_snd_zip (by omega)]; exact h
  rw [List.pairwise_map] at h2
  refine h2.imp fun {a b} hab => ?_
  show (!PySem.W.dataLt (keyD b.2) (keyD a.2)) = true
  rw [key_lt, Bool.not_eq_true']
  exact decide_eq_false fun z => Mon.slt_irr _ (Mon.slt_trans hab z)
theorem each_of {bs : List (List Nat × List Nat)} : ∀ {xs : List V} {us : List Value} {bs : List (List Nat × List Nat)}, Vals xs us → xs.length = bs.length → PySem.W.EachIs (fun u (p : V × (List Nat × List Nat)) => RelV p.1 u) us (xs.zip bs)
  | [], _, [], r, _ => by cases r; exact .nil
  | [], _, _ :: _, _, h => by cases h
  | x :: xs, _, [], _, h => by cases h
  | x :: xs, _, b :: bs, r, h => by
    cases r with
    | cons r1 r2 => exact .cons r1 (each_of (bs := bs) r2 (by simpa using h))
theorem vals_of {bs : List (List Nat × List Nat)} : ∀ {xs : List V} {us : List Value} {bs : List (List Nat × List Nat)}, xs.length = bs.length → PySem.W.EachIs (fun u (p : V × (List Nat × List Nat)) => RelV p.1 u) us (xs.zip bs) → Vals xs us
  | [], us, bs, _, e => by
    have h : us.length = 0 := by rw [e.length]; simp
    rw [List.length_eq_zero_iff.mp h]
    exact .nil
  | x :: xs, us, [], h, _ => by cases h
  | x :: xs, us, b :: bs, h, e => by
    rw [List.zip_cons_cons] at e
    cases e with
    | cons e1 e2 => exact .cons e1 (vals_of (bs := bs) (by simpa using h) e2)
/-- the items of xs are pairs of texts -/
def Pairs (K : PySem.W.Frag) (H : Hp) (xs : List V) (bs : List (List Nat × List Nat)) : Prop := xs.length = bs.length ∧ ∀ (i : Nat) (b : List Nat × List Nat), bs[i]? = some b → ∃ T, xs[i]? = some (.ref T) ∧ SqT K H T [.str (S b.1), .str (S b.2)]
theorem SqL.extN {K : PySem.W.Frag} {H H' : Hp} {a : Addr} {xs : List V} (h : SqL K H a xs) (e : ExtN H H') : SqL K H' a xs := by
  rcases h with (h | ⟨o, h⟩) | h
  · exact .inl (.inl (e _ _ h fun ps z => by cases z))
  · exact .inl (.inr ⟨o, e _ _ h fun ps z => by cases z⟩)
  · exact .inr h
theorem SqT.extN {K : PySem.W.Frag} {H H' : Hp} {a : Addr} {xs : List V} (h : SqT K H a xs) (e : ExtN H H') : SqT K H' a xs := by
  rcases h with (h | ⟨o, h⟩) | h
  · exact .inl (.inl (e _ _ h fun ps z => by cases z))
  · exact .inl (.inr ⟨o, e _ _ h fun ps z => by cases z⟩)
  · exact .inr h
theorem Pairs.extN {K : PySem.W.Frag} {H H' : Hp} {xs : List V} {bs : List (List Nat × List Nat)} (h : Pairs K H xs bs) (e : ExtN H H') : Pairs K H' xs bs := ⟨h.1, fun i b hb => let ⟨T, e1, e2⟩ := h.2 i b hb; ⟨T, e1, SqT.extN e2 e⟩⟩
def tSortLam (K : PySem.W.Frag) (TT : List (Addr × Str)) (t : TA) : TE := fun σ H Q => t σ H fun vs H1 => ∃ (a : Addr) (xs : List V) (bs : List (List Nat × List Nat)), vs = [.ref a] ∧ SqL K H1 a xs ∧ Pairs K H1 xs bs ∧ bs.length ≤ 100000 ∧ (∀ b ∈ bs, b.1.length ≤ 100000) ∧ (bs.Pairwise fun a b => Mon.slt a.1 b.1) ∧ Tabs TT H1 ∧
  ∀ p H2, ExtN H1 H2 → Tabs TT H2 → H2 p = none → Q (.ref p) (L2.upd H2 p (.lst xs))
section
variable {X : Cx}
theorem pe_sortLam {TT : List (Addr × Str)} {c P : Addr} {params : Arguments} {scope : Scope} {k : Nat} {e : Expr} {t : TA} {p pos lpos kpos : Pos} {c1 c2 c3 : Nat} {q1 q2 q3 q4 q5 q6 q7 q8 q9 : Pos}
    (TB : TabB X.base X.mg c P) (hcode : X.env.code = .ref c) (hmT : (P, X.env.qual ++ "<lambda>") ∈ TT) (hu : ∀ p ∈ TT, p.1 = P → p.2 = X.env.qual ++ "<lambda>") (hr : Room k X.A) (hg : Gl X "sorted") (hm : X.mg "sorted" = none) (hml : X.mg "len" = none)
    (S1 : FnScope ["pair"] ["pair"] scope) (hloc : scope.names.lookup ("pair" : Str) = some NameKind.local) (hlen : scope.names.lookup ("len" : Str) = some NameKind.globalImplicit) (hdef : defaultsOf params X.env = ([], [])) (hfree : ∀ y ∈ scope.names, y.2 ≠ .free) (hclo : cloFrom X.env.cells scope.names [] = [])
    (hbind : ∀ (q : Str) (pm cv ctv u : Value), bindArgs (PySem.W.kla_fn "<lambda>" q params (keyE c1 c2 c3 q1 q2 q3 q4 q5 q6 q7 q8 q9) scope [] pm cv ctv) ⟨[u], []⟩ = pure [(("pair" : Str), u)])
    (ha : PA X [e] t) (he : backTo pos (starEach [e] X.env) = (false, eval e X.env) :: backTo pos (starEach [] X.env) := by rfl) (hpl : (backTo pos (starEach [e] X.env)).any (·.1) = false := by rfl) :
    PE X (.Call (.Name "sorted" p) [e] [⟨some "key", .Lambda params (keyE c1 c2 c3 q1 q2 q3 q4 q5 q6 q7 q8 q9) scope lpos, kpos⟩] pos) (tSortLam X.K TT t) := by
  refine ⟨fun pins s σ H Q I h => ?_⟩
  refine wpAny_Call_Name_kw (ld_blt I hg hm boot_sorted ?_)
  refine PyProof.Rows.callWith_kw (thn (ha.run pos pins s σ H _ I h) fun us s1 ⟨vs, H1, I1, r1, q1⟩ => ?_) he hpl
  obtain ⟨a, xs, bs, rfl, hs, hp, hb, hbl, hso, hT, q⟩ := q1
  obtain rfl := Vals.ref1 r1
  show wpAny _ _ (evalAll ((do let v ← eval (.Lambda params (keyE c1 c2 c3 q1 q2 q3 q4 q5 q6 q7 q8 q9) scope lpos) X.env; standAt pos; pure v) :: [])) _ _ s1
  refine wpAny_evalAll_cons (wpAny_bind (lam_make2 I1 TB hcode hmT hu hT hdef (fun y hy e => absurd e (hfree y hy)) fun f c' pm' ctv H2 s2 I2 eN T2 hf hfn hfr hco => wpAny_bind (wpAny_standAt (wpAny_pure (wpAny_evalAll_nil ?_)))))
  show wpAny _ _ (call (.builtin "sorted") [.ref a] [(Str.ofString "key", .ref f)]) _ _ s2
  rw [hclo] at hf
  obtain ⟨its, rv, hl, hz⟩ := I2.list (SqL.extN hs eN)
  have hp2 := hp.extN eN
  obtain ⟨⟨oc, vs, t3, hoc, hdc, hvc⟩, _, _⟩ := I2.hok c' _ hco
  obtain ⟨mb, hb1, hb2⟩ := I2.mod.blt
  have hd := hr.depth
  have hun := hr.units
  have hzl : (xs.zip bs).length = xs.length := by rw [List.length_zip]; have := hp.1; omega
  refine PySem.W.sorted_key_data (β := V × (List Nat × List Nat)) (b := false) (fun p => keyD p.2) hl.isList (each_of (bs := bs) rv hp.1) (PySem.W.AllAlike.of fun _ _ => by simp [keyD, PySem.W.alike, PySem.W.alikeAll]) (PySem.W.Sortable.tuples fun _ => ⟨_, _, rfl⟩) (by rw [hzl]; exact hz)
    (fun x _ => ?_) (PyProof.Rows.ksk_s1 _ _) (fun _ => PyProof.Rows.ksk_l1 _ _) (fun _ => PyProof.Rows.ksk_t1 _ _) (fun v x hR hx h tk kp => ?_) fun out c4 h' tk kp hfr2 hD hlo eo => ?_
  · have e : (keyD x.2).depth = 1 := by simp [keyD, PyData.depth, PyData.depthAll]
    rw [e]; omega
  · obtain ⟨i, hi⟩ := List.mem_iff_getElem?.mp hx
    obtain ⟨xv, b⟩ := x
    rw [List.getElem?_zip_eq_some] at hi
    obtain ⟨T, e1, e2⟩ := hp2.2 i b hi.2
    have e3 : xv = .ref T := by rw [hi.1] at e1; exact Option.some.inj e1
    subst e3
    obtain rfl : v = Value.ref T := hR
    obtain ⟨it2, rv2, pl2, _⟩ := I2.tuple e2
    obtain ⟨u1, u2, rfl, ⟨t1, rfl⟩, ⟨t2, rfl⟩⟩ := vals2 rv2
    have hT2 : h.IsTuple T #[.str (S b.1) t1, .str (S b.2) t2] := let ⟨o, e, r⟩ := pl2; ⟨o, kp _ _ e, r⟩
    have hk := key_call (A := X.A.in1.in1) (P := X.prog) (w := X.w) (s := { s2 with heap := h, toks := tk }) (z := S b.1) (mg := X.mg) (mb := mb) (by exact hd) (kp _ _ hf) S1 hloc hlen ⟨c', oc, vs, t3, rfl, kp _ _ hoc, hdc, hvc⟩ (hbind _ _ _ _ _) (I2.nolimit.keeps kp)
      ((I2.mod.glob.keeps I2.bk).keeps kp) hml ((hb1.keeps I2.bk).keeps kp) ((hb2 "len" (by decide)).trans boot_len) (by rw [S_len]; exact hbl b (List.mem_of_getElem? hi.2)) hT2
    rw [S_len] at hk
    exact hk
  · rw [key_sorted hp.1 hso] at eo
    have rv3 := vals_of (bs := bs) hp.1 eo
    have new : s2.heap.objs.size ≤ s2.heap.objs.size + 1 := Nat.le_succ _
    exact ⟨.ref _, L2.upd H2 (s2.heap.objs.size + 1) (.lst xs), I2.laid (t' := tk) kp new ⟨hz, out, c4, rv3, hD⟩, rfl, q _ _ eN T2 (I2.hok.fresh new)⟩
end
end My
/-! A dict of one pair whose key is a tuple; readings for objects, dicts, tables. -/
namespace My
open PySem PySem.Spec L2 SX
open PyProof.Rows hiding St
def tDisp1T (tk tv : TE) : TE := fun σ H Q => ∀ p, H p = none → tk σ (upd H p (.dT [])) fun x H1 => tv σ H1 fun y H2 => H2 p = some (.dT []) ∧ ∃ (b : Addr) (ks : List Key), x = .ref b ∧ H2 b = some (.tup (ks.map kV)) ∧ Q (.ref p) (upd H2 p (.dT (putK [] ks y)))
section
variable {X : Cx} {k v : Expr} {tk tv : TE} {pos : Pos}
theorem pe_disp1T (hu : X.A.units + 1 < cLine) (hk : PE X k tk) (hv : PE X v tv) : PE X (.Dict [some k] [v] pos) (tDisp1T tk tv) := by
  refine ⟨fun pins s σ H Q I q => ?_⟩
  have hn := I.hok.fresh (Nat.le_refl s.heap.objs.size)
  have I1 := I.laid (a := s.heap.objs.size) (o := .dT []) (h' := s.heap.push { cls := .type "dict", data := .dict #[] }) (t' := s.toks) (fun _ _ e => Heap.get?_push_of_some _ e) (Nat.le_refl _) (dt_empty s.heap I.big)
  rw [arm_eval_Dict, zip_pairTrees [some k] [v] X.env pos rfl rfl, dictDisplay_pairs (pairTrees [some k] [v] X.env pos) (by intro z; cases z) (by show 1 < 17; decide)]
  refine wpAny_bind (wpAny_standAt (wpAny_bind ?_))
  unfold subDict
  refine wpAny_bind (wpAny_alloc ?_)
  refine wpAny_bind (wpAny_holding ?_)
  rw [if_pos (by show 1 ≤ 15; decide)]
  refine wpAny_bind (pairTrees_cons_walk (thn (hk.run pins _ σ _ _ I1 (q _ hn)) fun u s1 ⟨x, H1, I2, rx, q1⟩ => thn (hv.run pins s1 σ H1 _ I2 q1) fun w2 s2 ⟨y, H2, I3, ry, hd, b, ks, ex, eb, q2⟩ => pairTrees_nil_walk ?_))
  subst ex
  obtain rfl : u = Value.ref b := rx
  obtain ⟨z, hm, xs, rel, dd⟩ := dt_of I3.hok hd
  cases rel
  refine wpAny_holding ?_
  rw [List.forIn_cons]
  refine wpAny_bind (wpAny_bind (wpAny_bind (wpAny_dictSet_heap (hsz := Nat.zero_le _) (show X.A.units < cLine by omega) (key_of I3.hok eb) dd fun h' dd' hs => wpAny_pure ?_)))
  dsimp only
  rw [List.forIn_nil]
  refine wpAny_pure (wpAny_pure (wpAny_pure ?_))
  obtain ⟨o, es, ep, e1, e2, e3, e4, _, e5⟩ := dd'
  refine wpAny_pure ⟨.ref s.heap.objs.size, _, d_write I3 (by rw [hd]; exact True.intro) hs ⟨o, e1⟩ ?_, rfl, q2⟩
  refine ⟨by show 1 ≤ sizeLine; decide, hm, _, ?_, o, es, ep, e1, e2, e3, e4, e5⟩
  refine .cons ⟨rfl, ?_, ry⟩ .nil
  rw [upd_ne (ne_of eb hd (fun z => nomatch z))]
  exact eb
end

/-! ### readings -/
section
variable {σ : St} {H : Hp} {Q : VK} {D : Ends} {te ta tb : TE} {t : TA} {v x y : V} {K : PySem.W.Frag} {f m : Str} {C : Addr} {sp : Sp} {E : XK}
def qFld (K : PySem.W.Frag) (f : Str) (x : V) (H1 : Hp) (Q : VK) : Prop := ∃ a C dx fs v, x = .ref a ∧ H1 a = some (.ins C dx fs) ∧ Cls K C ∧ NoAttr K C f ∧ fs.lookup f = some v ∧ Q v H1
theorem rd_fld (h : te σ H fun x H1 => qFld K f x H1 Q) : tFld K te f σ H Q := h
theorem rd_qFld {a dx : Addr} {fs : List (Str × V)} (c : Cls K C) (h : H a = some (.ins C dx fs)) (n : NoAttr K C f) (l : fs.lookup f = some v) (q : Q v H) : qFld K f (.ref a) H Q := ⟨a, C, dx, fs, v, rfl, h, c, n, l, q⟩
def qSFld (K : PySem.W.Frag) (f : Str) (x y : V) (H2 : Hp) (R : Hp → Prop) : Prop := ∃ a C dx fs, x = .ref a ∧ H2 a = some (.ins C dx fs) ∧ Cls K C ∧ NoAttr K C f ∧ fs.length < 1000 ∧ R (upd H2 a (.ins C dx (putF f y fs)))
theorem rd_sFld (h : tb σ H fun y H1 => ta σ H1 fun x H2 => qSFld K f x y H2 fun H3 => D.nx σ H3) : sFld K ta tb f D σ H := h
theorem rd_qSFld {a dx : Addr} {fs : List (Str × V)} {R : Hp → Prop} (c : Cls K C) (h : H a = some (.ins C dx fs)) (n : NoAttr K C f) (l : fs.length < 1000) (q : R (upd H a (.ins C dx (putF f y fs)))) : qSFld K f (.ref a) y H R := ⟨a, C, dx, fs, rfl, h, c, n, l, q⟩
theorem rd_meth (h : te σ H fun x H1 => ∃ a dx fs, x = .ref a ∧ H1 a = some (.ins C dx fs) ∧ fs.lookup m = none ∧ t σ H1 fun vs H2 => sp (x :: vs) H2 Q E) : tMeth C m sp [] E te t σ H Q := by
  show te σ H fun x H1 => ∃ a dx fs, x = .ref a ∧ H1 a = some (.ins C dx fs) ∧ fs.lookup m = none ∧ t σ H1 fun vs H2 => sp (x :: (vs ++ [])) H2 Q E
  simp only [List.append_nil]
  exact h
theorem rd_make (h : t σ H fun vs H1 => ∀ x dx, H1 x = none → H1 dx = none → dx ≠ x → sp (.ref x :: vs) (upd (upd H1 dx (.own x)) x (.ins C dx [])) (fun v H2 => v = .non ∧ Q (.ref x) H2) E) : tMake C sp [] E t σ H Q := by
  show t σ H fun vs H1 => ∀ x dx, H1 x = none → H1 dx = none → dx ≠ x → sp (.ref x :: (vs ++ [])) (upd (upd H1 dx (.own x)) x (.ins C dx [])) (fun v H2 => v = .non ∧ Q (.ref x) H2) E
  simp only [List.append_nil]
  exact h
/-! dicts -/
def qDIn (neg : Bool) (y x : V) (H2 : Hp) (Q : VK) : Prop := ∃ a o, x = .ref a ∧ DGet H2 a y o ∧ Q (.bl (if neg then !o.isSome else o.isSome)) H2
theorem rd_dIn (h : ta σ H fun y H1 => te σ H1 fun x H2 => qDIn false y x H2 Q) : tDIn ta te σ H Q := h
theorem rd_dNotIn (h : ta σ H fun y H1 => te σ H1 fun x H2 => qDIn true y x H2 Q) : tDNotIn ta te σ H Q := h
theorem rd_qInK {neg : Bool} {a : Addr} {kvs : List (Key × V)} (k : Key) (h : H a = some (.dK kvs)) (q : Q (.bl (if neg then !(valV kvs k).isSome else (valV kvs k).isSome)) H) : qDIn neg (kV k) (.ref a) H Q := ⟨a, _, rfl, DGet.k h, q⟩
theorem rd_qInT {neg : Bool} {a b : Addr} {kvs : List (List Key × V)} (k : List Key) (h : H a = some (.dT kvs)) (e : H b = some (.tup (k.map kV))) (q : Q (.bl (if neg then !(valV kvs k).isSome else (valV kvs k).isSome)) H) : qDIn neg (.ref b) (.ref a) H Q := ⟨a, _, rfl, DGet.t h e, q⟩
theorem rd_qGetK {a : Addr} {kvs : List (Key × V)} (k : Key) (h : H a = some (.dK kvs)) (e : valV kvs k = some v) (q : Q v H) : qDGet (.ref a) (kV k) H Q := ⟨a, v, rfl, by have := DGet.k (k := k) h; rw [e] at this; exact this, q⟩
theorem rd_qGetT {a b : Addr} {kvs : List (List Key × V)} (k : List Key) (h : H a = some (.dT kvs)) (eb : H b = some (.tup (k.map kV))) (e : valV kvs k = some v) (q : Q v H) : qDGet (.ref a) (.ref b) H Q := ⟨a, v, rfl, by have := DGet.t (k := k) h eb; rw [e] at this; exact this, q⟩
theorem rd_qPutK {a : Addr} {kvs : List (Key × V)} {R : Hp → Prop} (k : Key) (h : H a = some (.dK kvs)) (hl : kvs.length < 100000) (q : R (upd H a (.dK (putK kvs k v)))) : qDPut (.ref a) (kV k) v H R := ⟨a, _, rfl, DPut.k (k := k) h (szlt hl), q⟩
theorem rd_qPutT {a b : Addr} {kvs : List (List Key × V)} {R : Hp → Prop} (k : List Key) (h : H a = some (.dT kvs)) (eb : H b = some (.tup (k.map kV))) (hl : kvs.length < 100000) (q : R (upd H a (.dT (putK kvs k v)))) : qDPut (.ref a) (.ref b) v H R :=
  ⟨a, _, rfl, by first | exact DPut.t (k := k) h eb (szlt hl) | exact .inr ⟨kvs, k, b, h, rfl, eb, szlt hl, rfl⟩, q⟩
end

/-! ### a def whose code object is told -/
structure FunC (K : PySem.W.Frag) (c : Addr) (x qual : Str) (st : Stmt) (f : Addr) (fd : FuncData) : Prop where
  ex : ∃ (oc : Value) (od : Option Addr) (kV doc pm : Value) (an : Option Addr) (ct : Value) (osl : Array (Option Value)),
    fd = PySem.W.fnOf x qual (defArgs st) (defBody st) (defScope st) .none kV doc pm an (.ref c) ct ∧ K.lookup f = some ⟨oc, od, .func fd, osl⟩ ∧ PySem.W.codeIn K (.ref c) qual = true
section
variable {P : Program} {w : World} {K : PySem.W.Frag} {mg : Str → Option Value} {base : Heap}
theorem FunC.ok {c : Addr} {x qual : Str} {st : Stmt} {f : Addr} {fd : FuncData} {N ps : List Str} {k : Nat} {sp : Sp} (F : FunC K c x qual st f fd) (S1 : FnScope N ps (defScope st)) (len : ∀ vs H Q E, sp vs H Q E → vs.length = ps.length)
    (hbody : ∀ (A : Around) (outer : List Env) (s : Shared) (H : Hp) (vs : List V) (Q : VK) (E : XK), Room k (A.deeper (envOfC qual (defScope st) s.heap.objs.size f (.ref c))) → sp vs H Q E →
      ∃ t, PSs (cxOf L2.CX0 P w K mg base N qual (defScope st) f (.ref c) A outer s H E).nox (defBody st) t ∧ t { nx := fun _ H' => Q .non H', rt := Q } (start N vs) H) : FnOk P w K mg base L2.CX0 (k + 1) f fd ps sp := by
  obtain ⟨oc, od, kV, doc, pm, an, ct, osl, rfl, lk, hcd⟩ := F.ex
  refine fn_of lk hcd S1 len fun A outer s H vs Q E hr hsp => ?_
  obtain ⟨t, h, q⟩ := hbody A outer s H vs Q E hr hsp
  exact ⟨t, h.nox, q⟩
end
/-! ### tables, lists of texts, lists of pairs, as they lie -/
abbrev vI (n : Nat) : V := .int ((n : Nat) : Int)
def rowV (l : List Nat) : List V := l.map vI
def txV (ws : List (List Nat)) : List V := ws.map fun w => V.str (S w)
def refs (as : List Addr) : List V := as.map V.ref
def Bx : Bool → List V → HO
  | true, xs => .tup xs
  | false, xs => .lst xs
/-- lists and tuples are kept -/
def Kq (H H' : Hp) : Prop := (∀ a xs, H a = some (.lst xs) → H' a = some (.lst xs)) ∧ ∀ a xs, H a = some (.tup xs) → H' a = some (.tup xs)
theorem Kq.refl (H : Hp) : Kq H H := ⟨fun _ _ h => h, fun _ _ h => h⟩
theorem Kq.trans {H H1 H2 : Hp} (a : Kq H H1) (b : Kq H1 H2) : Kq H H2 := ⟨fun p xs h => b.1 p xs (a.1 p xs h), fun p xs h => b.2 p xs (a.2 p xs h)⟩
theorem Kq.of {H H' : Hp} (s : Same H H') : Kq H H' := ⟨fun a xs h => s a _ h, fun a xs h => s a _ h⟩
theorem Kq.bx {H H' : Hp} (k : Kq H H') {b : Bool} {a : Addr} {xs : List V} (h : H a = some (Bx b xs)) : H' a = some (Bx b xs) := by
  cases b with
  | true => exact k.2 a xs h
  | false => exact k.1 a xs h
/-- a table: rows in a list or tuple -/
def Tb (b1 b2 : Bool) (H : Hp) (p : Addr) (T : List (List Nat)) : Prop := ∃ as : List Addr, H p = some (Bx b1 (refs as)) ∧ as.length = T.length ∧ ∀ (i : Nat) (a : Addr) (r : List Nat), as[i]? = some a → T[i]? = some r → H a = some (Bx b2 (rowV r))
theorem Tb.kq {b1 b2 : Bool} {H H' : Hp} {p : Addr} {T : List (List Nat)} (h : Tb b1 b2 H p T) (k : Kq H H') : Tb b1 b2 H' p T := by
  obtain ⟨as, h1, h2, h3⟩ := h
  exact ⟨as, k.bx h1, h2, fun i a r e1 e2 => k.bx (h3 i a r e1 e2)⟩
/-- a list of pairs of texts -/
def Prs (H : Hp) (p : Addr) (bs : List (List Nat × List Nat)) : Prop := ∃ as : List Addr, H p = some (.lst (refs as)) ∧ as.length = bs.length ∧ ∀ (i : Nat) (a : Addr) (b : List Nat × List Nat), as[i]? = some a → bs[i]? = some b → H a = some (.tup [.str (S b.1), .str (S b.2)])
theorem Prs.kq {H H' : Hp} {p : Addr} {bs : List (List Nat × List Nat)} (h : Prs H p bs) (k : Kq H H') : Prs H' p bs := by
  obtain ⟨as, h1, h2, h3⟩ := h
  exact ⟨as, k.1 _ _ h1, h2, fun i a r e1 e2 => k.2 _ _ (h3 i a r e1 e2)⟩
theorem same_kq {H H' : Hp} (s : Same H H') : Kq H H' := Kq.of s
theorem kq_new {H H' : Hp} {p : Addr} {o : HO} (k : Kq H H') (n : H' p = none) : Kq H (L2.upd H' p o) := k.trans (Kq.of (Same.new n))
theorem getElem?_refs {as : List Addr} {i : Nat} {a : Addr} (h : as[i]? = some a) : (refs as)[i]? = some (V.ref a) := by unfold refs; rw [List.getElem?_map, h]; rfl
end My
/-! Loops over pairs, comprehensions over tuples. -/
namespace My
open PySem PySem.Spec L2 SX
open PyProof.Rows hiding St
section
variable {σ : St} {H : Hp} {Q : VK} {te : TE} {tt : TT} {vs : List Nat} {K : PySem.W.Frag} {tb : TS} {nx : St → Hp → Prop} {rt : VK} {bk ct : St → Hp → Prop}
abbrev gp2 (K : PySem.W.Frag) (a b : Nat) : TG := gTup K 2 (gCons (gName a) (gCons (gName b) gNil))
/-- a for over pairs -/
theorem forP {J : It} {n : Nat} {G : Hp → Prop} {A B : Nat → Option V} (w : Walk J n G (YPair A B)) {a b : Nat} (Pv : Nat → St → Hp → Prop) (h0 : Pv 0 σ H) (hG : ∀ i σ H, i ≤ n → Pv i σ H → G H)
    (hs : ∀ i σ H T x y, i < n → Pv i σ H → H T = none → A i = some x → B i = some y → tb ⟨Pv (i + 1), rt, nx, Pv (i + 1)⟩ ((σ.set a (some x)).set b (some y)) (L2.upd H T (.tup [x, y]))) (hd : ∀ σ H, Pv n σ H → nx σ H) : ForG J (gp2 K a b) tb ⟨nx, rt, bk, ct⟩ σ H :=
  for_it w Pv h0 hG (fun i v σ H H' hi p y => by
    obtain ⟨T, x, z, rfl, hn, rfl, h1, h2⟩ := y
    exact rd_g2 (SqT.of upd_same) (hs i σ H T x z hi p hn h1 h2)) hd
/-- a for over a list of tuples of two, unpacked -/
theorem forLP {ls : List V} {p : Addr} {a b : Nat} (Pv : Nat → St → Hp → Prop) (h0 : Pv 0 σ H) (hG : ∀ i σ H, i ≤ ls.length → Pv i σ H → SqL K H p ls)
    (hs : ∀ i v σ H, ls[i]? = some v → Pv i σ H → ∃ T x y, v = .ref T ∧ SqT K H T [x, y] ∧ tb ⟨Pv (i + 1), rt, nx, Pv (i + 1)⟩ ((σ.set a (some x)).set b (some y)) H) (hd : ∀ σ H, Pv ls.length σ H → nx σ H) : ForG (Itl K p) (gp2 K a b) tb ⟨nx, rt, bk, ct⟩ σ H :=
  for_it (walk_list (K := K) (a := p) (xs := ls)) Pv h0 hG (fun i v σ H H' hi pv y => by
    obtain ⟨rfl, hv⟩ := y
    obtain ⟨T, x, y, rfl, hT, h⟩ := hs i v σ _ hv pv
    exact rd_g2 hT h) hd
theorem lcT {α : Type} (ls : List α) (e : α → V) {p : Addr} (hs : SqT K H p (ls.map e)) {j : Nat} (yes : α → Bool) (f : α → V) (hn : ls.length ≤ 50000)
    (hw : ∀ x, wipe ((wipe σ vs).set j (some x)) vs = wipe σ vs)
    (ht : ∀ y ∈ ls, PT0 tt ((wipe σ vs).set j (some (e y))) H (yes y)) (he : ∀ y ∈ ls, yes y = true → PE0 te ((wipe σ vs).set j (some (e y))) H (f y))
    (q : ∀ D H', H D = none → Same H H' → H' D = some (.lst ((ls.filter yes).map f)) → Q (.ref D) H') : LcG (Itt K p) (gName j) tt te vs σ Q H := by
  have w := walk_tup (K := K) (a := p) (xs := ls.map e)
  rw [List.length_map] at w
  refine lc_map ls e w (fun H' s => Same.seqT s hs) (fun i H x H' hi y => ⟨y.1, ?_⟩) hn hw yes f ht he q
  have h2 := y.2
  rw [List.getElem?_map] at h2
  cases h3 : ls[i]? with
  | none => rw [h3] at h2; cases h2
  | some z =>
    rw [h3] at h2
    exact ⟨z, rfl, (Option.some.inj h2).symm⟩
/-- a comprehension over a list (b = false) or tuple whose element makes a new object: Pv by what is made so far -/
theorem lc_inv {ls : List V} {J : It} {G : Hp → Prop} (w : Walk J ls.length G (YAt ls)) {j : Nat} (Pv : Addr → Nat → List V → Hp → Prop) (hn : ls.length ≤ 50000) (hw : ∀ x, wipe ((wipe σ vs).set j (some x)) vs = wipe σ vs)
    (hG : ∀ D i acc H', Pv D i acc H' → G H') (h0 : ∀ D, H D = none → Pv D 0 [] (L2.upd H D (.lst [])))
    (hs : ∀ (D : Addr) (i : Nat) (v : V) (acc : List V) (H' : Hp) (Q : VK), ls[i]? = some v → H D = none → acc.length = i → Pv D i acc H' → H' D = some (.lst acc) →
      (∀ y H2, H2 D = some (.lst acc) → Pv D (i + 1) (acc ++ [y]) (L2.upd H2 D (.lst (acc ++ [y]))) → Q y H2) → te ((wipe σ vs).set j (some v)) H' Q)
    (q : ∀ (D : Addr) (acc : List V) (H' : Hp), H D = none → acc.length = ls.length → Pv D ls.length acc H' → H' D = some (.lst acc) → Q (.ref D) H') : LcG J (gName j) tYes te vs σ Q H := by
  intro D hD
  refine lc_it w (fun i H' => ∃ acc : List V, H' D = some (.lst acc) ∧ acc.length = i ∧ Pv D i acc H') ⟨[], upd_same, rfl, h0 D hD⟩ (fun i H' _ ⟨acc, _, _, p⟩ => hG D i acc H' p) ?_ ?_
  · rintro i x H1 H1' hi ⟨acc, ha, hl, p⟩ ⟨rfl, hx⟩
    refine ⟨hw _, ?_⟩
    unfold tYes
    dsimp only
    rw [if_pos rfl]
    refine hs D i x acc _ _ hx hD hl p ha fun y H2 h2 p2 => ⟨acc, h2, szlt (by omega), acc ++ [y], upd_same, ?_, p2⟩
    rw [List.length_append, hl]
    rfl
  · rintro H1 ⟨acc, ha, hl, p⟩
    exact q D acc H1 hD hl p ha
end
theorem rowV_len (l : List Nat) : (rowV l).length = l.length := by unfold rowV; simp
theorem rowV_get {l : List Nat} {i : Nat} (h : i < l.length) : (rowV l)[i]? = some (vI (l.getD i 0)) := by
  unfold rowV
  rw [List.getElem?_map, List.getD_eq_getElem?_getD, List.getElem?_eq_getElem h]; rfl
theorem txV_get {l : List (List Nat)} {i : Nat} (h : i < l.length) : (txV l)[i]? = some (.str (S (l.getD i []))) := by
  unfold txV
  rw [List.getElem?_map, List.getD_eq_getElem?_getD, List.getElem?_eq_getElem h]; rfl
theorem txV_len (l : List (List Nat)) : (txV l).length = l.length := by unfold txV; simp
theorem refs_len (as : List Addr) : (refs as).length = as.length := by unfold refs; simp
theorem refs_get {as : List Addr} {i : Nat} {v : V} (h : (refs as)[i]? = some v) : ∃ a, as[i]? = some a ∧ v = .ref a := by
  unfold refs at h
  rw [List.getElem?_map] at h
  cases e : as[i]? with
  | none => rw [e] at h; cases h
  | some a => rw [e] at h; exact ⟨a, rfl, (Option.some.inj h).symm⟩
theorem row_of {b2 : Bool} {H : Hp} {T : List (List Nat)} {as : List Addr} (h2 : as.length = T.length) (h3 : ∀ (i : Nat) (a : Addr) (r : List Nat), as[i]? = some a → T[i]? = some r → H a = some (Bx b2 (rowV r))) {i : Nat} {a : Addr} (e : as[i]? = some a) : H a = some (Bx b2 (rowV (T.getD i []))) := by
  have hi : i < T.length := by rw [← h2]; exact (List.getElem?_eq_some_iff.mp e).1
  refine h3 i a _ e ?_
  rw [List.getD_eq_getElem?_getD, List.getElem?_eq_getElem hi]; rfl
theorem cq_lenK {X : Cx} (K : PySem.W.Frag) (hK : X.K = K) : CallR X (.builtin "len") (qLen K) := by subst hK; exact cq_len
theorem pe_tupleOfK {X : Cx} {a : Expr} {ta : TE} {p pos : Pos} (K : PySem.W.Frag) (hK : X.K = K) (hg : Gl X "tuple") (hm : X.mg "tuple" = none) (ha : PE X a ta) (na : starEach [a] X.env = (false, eval a X.env) :: starEach [] X.env := by rfl) :
    PE X (.Call (.Name "tuple" p) [a] [] pos) (tThen ta (kTup K)) := by subst hK; exact pe_tupleOf hg hm ha na
theorem call_isiK {X : Cx} (K : PySem.W.Frag) (hK : X.K = K) : CallR X (.builtin "isinstance") (rIsi K) := by subst hK; exact call_isi
theorem cutV_from1 {x : V} {xs : List V} : cutV (x :: xs) (some 1) none = xs := by
  have e : cutV (x :: xs) (some ((1 : Nat) : Int)) none = ((x :: xs).drop (min 1 (x :: xs).length)).take ((x :: xs).length - min 1 (x :: xs).length) := by
    unfold cutV
    rw [HT.sIx_nat]
    first | rfl | simp [HT.sIx_none]
  have h1 : min 1 (x :: xs).length = 1 := by simp
  rw [h1] at e
  have e3 : cutV (x :: xs) (some 1) none = cutV (x :: xs) (some ((1 : Nat) : Int)) none := rfl
  rw [e3, e, List.drop_succ_cons, List.drop_zero]
  exact List.take_of_length_le (by simp)
theorem ExB.same {D : Addr} {H Hs H' : Hp} (s : Same H Hs) (n : H D = none) (e : ExB D Hs H') : Same H H' := fun b o q => e b o (ne_of_none q n) (s b o q)
theorem getD_some {α : Type} {l : List α} {i : Nat} {a d : α} (h : l[i]? = some a) : l.getD i d = a := by rw [List.getD_eq_getElem?_getD, h]; rfl
theorem get_getD {α : Type} {l : List α} {i : Nat} (d : α) (h : i < l.length) : l[i]? = some (l.getD i d) := by rw [List.getD_eq_getElem?_getD, List.getElem?_eq_getElem h]; rfl
section
variable {K : PySem.W.Frag} {H : Hp} {Q : VK} {x : V}
theorem rd_isiLT {a : String} {tp : Addr} {r1 r2 : Bool} (h : H tp = some (.tup [.ty "list", .ty "tuple"])) (ty : TyX K H x (.type a)) (k1 : kitB a "list" = some r1) (k2 : kitB a "tuple" = some r2) (q : Q (.bl (r1 || r2)) H) : rIsiT K [x, .ref tp] H Q := by
  refine rd_isiT h (us := [.type "list", .type "tuple"]) (.cons (.ty "list") (.cons (.ty "tuple") .nil)) ty (b := r1 || r2) ?_ q
  first
    | (simp only [PySem.W.kitAny, kit_ty k1, kit_ty k2]; cases r1 <;> cases r2 <;> rfl)
    | (unfold PySem.W.kitAny; rw [kit_ty k1]; cases r1 <;> simp [PySem.W.kitAny, kit_ty k2])
def dTI (ns : List Int) : PyData := .tuple (ns.map PyData.int)
theorem shTI (ns : List Int) : SeqAt.shaped (dTI ns) = true := by
  unfold SeqAt.shaped dTI
  have h1 : PyData.canLay0 (.tuple (ns.map PyData.int)) = true := canI ns
  have h2 : PyData.depth (.tuple (ns.map PyData.int)) = 1 := by show PyData.depthAll _ + 1 = 1; rw [depI]
  rw [h1, h2]; rfl
theorem eqTI (ns ms : List Int) : PyData.eqv (dTI ns) (dTI ms) = decide (ns = ms) := eqAllI ns ms
theorem dpTI {a : Addr} {ns : List Int} (h : SqT K H a (ns.map V.int)) : Dp K H (.ref a) (dTI ns) := .tup h (dpAllI ns)
theorem rd_neTI {p r : Addr} {ns ms : List Int} (h1 : SqT K H p (ns.map V.int)) (h2 : SqT K H r (ms.map V.int)) (q : Q (.bl (!decide (ns = ms))) H) : rNeD K (.ref p) (.ref r) H Q := rd_neD (dpTI h1) (dpTI h2) (shTI _) (shTI _) (by rw [eqTI]; exact q)
theorem rd_eqTI {p r : Addr} {ns ms : List Int} (h1 : SqT K H p (ns.map V.int)) (h2 : SqT K H r (ms.map V.int)) (q : Q (.bl (decide (ns = ms))) H) : rEqD K (.ref p) (.ref r) H Q := rd_eqD (dpTI h1) (dpTI h2) (shTI _) (shTI _) (by rw [eqTI]; exact q)
def dII (a b : Int) : PyData := .tuple [.int a, .int b]
theorem shII (a b : Int) : SeqAt.shaped (dII a b) = true := by first | rfl | decide
theorem eqII (a b c d : Int) : PyData.eqv (dII a b) (dII c d) = decide (a = c ∧ b = d) := by
  show (PyData.eqv (.int a) (.int c) && (PyData.eqv (.int b) (.int d) && true)) = _
  have h : ∀ j k : Int, PyData.eqv (.int j) (.int k) = decide (j = k) := fun j k => by simp only [PyData.eqv]; by_cases e : j = k <;> simp [e]
  rw [h, h]
  by_cases e : a = c <;> by_cases e2 : b = d <;> simp [e, e2]
theorem dpII {p : Addr} {a b : Int} (h : SqT K H p [.int a, .int b]) : Dp K H (.ref p) (dII a b) := .tup h (.cons (.int _) (.cons (.int _) .nil))
theorem rd_eqII {p r : Addr} {a b c d : Int} (h1 : SqT K H p [.int a, .int b]) (h2 : SqT K H r [.int c, .int d]) (q : Q (.bl (decide (a = c ∧ b = d))) H) : rEqD K (.ref p) (.ref r) H Q := rd_eqD (dpII h1) (dpII h2) (shII _ _) (shII _ _) (by rw [eqII]; exact q)
theorem rd_eqNI {r : Addr} {c d : Int} (h2 : SqT K H r [.int c, .int d]) (q : Q (.bl false) H) : rEqD K .non (.ref r) H Q := rd_eqD (d := .none) (by first | exact .non | exact .none | constructor) (dpII h2) (by first | rfl | decide) (shII _ _) q
/-- lists of pairs of texts -/
def dPr (bs : List (List Nat × List Nat)) : PyData := .list (bs.map fun b => .tuple [.str (S b.1), .str (S b.2)])
def OkB (bs : List (List Nat × List Nat)) : Prop := ∀ b ∈ bs, OkW b.1 ∧ OkW b.2
theorem canPr : ∀ bs : List (List Nat × List Nat), OkB bs → PyData.canLayAll0 (bs.map fun b => .tuple [.str (S b.1), .str (S b.2)]) = true
  | [], _ => rfl
  | b :: bs, h => by
    show ((PyData.canLay0 (.str (S b.1)) && (PyData.canLay0 (.str (S b.2)) && true)) && PyData.canLayAll0 (bs.map _)) = true
    rw [canPr bs fun c hc => h c (List.mem_cons_of_mem _ hc), canStr (h b List.mem_cons_self).1, canStr (h b List.mem_cons_self).2]; rfl
theorem depPr : ∀ bs : List (List Nat × List Nat), PyData.depthAll (bs.map fun b => .tuple [.str (S b.1), .str (S b.2)]) ≤ 1
  | [] => Nat.zero_le _
  | b :: bs => by
    have h := depPr bs
    show max (PyData.depth (.tuple [.str (S b.1), .str (S b.2)])) _ ≤ 1
    have e : PyData.depth (.tuple [.str (S b.1), .str (S b.2)]) = 1 := by simp [PyData.depth, PyData.depthAll]
    rw [e]
    exact Nat.max_le.mpr ⟨Nat.le_refl _, h⟩
theorem shPr (bs : List (List Nat × List Nat)) (h : OkB bs) : SeqAt.shaped (dPr bs) = true := by
  unfold SeqAt.shaped dPr
  have h1 : PyData.canLay0 (.list (bs.map fun b => .tuple [.str (S b.1), .str (S b.2)])) = true := canPr bs h
  have h2 : PyData.depth (.list (bs.map fun b => .tuple [.str (S b.1), .str (S b.2)])) ≤ 2 := by
    show PyData.depthAll _ + 1 ≤ 2
    have := depPr bs; omega
  rw [h1]
  generalize PyData.depth (.list (bs.map fun b => .tuple [.str (S b.1), .str (S b.2)])) = d at h2
  match d, h2 with
  | 0, _ => first | rfl | decide
  | 1, _ => first | rfl | decide
  | 2, _ => first | rfl | decide
theorem eqAllPr : ∀ vs ws : List (List Nat × List Nat), PyData.eqvAll (vs.map fun b => .tuple [.str (S b.1), .str (S b.2)]) (ws.map fun b => .tuple [.str (S b.1), .str (S b.2)]) = decide (vs = ws)
  | [], [] => rfl
  | [], _ :: _ => rfl
  | _ :: _, [] => rfl
  | v :: vs, w :: ws => by
    show ((PyData.eqv (.str (S v.1)) (.str (S w.1)) && (PyData.eqv (.str (S v.2)) (.str (S w.2)) && true)) && PyData.eqvAll (vs.map _) (ws.map _)) = _
    rw [eqAllPr vs ws, eqStr, eqStr]
    obtain ⟨v1, v2⟩ := v
    obtain ⟨w1, w2⟩ := w
    by_cases e : v1 = w1 <;> by_cases e1 : v2 = w2 <;> by_cases e2 : vs = ws <;> simp [e, e1, e2]
theorem dpAllPr : ∀ (as : List Addr) (bs : List (List Nat × List Nat)), as.length = bs.length → (∀ (i : Nat) (a : Addr) (b : List Nat × List Nat), as[i]? = some a → bs[i]? = some b → H a = some (.tup [.str (S b.1), .str (S b.2)])) → DpAll K H (refs as) (bs.map fun b => .tuple [.str (S b.1), .str (S b.2)])
  | [], [], _, _ => .nil
  | [], _ :: _, h, _ => by cases h
  | _ :: _, [], h, _ => by cases h
  | a :: as, b :: bs, h, hh => .cons (.tup (SqT.of (hh 0 a b rfl rfl)) (.cons (.str _) (.cons (.str _) .nil))) (dpAllPr as bs (by simpa using h) fun i c d e1 e2 => hh (i + 1) c d e1 e2)
theorem dpPr {p : Addr} {bs : List (List Nat × List Nat)} (h : Prs H p bs) : Dp K H (.ref p) (dPr bs) := by
  obtain ⟨as, h1, h2, h3⟩ := h
  exact .lst (SqL.of h1) (dpAllPr as bs h2 h3)
theorem rd_nePr {p r : Addr} {vs ws : List (List Nat × List Nat)} (h1 : Prs H p vs) (h2 : Prs H r ws) (o1 : OkB vs) (o2 : OkB ws) (q : Q (.bl (!decide (vs = ws))) H) : rNeD K (.ref p) (.ref r) H Q := rd_neD (dpPr h1) (dpPr h2) (shPr _ o1) (shPr _ o2) (by show Q (.bl (!PyData.eqvAll _ _)) H; rw [eqAllPr]; exact q)
theorem rd_eqPr {p r : Addr} {vs ws : List (List Nat × List Nat)} (h1 : Prs H p vs) (h2 : Prs H r ws) (o1 : OkB vs) (o2 : OkB ws) (q : Q (.bl (decide (vs = ws))) H) : rEqD K (.ref p) (.ref r) H Q := rd_eqD (dpPr h1) (dpPr h2) (shPr _ o1) (shPr _ o2) (by show Q (.bl (PyData.eqvAll _ _)) H; rw [eqAllPr]; exact q)
theorem prs_pairs {p : Addr} {bs : List (List Nat × List Nat)} (h : Prs H p bs) : ∃ as, H p = some (.lst (refs as)) ∧ Pairs K H (refs as) bs := by
  obtain ⟨as, h1, h2, h3⟩ := h
  refine ⟨as, h1, by rw [refs_len]; exact h2, fun i b hb => ?_⟩
  have hi : i < as.length := by rw [h2]; exact (List.getElem?_eq_some_iff.mp hb).1
  exact ⟨as[i], getElem?_refs (List.getElem?_eq_getElem hi), SqT.of (h3 i _ b (List.getElem?_eq_getElem hi) hb)⟩
theorem prs_of {p : Addr} {as : List Addr} {bs : List (List Nat × List Nat)} {H' : Hp} (h2 : as.length = bs.length) (h3 : ∀ (i : Nat) (a : Addr) (b : List Nat × List Nat), as[i]? = some a → bs[i]? = some b → H a = some (.tup [.str (S b.1), .str (S b.2)])) (k : ∀ a xs, H a = some (.tup xs) → H' a = some (.tup xs)) (hp : H' p = some (.lst (refs as))) : Prs H' p bs :=
  ⟨as, hp, h2, fun i a b e1 e2 => k _ _ (h3 i a b e1 e2)⟩
/-- one pair more -/
theorem prs_snoc {D q : Addr} {bs : List (List Nat × List Nat)} {b : List Nat × List Nat} {H' : Hp} (h : Prs H D bs) (hq : H' q = some (.tup [.str (S b.1), .str (S b.2)])) (k : ∀ a xs, H a = some (.tup xs) → H' a = some (.tup xs)) : ∃ as, H D = some (.lst (refs as)) ∧ as.length = bs.length ∧ (H' D = some (.lst (refs as ++ [.ref q])) → Prs H' D (bs ++ [b])) := by
  obtain ⟨as, h1, h2, h3⟩ := h
  refine ⟨as, h1, h2, fun hD => ⟨as ++ [q], by rw [hD]; unfold refs; rw [List.map_append]; rfl, by simp [h2], fun i a s e1 e2 => ?_⟩⟩
  by_cases hi : i < as.length
  · rw [List.getElem?_append_left hi] at e1
    rw [List.getElem?_append_left (by omega)] at e2
    exact k _ _ (h3 i a s e1 e2)
  · have hi2 : i = as.length := by
      have := (List.getElem?_eq_some_iff.mp e1).1
      simp at this; omega
    subst hi2
    rw [List.getElem?_append_right (Nat.le_refl _), Nat.sub_self] at e1
    cases e1
    rw [List.getElem?_append_right (by omega), show as.length - bs.length = 0 by omega] at e2
    cases e2
    exact hq
theorem rowV_int (l : List Nat) : rowV l = (l.map fun n : Nat => (n : Int)).map V.int := by unfold rowV; rw [List.map_map]; rfl
theorem rd_bm {σ : St} {r : V → List V → Hp → VK → Prop} {t : TA} {to : TE} (h : to σ H fun x H1 => tyV K "list" x H1 ∧ t σ H1 fun xs H2 => r x xs H2 Q) : tBM K "list" r to t σ H Q := h
theorem rd_par3 {σ : St} {H : Hp} {i j l : Nat} {ta : TA} {nx : St → Hp → Prop} {rt : VK} {bk ct : St → Hp → Prop} (h : ta σ H fun vs H1 => ∃ u v w, vs = [u, v, w] ∧ nx (((σ.set i (some u)).set j (some v)).set l (some w)) H1) : tPar3 i j l ta ⟨nx, rt, bk, ct⟩ σ H := h
theorem rd_thenT {σ : St} {te : TE} (h : te σ H fun x H1 => kTup K x H1 Q) : tThen te (kTup K) σ H Q := h
theorem rd_kTupT {p : Addr} {xs : List V} (h : SqT K H p xs) (q : Q (.ref p) H) : kTup K (.ref p) H Q := .inr ⟨p, xs, rfl, h, q⟩
theorem rd_kTupL {p : Addr} {xs : List V} (h : SqL K H p xs) (q : ∀ r, H r = none → Q (.ref r) (L2.upd H r (.tup xs))) : kTup K (.ref p) H Q := .inl ⟨p, xs, rfl, h, q⟩
end
def qSortLam (K : PySem.W.Frag) (TT : List (Addr × Str)) (vs : List V) (H1 : Hp) (Q : VK) : Prop := ∃ (a : Addr) (xs : List V) (bs : List (List Nat × List Nat)), vs = [.ref a] ∧ SqL K H1 a xs ∧ Pairs K H1 xs bs ∧ bs.length ≤ 100000 ∧ (∀ b ∈ bs, b.1.length ≤ 100000) ∧ (bs.Pairwise fun a b => Mon.slt a.1 b.1) ∧ LamX.Tabs TT H1 ∧
  ∀ p H2, LamX.ExtN H1 H2 → LamX.Tabs TT H2 → H2 p = none → Q (.ref p) (L2.upd H2 p (.lst xs))
theorem rd_sortLam {K : PySem.W.Frag} {TT : List (Addr × Str)} {t : TA} {σ : St} {H : Hp} {Q : VK} (h : t σ H fun vs H1 => qSortLam K TT vs H1 Q) : tSortLam K TT t σ H Q := h
/-- one row more -/
theorem tb_snoc {b2 : Bool} {H H' : Hp} {D q : Addr} {xs : List Addr} {T : List (List Nat)} {r : List Nat} (h2 : xs.length = T.length) (h3 : ∀ (i : Nat) (a : Addr) (r : List Nat), xs[i]? = some a → T[i]? = some r → H a = some (Bx b2 (rowV r))) (k : ∀ a, a ∈ xs → H a ≠ none → H' a = H a) (hq : H' q = some (Bx b2 (rowV r))) :
    (xs ++ [q]).length = (T ++ [r]).length ∧ ∀ (i : Nat) (a : Addr) (s : List Nat), (xs ++ [q])[i]? = some a → (T ++ [r])[i]? = some s → H' a = some (Bx b2 (rowV s)) := by
  refine ⟨by simp [h2], fun i a s e1 e2 => ?_⟩
  by_cases hi : i < xs.length
  · rw [List.getElem?_append_left hi] at e1
    rw [List.getElem?_append_left (by omega)] at e2
    have h4 := h3 i a s e1 e2
    rw [k a (List.mem_of_getElem? e1) (by rw [h4]; simp)]
    exact h4
  · have hi2 : i = xs.length := by
      have := (List.getElem?_eq_some_iff.mp e1).1
      simp at this; omega
    subst hi2
    rw [List.getElem?_append_right (Nat.le_refl _), Nat.sub_self] at e1
    cases e1
    rw [List.getElem?_append_right (by omega), show xs.length - T.length = 0 by omega] at e2
    cases e2
    exact hq
def qTg (a b : Int) (H1 : Hp) (Q : VK) : Prop := RgOk a b ∧ ∀ q, H1 q = none → Q (.ref q) (L2.upd H1 q (.tup (rgV a b)))
theorem rd_tupRg {te : St → Hp → (Int → Int → Hp → Prop) → Prop} {σ : St} {H : Hp} {Q : VK} (h : te σ H fun a b H1 => qTg a b H1 Q) : tTupRg te σ H Q := h
theorem rd_qTg {n : Nat} {H : Hp} {Q : VK} (hn : n ≤ 100000) (q : ∀ r, H r = none → Q (.ref r) (L2.upd H r (.tup (rowV (List.range n))))) : qTg 0 (n : Nat) H Q := by
  refine ⟨RgOk.of_le (by omega) (by omega) (by omega) (by omega), ?_⟩
  have e : rgV 0 (n : Nat) = rowV (List.range n) := by
    unfold rgV rowV
    have e : (((n : Nat) : Int) - 0).toNat = n := by omega
    rw [e]
    refine List.map_congr_left fun i _ => ?_
    show V.int (0 + (i : Nat)) = V.int (i : Nat)
    rw [Int.zero_add]
  rw [e]
  exact q
theorem map_cast_inj {u v : List Nat} : (u.map fun n : Nat => (n : Int)) = (v.map fun n : Nat => (n : Int)) ↔ u = v := by
  constructor
  · intro h
    have h2 := congrArg (fun l : List Int => l.map Int.toNat) h
    rw [List.map_map, List.map_map] at h2
    have e : (Int.toNat ∘ fun n : Nat => (n : Int)) = id := by funext n; simp
    rw [e, List.map_id, List.map_id] at h2
    exact h2
  · intro h; rw [h]
theorem at_vI {xs : List V} {n : Nat} {v : V} (h : xs[n]? = some v) : atI xs ((n : Nat) : Int) = some v := atI_nat h
end My
/-! The listing of maps, as it lies while it grows. -/
namespace Mon
section
variable {rows : Tab} {sz : Nat}
theorem wsR_len (f w : List Nat) (fd ws : List (List Nat)) (h : ws.length = fd.length) : ∀ j, (wsR rows f w j fd ws).length = (fdR rows f j fd).length
  | 0 => h
  | j + 1 => by
    have ih := wsR_len f w fd ws h j
    rw [fdR_succ]
    unfold wsR
    split
    · exact ih
    · rw [List.length_append, List.length_append, ih]; rfl
theorem wsR_pre0 (f w : List Nat) (fd ws : List (List Nat)) : ∀ j, ∃ b, wsR rows f w j fd ws = ws ++ b
  | 0 => ⟨[], by simp [wsR]⟩
  | j + 1 => by
    obtain ⟨b, h⟩ := wsR_pre0 f w fd ws j
    unfold wsR
    split
    · exact ⟨b, h⟩
    · exact ⟨b ++ [w ++ [97 + j]], by rw [h, List.append_assoc]⟩
theorem wsT_len : ∀ n, (wsT rows sz n).length = (fdT rows sz n).length
  | 0 => rfl
  | n + 1 => wsR_len _ _ _ _ (wsT_len n) _
theorem wsR_bd {n : Nat} (f w : List Nat) (fd ws : List (List Nat)) (hw : w.length ≤ n) (h : ∀ x ∈ ws, x.length ≤ n) : ∀ j, ∀ x ∈ wsR rows f w j fd ws, x.length ≤ n + 1
  | 0 => fun x hx => Nat.le_succ_of_le (h x hx)
  | j + 1 => by
    have ih := wsR_bd f w fd ws hw h j
    unfold wsR
    split
    · exact ih
    · intro x hx
      rcases List.mem_append.mp hx with hx | hx
      · exact ih x hx
      · rw [List.mem_singleton.mp hx, List.length_append]
        show w.length + 1 ≤ n + 1
        omega
theorem getD_len {ws : List (List Nat)} {n k : Nat} (h : ∀ x ∈ ws, x.length ≤ n) : (ws.getD k []).length ≤ n := by
  rw [List.getD_eq_getElem?_getD]
  cases e : ws[k]? with
  | none => exact Nat.zero_le _
  | some x => exact h x (List.mem_of_getElem? e)
theorem wsT_bd : ∀ n, ∀ x ∈ wsT rows sz n, x.length ≤ n
  | 0 => fun x hx => by rw [List.mem_singleton.mp hx]; exact Nat.le_refl _
  | n + 1 => wsR_bd _ _ _ _ (getD_len (wsT_bd n)) (wsT_bd n) _
theorem fdT_go_le : ∀ i, (∀ k, k < i → k < (fdT rows sz k).length) → i ≤ (fdT rows sz i).length
  | 0, _ => Nat.zero_le _
  | i + 1, h => by
    have h1 := h i (Nat.lt_succ_self _)
    obtain ⟨b, e⟩ := fdT_pre (rows := rows) (sz := sz) i 1
    rw [e, List.length_append]
    omega
end
end Mon
namespace My
open PySem PySem.Spec L2 SX Mon
open PyProof.Rows hiding St
/-! ### rows as keys -/
def kk (r : List Nat) : List Key := r.map fun n => .inl ((n : Nat) : Int)
theorem kk_map (r : List Nat) : (kk r).map kV = rowV r := by unfold kk rowV; rw [List.map_map]; rfl
theorem kk_inj {u v : List Nat} : kk u = kk v ↔ u = v := by
  constructor
  · intro h
    have h2 := congrArg (fun l : List Key => l.map fun x => match x with | .inl i => Int.toNat i | .inr _ => 0) h
    unfold kk at h2
    rw [List.map_map, List.map_map] at h2
    have e : ((fun x : Key => match x with | .inl i => Int.toNat i | .inr _ => 0) ∘ fun n : Nat => (Sum.inl (n : Int) : Key)) = id := by funext n; simp
    rw [e, List.map_id, List.map_id] at h2
    exact h2
  · intro h; rw [h]
def numT (fd : Tab) : List (List Key × V) := numK 0 (fd.map kk)
theorem numK_cons (n : Nat) (k : List Key) (ks : List (List Key)) : numK n (k :: ks) = (k, vI n) :: numK (n + 1) ks := by unfold numK; rw [List.zipIdx_cons]; rfl
theorem numK_snoc (n : Nat) (k : List Key) (ks : List (List Key)) : numK n (ks ++ [k]) = numK n ks ++ [(k, vI (n + ks.length))] := by unfold numK; rw [List.zipIdx_append, List.map_append]; rfl
theorem numT_len (fd : Tab) : (numT fd).length = fd.length := by unfold numT; rw [numK_len, List.length_map]
theorem valV_numK (r : List Nat) : ∀ (n : Nat) (fd : Tab), valV (numK n (fd.map kk)) (kk r) = if r ∈ fd then some (vI (n + fd.idxOf r)) else none
  | n, [] => rfl
  | n, g :: fd => by
    rw [List.map_cons, numK_cons]
    by_cases e : g = r
    · rw [valV_pos (kk_inj.mpr e), if_pos (by rw [e]; exact List.mem_cons_self)]
      subst e
      simp [List.idxOf_cons]
    · rw [valV_neg (fun h => e (kk_inj.mp h)), valV_numK r (n + 1) fd]
      by_cases h : r ∈ fd
      · rw [if_pos h, if_pos (List.mem_cons_of_mem _ h)]
        have : (g :: fd).idxOf r = fd.idxOf r + 1 := by
          rw [List.idxOf_cons]
          have : (g == r) = false := by simpa using e
          rw [this]; rfl
        rw [this, show n + 1 + fd.idxOf r = n + (fd.idxOf r + 1) by omega]
      · rw [if_neg h, if_neg (fun h2 => (List.mem_cons.mp h2).elim (fun z => e z.symm) h)]
theorem valV_numT (r : List Nat) (fd : Tab) : valV (numT fd) (kk r) = if r ∈ fd then some (vI (fd.idxOf r)) else none := by
  unfold numT; rw [valV_numK r 0 fd, Nat.zero_add]
theorem putK_numT {r : List Nat} {fd : Tab} (h : r ∉ fd) : putK (numT fd) (kk r) (vI fd.length) = numT (fd ++ [r]) := by
  have e : valV (numT fd) (kk r) = none := by rw [valV_numT, if_neg h]
  unfold putK
  rw [valV_any, e]
  rw [if_neg (by simp)]
  unfold numT
  rw [List.map_append, List.map_singleton, numK_snoc, Nat.zero_add, List.length_map]
/-! ### rows at their places -/
def RB (b : Bool) (H : Hp) (as : List Addr) (rows : Tab) : Prop := as.length = rows.length ∧ ∀ (i : Nat) (a : Addr) (r : List Nat), as[i]? = some a → rows[i]? = some r → H a = some (Bx b (rowV r))
theorem RB.keep {b : Bool} {H H' : Hp} {as : List Addr} {rows : Tab} (h : RB b H as rows) (k : ∀ a ∈ as, ∀ xs, H a = some (Bx b xs) → H' a = some (Bx b xs)) : RB b H' as rows := ⟨h.1, fun i a r e1 e2 => k a (List.mem_of_getElem? e1) _ (h.2 i a r e1 e2)⟩
theorem RB.snoc {b : Bool} {H : Hp} {as : List Addr} {rows : Tab} {a : Addr} {r : List Nat} (h : RB b H as rows) (q : H a = some (Bx b (rowV r))) : RB b H (as ++ [a]) (rows ++ [r]) := by
  refine ⟨by simp [h.1], fun i c s e1 e2 => ?_⟩
  have hl := h.1
  by_cases hi : i < as.length
  · rw [List.getElem?_append_left hi] at e1
    rw [List.getElem?_append_left (by omega)] at e2
    exact h.2 i c s e1 e2
  · have hi2 : i = as.length := by
      have := (List.getElem?_eq_some_iff.mp e1).1
      simp at this; omega
    subst hi2
    rw [List.getElem?_append_right (Nat.le_refl _), Nat.sub_self] at e1
    cases e1
    rw [List.getElem?_append_right (by omega), show as.length - rows.length = 0 by omega] at e2
    cases e2
    exact q
theorem RB.at {b : Bool} {H : Hp} {as : List Addr} {rows : Tab} (h : RB b H as rows) {i : Nat} (hi : i < rows.length) : ∃ a, as[i]? = some a ∧ H a = some (Bx b (rowV (rows.getD i []))) := by
  have h1 : i < as.length := by rw [h.1]; exact hi
  exact ⟨as[i], List.getElem?_eq_getElem h1, h.2 i _ _ (List.getElem?_eq_getElem h1) (get_getD [] hi)⟩
theorem Same.updN {H H' : Hp} {a : Addr} {o : HO} (s : Same H H') (n : H a = none) : Same H (L2.upd H' a o) := fun b c e => by rw [upd_ne (ne_of_none e n)]; exact s b c e
theorem refs_snoc {as : List Addr} {a : Addr} : refs (as ++ [a]) = refs as ++ [.ref a] := by unfold refs; rw [List.map_append]; rfl
theorem rowV_snoc {l : List Nat} {n : Nat} : rowV (l ++ [n]) = rowV l ++ [vI n] := by unfold rowV; rw [List.map_append]; rfl
theorem txV_snoc {l : List (List Nat)} {w : List Nat} : txV (l ++ [w]) = txV l ++ [.str (S w)] := by unfold txV; rw [List.map_append]; rfl
/-! ### the listing -/
structure LT (H H' : Hp) (f w tb d : Addr) (fd : Tab) (ws : List (List Nat)) (T nd : Tab) (ts : List Addr) : Prop where
  same : Same H H'
  f0 : H f = none
  w0 : H w = none
  t0 : H tb = none
  d0 : H d = none
  fw : f ≠ w
  ft : f ≠ tb
  wt : w ≠ tb
  hf : ∃ fs, H' f = some (.lst (refs fs)) ∧ RB true H' fs fd
  hw : H' w = some (.lst (txV ws))
  ht : H' tb = some (.lst (refs ts))
  hT : RB false H' ts T
  hn : ∀ t ∈ ts, t ≠ f ∧ t ≠ w ∧ t ≠ tb
  hd : H' d = some (.dT (numT nd))
namespace LT
variable {H H' : Hp} {f w tb d : Addr} {fd : Tab} {ws : List (List Nat)} {T nd : Tab} {ts : List Addr}
theorem keep (L : LT H H' f w tb d fd ws T nd ts) {H2 : Hp} (s : Same H' H2) : LT H H2 f w tb d fd ws T nd ts := by
  obtain ⟨fs, e1, e2⟩ := L.hf
  exact ⟨L.same.trans s, L.f0, L.w0, L.t0, L.d0, L.fw, L.ft, L.wt, ⟨fs, s _ _ e1, e2.keep fun a _ xs h => s _ _ h⟩, s _ _ L.hw, s _ _ L.ht, L.hT.keep fun a _ xs h => s _ _ h, L.hn, s _ _ L.hd⟩
theorem df (L : LT H H' f w tb d fd ws T nd ts) : d ≠ f := let ⟨_, e, _⟩ := L.hf; ne_of L.hd e (fun z => nomatch z)
theorem dw (L : LT H H' f w tb d fd ws T nd ts) : d ≠ w := ne_of L.hd L.hw (fun z => nomatch z)
theorem dt (L : LT H H' f w tb d fd ws T nd ts) : d ≠ tb := ne_of L.hd L.ht (fun z => nomatch z)
/-- at the dict -/
theorem put (L : LT H H' f w tb d fd ws T nd ts) (nd2 : Tab) : LT H (L2.upd H' d (.dT (numT nd2))) f w tb d fd ws T nd2 ts := by
  obtain ⟨fs, e1, e2⟩ := L.hf
  refine ⟨Same.updN L.same L.d0, L.f0, L.w0, L.t0, L.d0, L.fw, L.ft, L.wt, ⟨fs, by rw [upd_ne L.df.symm]; exact e1, e2.keep fun a _ xs h => ?_⟩, by rw [upd_ne L.dw.symm]; exact L.hw, by rw [upd_ne L.dt.symm]; exact L.ht, L.hT.keep fun a _ xs h => ?_, L.hn, upd_same⟩
  · rw [upd_ne (ne_of h L.hd (fun z => nomatch z))]; exact h
  · rw [upd_ne (ne_of h L.hd (fun z => nomatch z))]; exact h
theorem pushf (L : LT H H' f w tb d fd ws T nd ts) {q : Addr} {r : List Nat} (hq : H' q = some (.tup (rowV r))) : ∃ xs, H' f = some (.lst xs) ∧ xs.length = fd.length ∧ LT H (L2.upd H' f (.lst (xs ++ [.ref q]))) f w tb d (fd ++ [r]) ws T nd ts := by
  obtain ⟨fs, e1, e2⟩ := L.hf
  have kt : ∀ a xs, H' a = some (Bx true xs) → (L2.upd H' f (.lst (refs fs ++ [.ref q]))) a = some (Bx true xs) := fun a xs h => by rw [upd_ne (ne_of h e1 (fun z => nomatch z))]; exact h
  refine ⟨refs fs, e1, by rw [refs_len, e2.1], Same.updN L.same L.f0, L.f0, L.w0, L.t0, L.d0, L.fw, L.ft, L.wt, ⟨fs ++ [q], by rw [upd_same, refs_snoc], (e2.keep fun a _ xs h => kt a xs h).snoc (kt _ _ hq)⟩, by rw [upd_ne L.fw.symm]; exact L.hw, by rw [upd_ne L.ft.symm]; exact L.ht, L.hT.keep fun a ha xs h => ?_, L.hn, by rw [upd_ne L.df]; exact L.hd⟩
  rw [upd_ne (L.hn a ha).1]; exact h
theorem pushw (L : LT H H' f w tb d fd ws T nd ts) (u : List Nat) : LT H (L2.upd H' w (.lst (txV ws ++ [.str (S u)]))) f w tb d fd (ws ++ [u]) T nd ts := by
  obtain ⟨fs, e1, e2⟩ := L.hf
  refine ⟨Same.updN L.same L.w0, L.f0, L.w0, L.t0, L.d0, L.fw, L.ft, L.wt, ⟨fs, by rw [upd_ne L.fw]; exact e1, e2.keep fun a _ xs h => ?_⟩, by rw [upd_same, txV_snoc], by rw [upd_ne L.wt.symm]; exact L.ht, L.hT.keep fun a ha xs h => ?_, L.hn, by rw [upd_ne L.dw]; exact L.hd⟩
  · rw [upd_ne (ne_of h L.hw (fun z => nomatch z))]; exact h
  · rw [upd_ne (L.hn a ha).2.1]; exact h
theorem pusht (L : LT H H' f w tb d fd ws T nd ts) {q : Addr} {r : List Nat} (hq : H' q = some (.lst (rowV r))) (n1 : q ≠ f) (n2 : q ≠ w) (n3 : q ≠ tb) : LT H (L2.upd H' tb (.lst (refs ts ++ [.ref q]))) f w tb d fd ws (T ++ [r]) nd (ts ++ [q]) := by
  obtain ⟨fs, e1, e2⟩ := L.hf
  refine ⟨Same.updN L.same L.t0, L.f0, L.w0, L.t0, L.d0, L.fw, L.ft, L.wt, ⟨fs, by rw [upd_ne L.ft]; exact e1, e2.keep fun a _ xs h => ?_⟩, by rw [upd_ne L.wt]; exact L.hw, by rw [upd_same, refs_snoc], (L.hT.keep fun a ha xs h => ?_).snoc (by rw [upd_ne n3]; exact hq), fun t ht => ?_, by rw [upd_ne L.dt]; exact L.hd⟩
  · rw [upd_ne (ne_of h L.ht (fun z => nomatch z))]; exact h
  · rw [upd_ne (L.hn a ha).2.2]; exact h
  · rcases List.mem_append.mp ht with h | h
    · exact L.hn t h
    · rw [List.mem_singleton.mp h]; exact ⟨n1, n2, n3⟩
/-- another list of its own is changed -/
theorem other (L : LT H H' f w tb d fd ws T nd ts) {r : Addr} {xs ys : List V} (hr : H' r = some (.lst ys)) (r0 : H r = none) (n1 : r ≠ f) (n2 : r ≠ w) (n3 : r ≠ tb) (n4 : r ∉ ts) : LT H (L2.upd H' r (.lst xs)) f w tb d fd ws T nd ts := by
  obtain ⟨fs, e1, e2⟩ := L.hf
  refine ⟨Same.updN L.same r0, L.f0, L.w0, L.t0, L.d0, L.fw, L.ft, L.wt, ⟨fs, by rw [upd_ne n1.symm]; exact e1, e2.keep fun a _ xs h => ?_⟩, by rw [upd_ne n2.symm]; exact L.hw, by rw [upd_ne n3.symm]; exact L.ht, L.hT.keep fun a ha xs h => ?_, L.hn, by rw [upd_ne (ne_of L.hd hr (fun z => nomatch z))]; exact L.hd⟩
  · rw [upd_ne (ne_of h hr (fun z => nomatch z))]; exact h
  · rw [upd_ne (fun e => n4 (by rw [← e]; exact ha))]; exact h
end LT
end My
/-! The listing of rules by words, as it lies. -/
namespace Mon
theorem flat_len_eq {α β : Type} (f : α → List β) (B : Nat) : ∀ l : List α, (∀ a ∈ l, (f a).length = B) → (l.flatMap f).length = l.length * B
  | [], _ => by simp
  | a :: l, h => by
    have h1 := flat_len_eq f B l fun b hb => h b (List.mem_cons_of_mem _ hb)
    have h2 := h a List.mem_cons_self
    rw [List.flatMap_cons, List.length_append, List.length_cons, Nat.add_mul]
    omega
theorem wl_len (m : Nat) : ∀ t, (wl m t).length = m ^ t
  | 0 => rfl
  | t + 1 => by
    unfold wl
    rw [flat_len_eq _ m _ (fun a _ => by simp), wl_len m t, Nat.pow_succ]
/-- the next layer so far -/
def lU (m : Nat) (ws : List (List Nat)) (i j : Nat) : List (List Nat) := ((ws.take i).flatMap fun w => (List.range m).map fun l => w ++ [97 + l]) ++ (List.range j).map fun l => ws.getD i [] ++ [97 + l]
theorem lU_len (m : Nat) (ws : List (List Nat)) (i j : Nat) : (lU m ws i j).length ≤ ws.length * m + j := by
  unfold lU
  rw [List.length_append, flat_len_eq _ m _ (fun a _ => by simp), List.length_map, List.length_range, List.length_take]
  have : min i ws.length * m ≤ ws.length * m := Nat.mul_le_mul_right m (Nat.min_le_right _ _)
  omega
theorem lU_succ (m : Nat) (ws : List (List Nat)) (i j : Nat) : lU m ws i (j + 1) = lU m ws i j ++ [ws.getD i [] ++ [97 + j]] := by
  unfold lU
  rw [List.range_succ, List.map_append, List.append_assoc]
  rfl
theorem take_snoc {α : Type} {l : List α} {i : Nat} (d : α) (h : i < l.length) : l.take (i + 1) = l.take i ++ [l.getD i d] := by
  rw [List.take_succ, List.getD_eq_getElem?_getD, List.getElem?_eq_getElem h]; rfl
theorem lU_row {m : Nat} {ws : List (List Nat)} {i : Nat} (h : i < ws.length) : lU m ws i m = lU m ws (i + 1) 0 := by
  unfold lU
  rw [take_snoc [] h, List.flatMap_append]
  simp
theorem lU_all {m t : Nat} : lU m (wl m t) (wl m t).length 0 = wl m (t + 1) := by
  unfold lU
  rw [List.take_length]
  simp [wl]
section
variable {T : Tab} {m N : Nat}
/-- the pairs so far -/
def byU (T : Tab) (m N t i : Nat) : List (List Nat × List Nat) := byW T m N t ++ (((wl m (t + 1)).take i).filter fun w => decide (PP T m N w)).map fun w => (w, W T m N (run T 0 w))
theorem byU_zero {t : Nat} : byU T m N t 0 = byW T m N t := by unfold byU; simp
theorem byU_all {t : Nat} : byU T m N t (wl m (t + 1)).length = byW T m N (t + 1) := by
  unfold byU byW
  rw [List.take_length, List.range_succ, List.flatMap_append]
  simp
theorem byU_yes {t i : Nat} (h : i < (wl m (t + 1)).length) (p : PP T m N ((wl m (t + 1)).getD i [])) : byU T m N t (i + 1) = byU T m N t i ++ [((wl m (t + 1)).getD i [], W T m N (run T 0 ((wl m (t + 1)).getD i [])))] := by
  unfold byU
  rw [take_snoc [] h, List.filter_append, List.map_append, List.append_assoc]
  generalize (wl m (t + 1)).getD i [] = x at *
  simp [p]
theorem byU_no {t i : Nat} (h : i < (wl m (t + 1)).length) (p : ¬ PP T m N ((wl m (t + 1)).getD i [])) : byU T m N t (i + 1) = byU T m N t i := by
  unfold byU
  rw [take_snoc [] h, List.filter_append, List.map_append]
  generalize (wl m (t + 1)).getD i [] = x at *
  simp [p]
theorem byW_len {t : Nat} (B : Nat) (hB : ∀ k, k < t → m ^ (k + 1) ≤ B) : (byW T m N t).length ≤ t * B := by
  have h := flat_len (fun t => ((wl m (t + 1)).filter fun w => decide (PP T m N w)).map fun w => (w, W T m N (run T 0 w))) B (List.range t) fun n hn => by
    rw [List.length_map]
    refine Nat.le_trans (List.length_filter_le _ _) ?_
    rw [wl_len]
    exact hB n (List.mem_range.mp hn)
  rw [List.length_range] at h
  exact h
theorem byU_len {t i : Nat} (B : Nat) (hB : ∀ k, k < t + 1 → m ^ (k + 1) ≤ B) : (byU T m N t i).length ≤ (t + 1) * B := by
  unfold byU
  rw [List.length_append, List.length_map]
  have h1 := byW_len (T := T) (m := m) (N := N) (t := t) B fun k hk => hB k (by omega)
  have h2 := List.length_filter_le (fun w => decide (PP T m N w)) ((wl m (t + 1)).take i)
  rw [List.length_take, wl_len] at h2
  have h3 := hB t (Nat.lt_succ_self _)
  rw [Nat.add_mul]
  have h4 : min i (m ^ (t + 1)) ≤ m ^ (t + 1) := Nat.min_le_right _ _
  omega
end
end Mon
namespace My
open PySem PySem.Spec L2 SX Mon
open PyProof.Rows hiding St
theorem Same.nn {H H' : Hp} {a : Addr} (s : Same H H') (n : H' a = none) : H a = none := by
  cases e : H a with
  | none => rfl
  | some o => rw [s _ _ e] at n; cases n
theorem inV_str {x : List Nat} : ∀ ws : List (List Nat), inV (.str (S x)) (txV ws) = decide (x ∈ ws)
  | [] => rfl
  | n :: ns => by
    show (eqV (.str (S n)) (.str (S x)) || inV (.str (S x)) (txV ns)) = _
    rw [inV_str ns]
    have e : eqV (.str (S n)) (.str (S x)) = decide (n = x) := by
      unfold eqV
      by_cases e : n = x
      · subst e; simp
      · have e2 : ¬ S n = S x := fun z => e (S_inj z)
        simp [e, e2]
    rw [e]
    by_cases h : x = n
    · subst h; simp
    · have h2 : ¬ n = x := fun z => h z.symm
      simp [h, h2]
theorem flat_strs (ws : List (List Nat)) : (txV ws).all flatV = true := by
  rw [List.all_eq_true]
  intro v hv
  obtain ⟨n, _, rfl⟩ := List.mem_map.mp hv
  rfl
theorem rd_notInS {K : PySem.W.Frag} {H : Hp} {Q : VK} {p : Addr} {x : List Nat} {ws : List (List Nat)} (h : SqL K H p (txV ws)) (q : Q (.bl (!decide (x ∈ ws))) H) : rIn K true (.str (S x)) (.ref p) H Q := ⟨p, _, rfl, .inl h, rfl, flat_strs ws, by rw [if_pos rfl, inV_str]; exact q⟩
/-! ### layers: words with what they do -/
section
variable {rows : Tab} {sz : Nat}
def LYs (rows : Tab) (sz : Nat) (H : Hp) (as : List Addr) (ws : List (List Nat)) : Prop := as.length = ws.length ∧ ∀ (i : Nat) (a : Addr) (u : List Nat), as[i]? = some a → ws[i]? = some u → ∃ b, H a = some (.tup [.str (S u), .ref b]) ∧ H b = some (.tup (rowV (Done.act rows sz u)))
def LY (rows : Tab) (sz : Nat) (H : Hp) (p : Addr) (ws : List (List Nat)) : Prop := ∃ as, H p = some (.lst (refs as)) ∧ LYs rows sz H as ws
theorem LYs.keep {H H' : Hp} {as : List Addr} {ws : List (List Nat)} (h : LYs rows sz H as ws) (k : ∀ a xs, H a = some (.tup xs) → H' a = some (.tup xs)) : LYs rows sz H' as ws := ⟨h.1, fun i a u e1 e2 => let ⟨b, q1, q2⟩ := h.2 i a u e1 e2; ⟨b, k _ _ q1, k _ _ q2⟩⟩
theorem LY.kq {H H' : Hp} {p : Addr} {ws : List (List Nat)} (h : LY rows sz H p ws) (k : Kq H H') : LY rows sz H' p ws := let ⟨as, h1, h2⟩ := h; ⟨as, k.1 _ _ h1, h2.keep k.2⟩
theorem LYs.snoc {H : Hp} {as : List Addr} {ws : List (List Nat)} {a b : Addr} {u : List Nat} (h : LYs rows sz H as ws) (q1 : H a = some (.tup [.str (S u), .ref b])) (q2 : H b = some (.tup (rowV (Done.act rows sz u)))) : LYs rows sz H (as ++ [a]) (ws ++ [u]) := by
  refine ⟨by simp [h.1], fun i c s e1 e2 => ?_⟩
  have hl := h.1
  by_cases hi : i < as.length
  · rw [List.getElem?_append_left hi] at e1
    rw [List.getElem?_append_left (by omega)] at e2
    exact h.2 i c s e1 e2
  · have hi2 : i = as.length := by
      have := (List.getElem?_eq_some_iff.mp e1).1
      simp at this; omega
    subst hi2
    rw [List.getElem?_append_right (Nat.le_refl _), Nat.sub_self] at e1
    cases e1
    rw [List.getElem?_append_right (by omega), show as.length - ws.length = 0 by omega] at e2
    cases e2
    exact ⟨b, q1, q2⟩
/-- one word more -/
theorem LY.snoc {H : Hp} {p a b : Addr} {ws : List (List Nat)} {u : List Nat} (h : LY rows sz H p ws) (q1 : H a = some (.tup [.str (S u), .ref b])) (q2 : H b = some (.tup (rowV (Done.act rows sz u)))) : ∃ xs, H p = some (.lst xs) ∧ xs.length = ws.length ∧ LY rows sz (L2.upd H p (.lst (xs ++ [.ref a]))) p (ws ++ [u]) := by
  obtain ⟨as, h1, h2⟩ := h
  refine ⟨refs as, h1, by rw [refs_len, h2.1], as ++ [a], by rw [upd_same, refs_snoc], (h2.snoc q1 q2).keep fun c xs e => ?_⟩
  rw [upd_ne (ne_of e h1 (fun z => nomatch z))]; exact e
/-- another list changes -/
theorem LY.other {H : Hp} {p r : Addr} {ws : List (List Nat)} {xs ys : List V} (h : LY rows sz H p ws) (hr : H r = some (.lst xs)) (n : p ≠ r) : LY rows sz (L2.upd H r (.lst ys)) p ws := by
  obtain ⟨as, h1, h2⟩ := h
  refine ⟨as, by rw [upd_ne n]; exact h1, h2.keep fun c xs e => ?_⟩
  rw [upd_ne (ne_of e hr (fun z => nomatch z))]; exact e
theorem Prs.other {H : Hp} {p r : Addr} {bs : List (List Nat × List Nat)} {xs ys : List V} (h : Prs H p bs) (hr : H r = some (.lst xs)) (n : p ≠ r) : Prs (L2.upd H r (.lst ys)) p bs := by
  obtain ⟨as, h1, h2, h3⟩ := h
  refine ⟨as, by rw [upd_ne n]; exact h1, h2, fun i a b e1 e2 => ?_⟩
  have := h3 i a b e1 e2
  rw [upd_ne (ne_of this hr (fun z => nomatch z))]; exact this
/-- one pair more -/
theorem Prs.snoc {H : Hp} {p a : Addr} {bs : List (List Nat × List Nat)} {b : List Nat × List Nat} (h : Prs H p bs) (q : H a = some (.tup [.str (S b.1), .str (S b.2)])) : ∃ xs, H p = some (.lst xs) ∧ xs.length = bs.length ∧ Prs (L2.upd H p (.lst (xs ++ [.ref a]))) p (bs ++ [b]) := by
  obtain ⟨as, h1, h2, h3⟩ := id h
  have hk : ∀ c ys, H c = some (.tup ys) → (L2.upd H p (.lst (refs as ++ [.ref a]))) c = some (.tup ys) := fun c ys e => by rw [upd_ne (ne_of e h1 (fun z => nomatch z))]; exact e
  obtain ⟨cs, c1, c2, c3⟩ := prs_snoc (q := a) (b := b) (H' := L2.upd H p (.lst (refs as ++ [.ref a]))) h (hk _ _ q) hk
  have e : refs cs = refs as := by rw [h1] at c1; exact (HO.lst.inj (Option.some.inj c1)).symm
  exact ⟨refs as, h1, by rw [refs_len, h2], c3 (by rw [upd_same, e])⟩
/-- the numbers of the maps -/
theorem keys_zip {H : Hp} {fs : List Addr} {F : Tab} (hl : fs.length = F.length) (h : ∀ (i : Nat) (a : Addr) (r : List Nat), fs[i]? = some a → F[i]? = some r → H a = some (.tup (rowV r))) (hn : F.Nodup) :
    ((((F.map kk).zip fs).map fun p => V.ref p.2) = refs fs) ∧ (((F.map kk).zip fs).map (·.1) = F.map kk) ∧ ((F.map kk).zip fs).length = F.length ∧ KeysAt H ((F.map kk).zip fs) ∧ (F.map kk).Nodup := by
  have e1 : ((F.map kk).zip fs).map (·.1) = F.map kk := List.map_fst_zip (by rw [List.length_map]; omega)
  have e2 : ((F.map kk).zip fs).map (·.2) = fs := List.map_snd_zip (by rw [List.length_map]; omega)
  refine ⟨?_, e1, by rw [List.length_zip, List.length_map]; omega, fun p hp => ?_, ?_⟩
  · unfold refs
    rw [← e2, List.map_map, e2]
    rfl
  · obtain ⟨i, hi⟩ := List.mem_iff_getElem?.mp hp
    rw [List.getElem?_zip_eq_some, List.getElem?_map] at hi
    obtain ⟨h1, h2⟩ := hi
    cases h3 : F[i]? with
    | none => rw [h3] at h1; cases h1
    | some r =>
      rw [h3] at h1
      have e : kk r = p.1 := Option.some.inj h1
      rw [← e, kk_map]
      exact h i p.2 r h2 h3
  · unfold List.Nodup
    rw [List.pairwise_map]
    exact List.Pairwise.imp (fun hab e => hab (kk_inj.mp e)) hn
end
end My
/-! list + list where the lists may be given ones. -/
namespace My
open PySem PySem.Spec L2 SX
open PyProof.Rows hiding St
def rCatK (K : PySem.W.Frag) : R2 := fun x y H Q => ∃ l b xs zs, x = .ref l ∧ y = .ref b ∧ SqL K H l xs ∧ SqL K H b zs ∧ xs.length + zs.length ≤ sizeLine ∧ ∀ p, H p = none → Q (.ref p) (L2.upd H p (.lst (xs ++ zs)))
theorem add_listsG {prog : Program} {w : World} {A : Around} {E : Value → Shared → Prop} {s : Shared} {l b : Addr} {vs ws : List Value} {Q : Value → Shared → Prop} (hl : s.heap.IsList l vs.toArray) (hb : s.heap.IsList b ws.toArray)
    (h : Q (.ref s.heap.objs.size) { s with heap := s.heap.push { cls := .type "list", data := .seq (vs ++ ws).toArray } })
    (hsz : vs.length + ws.length ≤ sizeLine) : wpAny (model prog w) A (binaryOp .Add (.ref l) (.ref b)) Q E s := by
  obtain ⟨⟨cls, dd, data, sl⟩, ho, hc, n, hd⟩ := id hl
  obtain ⟨⟨cls2, dd2, data2, sl2⟩, ho2, hc2, n2, hd2⟩ := id hb
  simp only at hc hd hc2 hd2
  subst hc hd hc2 hd2
  have e : vs.toArray ++ ws.toArray = (vs ++ ws).toArray := by simp
  refine PySem.concat_meets ⟨_, ho, rfl⟩ ⟨_, ho2, rfl⟩ PySem.noFill_list_add PySem.seq_list_add PySem.F.slot_list_add PySem.F.entry_list_add (PySem.F.args_list_add_2 _ _) (PyProof.Rows.list_addW l b vs.toArray ws.toArray n n2 dd dd2 sl sl2 (by simpa using hsz)) ⟨ho, ho2, ?_⟩
  rw [e]
  exact h
theorem op_catK {X : Cx} (K : PySem.W.Frag) (hK : X.K = K) : OpR X (binaryOp .Add) (rCatK K) := by
  subst hK
  intro pins s σ H x y v u Q I rx ry h
  obtain ⟨l, b, xs, zs, rfl, rfl, hH, hB, hz, q⟩ := h
  cases rx
  cases ry
  obtain ⟨its, r, pl, _⟩ := I.list hH
  obtain ⟨its2, r2, pl2, _⟩ := I.list hB
  refine add_listsG pl.isList pl2.isList ?_ (by rw [← r.length, ← r2.length]; exact hz)
  exact ⟨.ref _, _, I.lnew (t' := s.toks) (r.append r2) (by rw [List.length_append]; omega), rfl, q _ I.fresh⟩
theorem rd_catK {K : PySem.W.Frag} {H : Hp} {Q : VK} {l b : Addr} {xs zs : List V} (h1 : SqL K H l xs) (h2 : SqL K H b zs) (hl : xs.length + zs.length ≤ 100000) (q : ∀ p, H p = none → Q (.ref p) (L2.upd H p (.lst (xs ++ zs)))) : rCatK K (.ref l) (.ref b) H Q := ⟨l, b, xs, zs, rfl, rfl, h1, h2, sz hl, q⟩
end My
namespace Mon
/-! ### least words from one node: by going through nodes in order -/
def go (st : Nat → Nat → Nat) (one : Nat) (w : List Nat) : Nat := w.foldl (fun n c => st n (c - 97)) one
theorem go_snoc (st : Nat → Nat → Nat) (one : Nat) (w : List Nat) (c : Nat) : go st one (w ++ [c]) = st (go st one w) (c - 97) := by
  unfold go; rw [List.foldl_append]; rfl
/-- o is the least word of which P holds; none if there is none -/
def IsLP (P : List Nat → Prop) (m : Nat) (o : Option (List Nat)) : Prop :=
  (∀ w, o = some w → Lt m w ∧ P w ∧ ∀ v, Lt m v → P v → v = w ∨ slt w v) ∧ (o = none → ∀ v, Lt m v → ¬ P v)
theorem IsLP.uniq {P : List Nat → Prop} {m : Nat} {o p : Option (List Nat)} (h : IsLP P m o) (k : IsLP P m p) : o = p := by
  cases o with
  | none =>
    cases p with
    | none => rfl
    | some v => exact absurd (k.1 v rfl).2.1 (h.2 rfl v (k.1 v rfl).1)
  | some w =>
    cases p with
    | none => exact absurd (h.1 w rfl).2.1 (k.2 rfl w (h.1 w rfl).1)
    | some v =>
      obtain ⟨a1, a2, a3⟩ := h.1 w rfl
      obtain ⟨b1, b2, b3⟩ := k.1 v rfl
      rcases a3 v b1 b2 with e | e
      · rw [e]
      · rcases b3 w a1 a2 with e2 | e2
        · rw [e2]
        · exact absurd (slt_trans e e2) (slt_irr _)
/-- o is the least word that leads from one to x; none if there is none -/
abbrev IsLw (st : Nat → Nat → Nat) (m one x : Nat) (o : Option (List Nat)) : Prop := IsLP (fun w => go st one w = x) m o
abbrev Kw := List (Nat × List Nat)
def keys (kw : Kw) : List Nat := kw.map (·.1)
theorem mem_keys {kw : Kw} {x : Nat} : x ∈ keys kw ↔ ∃ p ∈ kw, p.1 = x := by unfold keys; rw [List.mem_map]
theorem keys_at {kw : Kw} {x : Nat} (h : x ∈ keys kw) : ∃ (i : Nat) (p : Nat × List Nat), kw[i]? = some p ∧ p.1 = x := by
  obtain ⟨p, hp, e⟩ := mem_keys.mp h
  obtain ⟨i, hi⟩ := List.mem_iff_getElem?.mp hp
  exact ⟨i, p, hi, e⟩
def add (st : Nat → Nat → Nat) (kw : Kw) (n : Nat) (u : List Nat) (l : Nat) : Kw := if st n l ∈ keys kw then kw else kw ++ [(st n l, u ++ [97 + l])]
structure Bf (st : Nat → Nat → Nat) (m one : Nat) (kw : Kw) (t l : Nat) : Prop where
  nd : (keys kw).Nodup
  wd : ∀ p ∈ kw, Lt m p.2 ∧ go st one p.2 = p.1
  so : (kw.map (·.2)).Pairwise slt
  hd : kw[0]? = some (one, [])
  cl : ∀ (i : Nat) (p : Nat × List Nat), kw[i]? = some p → ∀ c, c < m → (i < t ∨ (i = t ∧ c < l)) → st p.1 c ∈ keys kw
  mi : ∀ p ∈ kw, ∀ v, Lt m v → go st one v = p.1 → v = p.2 ∨ slt p.2 v
  fr : ∀ p ∈ kw, p.2 = [] ∨ ∃ (i : Nat) (q : Nat × List Nat) (c : Nat), kw[i]? = some q ∧ (i < t ∨ (i = t ∧ c < l)) ∧ p.2 = q.2 ++ [97 + c]
  ln : ∀ (i : Nat) (p : Nat × List Nat), kw[i]? = some p → p.2.length ≤ i
theorem slt_nil {v : List Nat} (h : v ≠ []) : slt [] v := .inl (by
  cases v with
  | nil => exact absurd rfl h
  | cons a v => simp)
theorem Bf.init (st : Nat → Nat → Nat) (m one : Nat) : Bf st m one [(one, [])] 0 0 := by
  refine ⟨List.pairwise_singleton _ _, fun p hp => ?_, List.pairwise_singleton _ _, rfl, fun i p _ c _ h => by omega, fun p hp v hv _ => ?_, fun p hp => ?_, fun i p h => ?_⟩
  · rw [List.mem_singleton.mp hp]; exact ⟨(fun c hc => by cases hc), rfl⟩
  · rw [List.mem_singleton.mp hp]
    by_cases e : v = []
    · exact .inl e
    · exact .inr (slt_nil e)
  · rw [List.mem_singleton.mp hp]; exact .inl rfl
  · rw [List.mem_singleton.mp (List.mem_of_getElem? h)]; exact Nat.zero_le _
section
variable {st : Nat → Nat → Nat} {m one : Nat} {kw : Kw} {t l : Nat}
theorem Bf.row (h : Bf st m one kw t m) : Bf st m one kw (t + 1) 0 :=
  ⟨h.nd, h.wd, h.so, h.hd, fun i p hi c hc e => h.cl i p hi c hc (by omega), h.mi, fun p hp => (h.fr p hp).imp id fun ⟨i, q, c, h1, h2, h3⟩ => ⟨i, q, c, h1, by omega, h3⟩, h.ln⟩
theorem so_at (h : (kw.map (·.2)).Pairwise slt) {i j : Nat} {p q : Nat × List Nat} (hi : kw[i]? = some p) (hj : kw[j]? = some q) (hij : i < j) : slt p.2 q.2 := by
  have h1 := List.getElem?_eq_some_iff.mp hi
  have h2 := List.getElem?_eq_some_iff.mp hj
  obtain ⟨a1, a2⟩ := h1
  obtain ⟨b1, b2⟩ := h2
  have h3 := List.pairwise_iff_getElem.mp h i j (by rw [List.length_map]; exact a1) (by rw [List.length_map]; exact b1) hij
  rw [List.getElem_map, List.getElem_map, a2, b2] at h3
  exact h3
/-- where a word leaves the known nodes -/
theorem leaves (h0 : one ∈ keys kw) : ∀ v, Lt m v → go st one v ∉ keys kw → ∃ (p q : List Nat) (c : Nat), c < m ∧ v = p ++ [97 + c] ++ q ∧ Lt m p ∧ go st one p ∈ keys kw ∧ st (go st one p) c ∉ keys kw := by
  refine rev_ind (fun _ h => absurd h0 h) fun w c ih hv hn => ?_
  have hw : Lt m w := fun x hx => hv x (by simp [hx])
  have hc := hv c (by simp)
  by_cases hk : go st one w ∈ keys kw
  · rw [go_snoc] at hn
    exact ⟨w, [], c - 97, by omega, by rw [show 97 + (c - 97) = c by omega]; simp, hw, hk, hn⟩
  · obtain ⟨p, q, d, h1, h2, h3, h4, h5⟩ := ih hw hk
    exact ⟨p, q ++ [c], d, h1, by rw [h2]; simp, h3, h4, h5⟩
theorem slt_pre {u v : List Nat} (q : List Nat) (h : v = u ∨ slt u v) : v ++ q = u ∨ slt u (v ++ q) := by
  by_cases e : q = []
  · rw [e, List.append_nil]; exact h
  · have h1 : 0 < q.length := List.length_pos_iff.mpr e
    refine .inr (.inl ?_)
    rw [List.length_append]
    rcases h with h | h | ⟨h, _⟩
    · rw [h]; omega
    · omega
    · omega
theorem Bf.one_mem (h : Bf st m one kw t l) : one ∈ keys kw := mem_keys.mpr ⟨_, List.mem_of_getElem? h.hd, rfl⟩
theorem Bf.step {n : Nat} {u : List Nat} (h : Bf st m one kw t l) (ht : kw[t]? = some (n, u)) (hl : l < m) : Bf st m one (add st kw n u l) t (l + 1) ∧ (add st kw n u l)[t]? = some (n, u) := by
  have hu := h.wd _ (List.mem_of_getElem? ht)
  unfold add
  by_cases hk : st n l ∈ keys kw
  · rw [if_pos hk]
    refine ⟨⟨h.nd, h.wd, h.so, h.hd, fun i p hi c hc e => ?_, h.mi, fun p hp => (h.fr p hp).imp id fun ⟨i, q, c, h1, h2, h3⟩ => ⟨i, q, c, h1, by omega, h3⟩, h.ln⟩, ht⟩
    by_cases e2 : i = t ∧ c = l
    · obtain ⟨rfl, rfl⟩ := e2
      rw [ht] at hi
      cases hi
      exact hk
    · exact h.cl i p hi c hc (by omega)
  · rw [if_neg hk]
    have hlen := (List.getElem?_eq_some_iff.mp ht).1
    have old : ∀ (i : Nat) (p : Nat × List Nat), kw[i]? = some p → (kw ++ [(st n l, u ++ [97 + l])])[i]? = some p := fun i p e => by
      rw [List.getElem?_append_left (List.getElem?_eq_some_iff.mp e).1]; exact e
    have back : ∀ (i : Nat) (p : Nat × List Nat), (kw ++ [(st n l, u ++ [97 + l])])[i]? = some p → kw[i]? = some p ∨ (i = kw.length ∧ p = (st n l, u ++ [97 + l])) := fun i p e => by
      by_cases hi : i < kw.length
      · rw [List.getElem?_append_left hi] at e; exact .inl e
      · have hi2 : i = kw.length := by
          have := (List.getElem?_eq_some_iff.mp e).1
          simp at this; omega
        subst hi2
        rw [List.getElem?_append_right (Nat.le_refl _), Nat.sub_self] at e
        exact .inr ⟨rfl, (Option.some.inj e).symm⟩
    have ek : keys (kw ++ [(st n l, u ++ [97 + l])]) = keys kw ++ [st n l] := by unfold keys; rw [List.map_append]; rfl
    refine ⟨⟨?_, fun p hp => ?_, ?_, old _ _ h.hd, fun i p hi c hc e => ?_, fun p hp v hv e => ?_, fun p hp => ?_, fun i p hi => ?_⟩, old _ _ ht⟩
    · rw [ek, List.nodup_append]
      refine ⟨h.nd, List.pairwise_singleton _ _, fun a ha b hb e => ?_⟩
      rw [List.mem_singleton.mp hb] at e
      exact hk (e ▸ ha)
    · rcases List.mem_append.mp hp with hp | hp
      · exact h.wd p hp
      · rw [List.mem_singleton.mp hp]
        refine ⟨fun c hc => ?_, by rw [go_snoc, hu.2, show 97 + l - 97 = l by omega]⟩
        rcases List.mem_append.mp hc with hc | hc
        · exact hu.1 c hc
        · rw [List.mem_singleton.mp hc]; omega
    · rw [List.map_append, List.pairwise_append]
      refine ⟨h.so, List.pairwise_singleton _ _, fun a ha b hb => ?_⟩
      obtain ⟨p, hp, rfl⟩ := List.mem_map.mp ha
      rw [List.mem_singleton.mp hb]
      show slt p.2 (u ++ [97 + l])
      rcases h.fr p hp with e | ⟨i, q, c, h1, h2, h3⟩
      · rw [e]; exact slt_nil (by simp)
      · rw [h3]
        rcases h2 with h2 | ⟨rfl, h2⟩
        · exact slt_app _ _ (so_at h.so h1 ht h2)
        · rw [ht] at h1
          cases h1
          exact slt_last _ (by omega)
    · rw [ek]
      rcases back i p hi with hi2 | ⟨rfl, rfl⟩
      · by_cases e2 : i = t ∧ c = l
        · obtain ⟨rfl, rfl⟩ := e2
          rw [ht] at hi2
          cases hi2
          exact List.mem_append_right _ (List.mem_singleton.mpr rfl)
        · exact List.mem_append_left _ (h.cl i p hi2 c hc (by omega))
      · omega
    · rcases List.mem_append.mp hp with hp | hp
      · exact h.mi p hp v hv e
      · rw [List.mem_singleton.mp hp] at e ⊢
        obtain ⟨p', q, c, h1, h2, h3, h4, h5⟩ := leaves (st := st) (m := m) h.one_mem v hv (by rw [e]; exact hk)
        obtain ⟨i, pr, hi, ei⟩ := keys_at h4
        have hmi := h.mi pr (List.mem_of_getElem? hi) p' h3 ei.symm
        have hlate : ¬ (i < t ∨ (i = t ∧ c < l)) := fun z => h5 (by rw [← ei]; exact h.cl i pr hi c h1 z)
        rw [h2]
        refine slt_pre q ?_
        by_cases hit : i = t
        · subst hit
          rw [ht] at hi
          cases hi
          rcases hmi with hmi | hmi
          · rw [hmi]
            by_cases hcl : c = l
            · rw [hcl]; exact .inl rfl
            · exact .inr (slt_last _ (by omega))
          · exact .inr (slt_app _ _ hmi)
        · have hs := so_at h.so ht hi (by omega)
          rcases hmi with hmi | hmi
          · rw [hmi]; exact .inr (slt_app _ _ hs)
          · exact .inr (slt_app _ _ (slt_trans hs hmi))
    · rcases List.mem_append.mp hp with hp | hp
      · exact (h.fr p hp).imp id fun ⟨i, q, c, h1, h2, h3⟩ => ⟨i, q, c, old _ _ h1, by omega, h3⟩
      · rw [List.mem_singleton.mp hp]
        exact .inr ⟨t, (n, u), l, old _ _ ht, by omega, rfl⟩
    · rcases back i p hi with hi | ⟨rfl, rfl⟩
      · exact h.ln i p hi
      · have := h.ln t _ ht
        rw [List.length_append]
        show u.length + 1 ≤ kw.length
        simp at this
        omega
/-- a known node -/
theorem Bf.known {x : Nat} {w : List Nat} (h : Bf st m one kw t l) (k : (x, w) ∈ kw) : IsLw st m one x (some w) :=
  ⟨fun v e => by cases e; exact ⟨(h.wd _ k).1, (h.wd _ k).2, h.mi _ k⟩, fun e => by cases e⟩
/-- all is gone through -/
theorem Bf.unknown {x : Nat} (h : Bf st m one kw kw.length 0) (k : x ∉ keys kw) : IsLw st m one x none := by
  refine ⟨(fun v e => by cases e), fun _ v hv e => ?_⟩
  obtain ⟨p, q, c, h1, h2, h3, h4, h5⟩ := leaves (st := st) (m := m) h.one_mem v hv (by rw [e]; exact k)
  obtain ⟨i, pr, hi, ei⟩ := keys_at h4
  exact h5 (by rw [← ei]; exact h.cl i pr hi c h1 (.inl (List.getElem?_eq_some_iff.mp hi).1))
theorem Bf.len_le {N : Nat} (h : Bf st m one kw t l) (h1 : one < N) (hs : ∀ n c, n < N → c < m → st n c < N) : kw.length ≤ N ∧ ∀ p ∈ kw, p.1 < N := by
  have hgo : ∀ w, Lt m w → go st one w < N := by
    refine rev_ind (fun _ => h1) fun w c ih hw => ?_
    rw [go_snoc]
    have hc := hw c (by simp)
    exact hs _ _ (ih fun x hx => hw x (by simp [hx])) (by omega)
  have hp : ∀ p ∈ kw, p.1 < N := fun p hp => by
    obtain ⟨a, b⟩ := h.wd p hp
    rw [← b]; exact hgo _ a
  refine ⟨?_, hp⟩
  have h2 := nodup_le N (keys kw) h.nd fun x hx => by
    obtain ⟨p, q, rfl⟩ := mem_keys.mp hx
    exact hp p q
  unfold keys at h2
  rwa [List.length_map] at h2
end
end Mon
namespace Mon
section
variable {st : Nat → Nat → Nat} {m one : Nat}
/-- all nodes that are reached can be gone through -/
theorem Bf.full {N : Nat} (h1 : one < N) (hs : ∀ n c, n < N → c < m → st n c < N) : ∀ (k : Nat) (kw : Kw) (t : Nat), Bf st m one kw t 0 → t ≤ kw.length → N - t ≤ k → ∃ kw', Bf st m one kw' kw'.length 0
  | 0, kw, t, h, ht, hk => by
    have hl := (h.len_le h1 hs).1
    have e : t = kw.length := by omega
    subst e
    exact ⟨kw, h⟩
  | k + 1, kw, t, h, ht, hk => by
    by_cases e : t = kw.length
    · subst e; exact ⟨kw, h⟩
    · have hlt : t < kw.length := by omega
      have hrow : ∀ l, l ≤ m → ∃ kw', Bf st m one kw' t l ∧ kw'[t]? = some kw[t] ∧ t < kw'.length := fun l => by
        induction l with
        | zero => exact fun _ => ⟨kw, h, List.getElem?_eq_getElem hlt, hlt⟩
        | succ l ih =>
          intro hl
          obtain ⟨kw', a, b, _⟩ := ih (by omega)
          obtain ⟨c, d⟩ := a.step (n := kw[t].1) (u := kw[t].2) b (by omega)
          exact ⟨_, c, d, (List.getElem?_eq_some_iff.mp d).1⟩
      obtain ⟨kw', a, _, b⟩ := hrow m (Nat.le_refl _)
      exact Bf.full h1 hs k kw' (t + 1) a.row b (by omega)
theorem short_of {N : Nat} (h1 : one < N) (hs : ∀ n c, n < N → c < m → st n c < N) {v : List Nat} (hv : Lt m v) : ∃ w, Lt m w ∧ go st one w = go st one v ∧ w.length < N := by
  obtain ⟨kw, h⟩ := Bf.full h1 hs N _ 0 (Bf.init st m one) (Nat.zero_le _) (by omega)
  by_cases k : go st one v ∈ keys kw
  · obtain ⟨i, p, hi, e⟩ := keys_at k
    have hp := h.wd p (List.mem_of_getElem? hi)
    have hl := h.ln i p hi
    have := (List.getElem?_eq_some_iff.mp hi).1
    have := (h.len_le h1 hs).1
    exact ⟨p.2, hp.1, by rw [hp.2, e], by omega⟩
  · exact absurd rfl ((h.unknown k).2 rfl v hv)
/-! ### layer by layer -/
def longer (st : Nat → Nat → Nat) (m : Nat) (ly : Kw) : Kw := ly.flatMap fun p => (List.range m).map fun l => (st p.1 l, p.2 ++ [97 + l])
structure Ls (st : Nat → Nat → Nat) (m one : Nat) (kw ly : Kw) (t : Nat) : Prop where
  nd : (keys kw).Nodup
  wd : ∀ p ∈ kw, Lt m p.2 ∧ go st one p.2 = p.1
  mi : ∀ p ∈ kw, ∀ v, Lt m v → go st one v = p.1 → v = p.2 ∨ slt p.2 v
  ls : ∀ p, p ∈ ly ↔ p ∈ kw ∧ p.2.length = t
  lb : ∀ p ∈ kw, p.2.length ≤ t
  so : (ly.map (·.2)).Pairwise slt
  re : ∀ v, Lt m v → v.length ≤ t → go st one v ∈ keys kw
theorem Ls.init (st : Nat → Nat → Nat) (m one : Nat) : Ls st m one [(one, [])] [(one, [])] 0 := by
  refine ⟨List.pairwise_singleton _ _, fun p hp => ?_, fun p hp v hv _ => ?_, fun p => ⟨fun h => ⟨h, ?_⟩, fun h => h.1⟩, fun p hp => ?_, List.pairwise_singleton _ _, fun v hv hl => ?_⟩
  · rw [List.mem_singleton.mp hp]; exact ⟨(fun c hc => by cases hc), rfl⟩
  · rw [List.mem_singleton.mp hp]
    by_cases e : v = []
    · exact .inl e
    · exact .inr (slt_nil e)
  · rw [List.mem_singleton.mp h]; rfl
  · rw [List.mem_singleton.mp hp]; exact Nat.le_refl _
  · have e : v = [] := List.length_eq_zero_iff.mp (by omega)
    subst e
    exact mem_keys.mpr ⟨_, List.mem_singleton.mpr rfl, rfl⟩
theorem longer_so {ly : Kw} (h : (ly.map (·.2)).Pairwise slt) : ((longer st m ly).map (·.2)).Pairwise slt := by
  unfold longer
  rw [List.pairwise_map] at h ⊢
  rw [List.pairwise_flatMap]
  refine ⟨fun p _ => ?_, h.imp fun {a b} hab x hx y hy => ?_⟩
  · rw [List.pairwise_map]
    exact List.pairwise_lt_range.imp fun h => slt_last _ (by omega)
  · obtain ⟨l, _, rfl⟩ := List.mem_map.mp hx
    obtain ⟨l', _, rfl⟩ := List.mem_map.mp hy
    exact slt_app _ _ hab
/-- amid a turn -/
structure Lm (st : Nat → Nat → Nat) (m one : Nat) (kw ly nx : Kw) (t i : Nat) : Prop where
  nd : (keys (kw ++ nx)).Nodup
  sub : ∀ p ∈ nx, p ∈ (longer st m ly).take i
  so : (nx.map (·.2)).Pairwise slt
  cov : ∀ p ∈ (longer st m ly).take i, p.1 ∈ keys (kw ++ nx)
  mi : ∀ p ∈ nx, ∀ v, Lt m v → go st one v = p.1 → v = p.2 ∨ slt p.2 v
variable {kw ly nx : Kw} {t i : Nat}
theorem Ls.begin (h : Ls st m one kw ly t) : Lm st m one kw ly [] t 0 :=
  ⟨by rw [List.append_nil]; exact h.nd, (fun p hp => by cases hp), List.Pairwise.nil, (fun p hp => by cases hp), (fun p hp => by cases hp)⟩
theorem Ls.long (h : Ls st m one kw ly t) {p : Nat × List Nat} (hp : p ∈ longer st m ly) : Lt m p.2 ∧ go st one p.2 = p.1 ∧ p.2.length = t + 1 := by
  unfold longer at hp
  obtain ⟨q, hq, hp⟩ := List.mem_flatMap.mp hp
  obtain ⟨l, hl, rfl⟩ := List.mem_map.mp hp
  have hl := List.mem_range.mp hl
  obtain ⟨h1, h2⟩ := (h.ls q).mp hq
  obtain ⟨h3, h4⟩ := h.wd q h1
  refine ⟨fun c hc => ?_, by rw [go_snoc, h4, show 97 + l - 97 = l by omega], by simp [h2]⟩
  rcases List.mem_append.mp hc with hc | hc
  · exact h3 c hc
  · rw [List.mem_singleton.mp hc]; omega
theorem keys_app (a b : Kw) : keys (a ++ b) = keys a ++ keys b := by unfold keys; rw [List.map_append]
theorem Lm.old {p : Nat × List Nat} (b : Ls st m one kw ly t) (h : Lm st m one kw ly nx t i) (hi : (longer st m ly)[i]? = some p) (k : p.1 ∈ keys (kw ++ nx)) : Lm st m one kw ly nx t (i + 1) := by
  have e : (longer st m ly).take (i + 1) = (longer st m ly).take i ++ [p] := by rw [List.take_succ, hi]; rfl
  refine ⟨h.nd, fun q hq => by rw [e]; exact List.mem_append_left _ (h.sub q hq), h.so, fun q hq => ?_, h.mi⟩
  rw [e] at hq
  rcases List.mem_append.mp hq with hq | hq
  · exact h.cov q hq
  · rw [List.mem_singleton.mp hq]; exact k
theorem Lm.new {p : Nat × List Nat} (b : Ls st m one kw ly t) (h : Lm st m one kw ly nx t i) (hi : (longer st m ly)[i]? = some p) (k : p.1 ∉ keys (kw ++ nx)) : Lm st m one kw ly (nx ++ [p]) t (i + 1) := by
  have e : (longer st m ly).take (i + 1) = (longer st m ly).take i ++ [p] := by rw [List.take_succ, hi]; rfl
  have hpl := b.long (List.mem_of_getElem? hi)
  have so := longer_so (st := st) (m := m) b.so
  have before : ∀ q ∈ (longer st m ly).take i, slt q.2 p.2 := fun q hq => by
    obtain ⟨j, hj⟩ := List.mem_iff_getElem?.mp hq
    have hji : j < i := by have := (List.getElem?_eq_some_iff.mp hj).1; simp at this; omega
    rw [List.getElem?_take_of_lt hji] at hj
    exact so_at so hj hi hji
  refine ⟨?_, fun q hq => ?_, ?_, fun q hq => ?_, fun q hq v hv hg => ?_⟩
  · rw [← List.append_assoc, keys_app, List.nodup_append]
    refine ⟨h.nd, List.pairwise_singleton _ _, fun x hx y hy e => ?_⟩
    have hy : y = p.1 := List.mem_singleton.mp hy
    rw [hy] at e
    exact k (e ▸ hx)
  · rw [e]
    rcases List.mem_append.mp hq with hq | hq
    · exact List.mem_append_left _ (h.sub q hq)
    · exact List.mem_append_right _ hq
  · rw [List.map_append, List.pairwise_append]
    refine ⟨h.so, List.pairwise_singleton _ _, fun x hx y hy => ?_⟩
    obtain ⟨q, hq, rfl⟩ := List.mem_map.mp hx
    rw [List.mem_singleton.mp hy]
    exact before q (h.sub q hq)
  · rw [e] at hq
    rw [← List.append_assoc, keys_app]
    rcases List.mem_append.mp hq with hq | hq
    · exact List.mem_append_left _ (h.cov q hq)
    · rw [List.mem_singleton.mp hq]; exact List.mem_append_right _ (List.mem_singleton.mpr rfl)
  · rcases List.mem_append.mp hq with hq | hq
    · exact h.mi q hq v hv hg
    · rw [List.mem_singleton.mp hq] at hg ⊢
      have hk : go st one v ∉ keys kw := fun z => k (by rw [← hg, keys_app]; exact List.mem_append_left _ z)
      have hlv : ¬ v.length ≤ t := fun z => hk (b.re v hv z)
      by_cases hlong : v.length = t + 1
      · rcases List.eq_nil_or_concat v with rfl | ⟨v', c, rfl⟩
        · simp at hlong
        · rw [List.concat_eq_append] at *
          have hv' : Lt m v' := fun x hx => hv x (by simp [hx])
          have hc := hv c (by simp)
          have hl' : v'.length = t := by simpa using hlong
          obtain ⟨y, hy, ey⟩ := mem_keys.mp (b.re v' hv' (by omega))
          have hwy := b.wd y hy
          have hgy : go st one (y.2 ++ [c]) = p.1 := by rw [go_snoc, hwy.2, ey, ← go_snoc st, hg]
          have hlty : Lt m (y.2 ++ [c]) := fun x hx => by
            rcases List.mem_append.mp hx with hx | hx
            · exact hwy.1 x hx
            · rw [List.mem_singleton.mp hx]; exact hc
          have hyl : y.2.length = t := by
            have h1 := b.lb y hy
            by_cases e2 : y.2.length = t
            · exact e2
            · exact absurd (b.re (y.2 ++ [c]) hlty (by simp; omega)) (by rw [hgy, ← hg]; exact hk)
          have hin : (st y.1 (c - 97), y.2 ++ [97 + (c - 97)]) ∈ longer st m ly := by
            unfold longer
            exact List.mem_flatMap.mpr ⟨y, (b.ls y).mpr ⟨hy, hyl⟩, List.mem_map.mpr ⟨c - 97, List.mem_range.mpr (by omega), rfl⟩⟩
          rw [show 97 + (c - 97) = c by omega] at hin
          have hst : st y.1 (c - 97) = p.1 := by rw [← hwy.2, ← go_snoc st]; exact hgy
          rw [hst] at hin
          have hvy : v' ++ [c] = y.2 ++ [c] ∨ slt (y.2 ++ [c]) (v' ++ [c]) := by
            rcases b.mi y hy v' hv' ey.symm with e3 | e3
            · rw [e3]; exact .inl rfl
            · exact .inr (slt_app _ _ e3)
          have hpy : y.2 ++ [c] = p.2 ∨ slt p.2 (y.2 ++ [c]) := by
            obtain ⟨j, hj⟩ := List.mem_iff_getElem?.mp hin
            by_cases hji : j < i
            · have : (p.1, y.2 ++ [c]) ∈ (longer st m ly).take i := List.mem_iff_getElem?.mpr ⟨j, by rw [List.getElem?_take_of_lt hji]; exact hj⟩
              exact absurd (h.cov _ this) k
            · by_cases hj2 : j = i
              · subst hj2
                rw [hi] at hj
                have := Option.some.inj hj
                rw [this]
                exact .inl rfl
              · exact .inr (so_at so hi hj (by omega))
          rcases hvy with e4 | e4
          · rw [e4]; exact hpy
          · rcases hpy with e5 | e5
            · rw [← e5]; exact .inr e4
            · exact .inr (slt_trans e5 e4)
      · exact .inr (.inl (by rw [hpl.2.2]; omega))
theorem Lm.done (b : Ls st m one kw ly t) (h : Lm st m one kw ly nx t (longer st m ly).length) : Ls st m one (kw ++ nx) nx (t + 1) := by
  have hnx : ∀ p ∈ nx, p ∈ longer st m ly := fun p hp => by have := h.sub p hp; rwa [List.take_length] at this
  refine ⟨h.nd, fun p hp => ?_, fun p hp => ?_, fun p => ⟨fun hp => ⟨List.mem_append_right _ hp, (b.long (hnx p hp)).2.2⟩, fun ⟨hp, hl⟩ => ?_⟩, fun p hp => ?_, h.so, fun v hv hl => ?_⟩
  · rcases List.mem_append.mp hp with hp | hp
    · exact b.wd p hp
    · exact ⟨(b.long (hnx p hp)).1, (b.long (hnx p hp)).2.1⟩
  · rcases List.mem_append.mp hp with hp | hp
    · exact b.mi p hp
    · exact h.mi p hp
  · rcases List.mem_append.mp hp with hp | hp
    · have := b.lb p hp; omega
    · exact hp
  · rcases List.mem_append.mp hp with hp | hp
    · have := b.lb p hp; omega
    · exact Nat.le_of_eq (b.long (hnx p hp)).2.2
  · by_cases hl2 : v.length ≤ t
    · rw [keys_app]; exact List.mem_append_left _ (b.re v hv hl2)
    · rcases List.eq_nil_or_concat v with rfl | ⟨v', c, rfl⟩
      · simp at hl2
      · rw [List.concat_eq_append] at *
        have hv' : Lt m v' := fun x hx => hv x (by simp [hx])
        have hc := hv c (by simp)
        have hl' : v'.length = t := by simp at hl hl2; omega
        obtain ⟨y, hy, ey⟩ := mem_keys.mp (b.re v' hv' (by omega))
        have hwy := b.wd y hy
        have hgy : go st one (y.2 ++ [c]) = go st one (v' ++ [c]) := by rw [go_snoc, hwy.2, ey, ← go_snoc st]
        have hlty : Lt m (y.2 ++ [c]) := fun x hx => by
          rcases List.mem_append.mp hx with hx | hx
          · exact hwy.1 x hx
          · rw [List.mem_singleton.mp hx]; exact hc
        by_cases e2 : y.2.length = t
        · have hin : (st y.1 (c - 97), y.2 ++ [97 + (c - 97)]) ∈ longer st m ly := by
            unfold longer
            exact List.mem_flatMap.mpr ⟨y, (b.ls y).mpr ⟨hy, e2⟩, List.mem_map.mpr ⟨c - 97, List.mem_range.mpr (by omega), rfl⟩⟩
          have := h.cov _ (by rw [List.take_length]; exact hin)
          rw [← hgy, go_snoc, hwy.2]
          exact this
        · have h1 := b.lb y hy
          rw [← hgy, keys_app]
          exact List.mem_append_left _ (b.re _ hlty (by simp; omega))
/-- behind as many turns as there are nodes all is known -/
theorem Ls.known {N x : Nat} {w : List Nat} (h : Ls st m one kw ly t) (k : (x, w) ∈ kw) : IsLw st m one x (some w) :=
  ⟨(fun v e => by cases e; exact ⟨(h.wd _ k).1, (h.wd _ k).2, h.mi _ k⟩), (fun e => by cases e)⟩
theorem Ls.unknown {N x : Nat} (h1 : one < N) (hs : ∀ n c, n < N → c < m → st n c < N) (h : Ls st m one kw ly N) (k : x ∉ keys kw) : IsLw st m one x none := by
  refine ⟨(fun v e => by cases e), fun _ v hv e => ?_⟩
  obtain ⟨w, a, b, c⟩ := short_of h1 hs hv
  exact k (by rw [← e, ← b]; exact h.re w a (by omega))
end
end Mon
namespace Mon
/-! ### all words to a length -/
def aw (m most : Nat) : List (List Nat) := (List.range (most + 1)).flatMap (wl m)
theorem aw_succ (m t : Nat) : aw m (t + 1) = aw m t ++ wl m (t + 1) := by
  unfold aw
  rw [List.range_succ, List.flatMap_append]
  simp
theorem mem_aw {m most : Nat} {w : List Nat} : w ∈ aw m most ↔ Lt m w ∧ w.length ≤ most := by
  unfold aw
  rw [List.mem_flatMap]
  constructor
  · rintro ⟨t, ht, hw⟩
    obtain ⟨h1, h2⟩ := (mem_wl t w).mp hw
    have := List.mem_range.mp ht
    exact ⟨h1, by omega⟩
  · rintro ⟨h1, h2⟩
    exact ⟨w.length, List.mem_range.mpr (by omega), (mem_wl _ w).mpr ⟨h1, rfl⟩⟩
theorem aw_so (m most : Nat) : (aw m most).Pairwise slt := by
  unfold aw
  rw [List.pairwise_flatMap]
  refine ⟨fun t _ => wl_sorted t, List.pairwise_lt_range.imp fun {a b} hab x hx y hy => ?_⟩
  have h1 := ((mem_wl _ x).mp hx).2
  have h2 := ((mem_wl _ y).mp hy).2
  exact .inl (by omega)
theorem find_lp {P : List Nat → Prop} [DecidablePred P] {m most : Nat} {o : Option (List Nat)} (h : IsLP P m o) :
    (∀ d, (aw m most).find? (fun w => decide (P w)) = some d → o = some d) ∧ ((aw m most).find? (fun w => decide (P w)) = none → ∀ w, o = some w → most < w.length) := by
  refine ⟨fun d hd => ?_, fun hn w hw => ?_⟩
  · obtain ⟨hp, as, bs, e, hb⟩ := List.find?_eq_some_iff_append.mp hd
    have hin : d ∈ aw m most := by rw [e]; simp
    have hdm := mem_aw.mp hin
    refine h.uniq ⟨fun w ew => ?_, fun e => by cases e⟩
    cases ew
    refine ⟨hdm.1, of_decide_eq_true hp, fun v hv hpv => ?_⟩
    by_cases hl : v.length ≤ most
    · have hvin : v ∈ aw m most := mem_aw.mpr ⟨hv, hl⟩
      rw [e] at hvin
      rcases List.mem_append.mp hvin with q | q
      · have := hb v q
        simp [hpv] at this
      · rcases List.mem_cons.mp q with q | q
        · exact .inl q
        · have so := aw_so m most
          rw [e] at so
          have so2 := (List.pairwise_append.mp so).2.1
          exact .inr ((List.pairwise_cons.mp so2).1 v q)
    · exact .inr (.inl (by omega))
  · obtain ⟨h1, h2, _⟩ := h.1 w hw
    by_cases hl : w.length ≤ most
    · have := List.find?_eq_none.mp hn w (mem_aw.mpr ⟨h1, hl⟩)
      simp [h2] at this
    · omega
/-! ### products -/
theorem mul_one {sz : Nat} {f : List Nat} (h : IsMap sz f) : mul f (List.range sz) = f := by
  refine list_ext0 (by unfold mul; simp) fun i hi => ?_
  have hi' : i < f.length := by unfold mul at hi; simpa using hi
  unfold mul
  rw [getD_map (d := 0) hi']
  have : f.getD i 0 < sz := getD_lt h (by rw [← h.1]; exact hi')
  generalize f.getD i 0 = x at this
  rw [List.getD_eq_getElem?_getD, List.getElem?_range this]; rfl
theorem run_app (T : Tab) (n : Nat) (u v : List Nat) : run T n (u ++ v) = run T (run T n u) v := by unfold run; rw [List.foldl_append]
section
variable {rows : Tab} {sz N : Nat}
theorem Done.act_app (d : Done rows sz N) {u : List Nat} (hu : Lt rows.length u) : ∀ v, Lt rows.length v → Done.act rows sz (u ++ v) = mul (Done.act rows sz u) (Done.act rows sz v) := by
  refine rev_ind (fun _ => ?_) fun v c ih h => ?_
  · rw [List.append_nil]
    exact (mul_one (d.act_map u hu)).symm
  · have hv : Lt rows.length v := fun x hx => h x (by simp [hx])
    rw [← List.append_assoc, d.act_snoc, ih hv, d.act_snoc, mul_assoc (d.act_map u hu) (d.act_map v hv)]
theorem Done.F_act (d : Done rows sz N) {x : Nat} (hx : x < N) : (fdT rows sz N).getD x [] = Done.act rows sz (W (tbT rows sz N) rows.length N x) := by
  have g := d.good
  rw [← d.F_run _ (g.ltW x hx), g.runW x hx]
theorem Done.mul_idx (d : Done rows sz N) {x y : Nat} (hx : x < N) (hy : y < N) : mul ((fdT rows sz N).getD x []) ((fdT rows sz N).getD y []) ∈ fdT rows sz N ∧ (fdT rows sz N).idxOf (mul ((fdT rows sz N).getD x []) ((fdT rows sz N).getD y [])) = run (tbT rows sz N) x (W (tbT rows sz N) rows.length N y) := by
  have g := d.good
  have hlt : Lt rows.length (W (tbT rows sz N) rows.length N x ++ W (tbT rows sz N) rows.length N y) := fun c hc => by
    rcases List.mem_append.mp hc with hc | hc
    · exact g.ltW x hx c hc
    · exact g.ltW y hy c hc
  have e : mul ((fdT rows sz N).getD x []) ((fdT rows sz N).getD y []) = Done.act rows sz (W (tbT rows sz N) rows.length N x ++ W (tbT rows sz N) rows.length N y) := by
    rw [d.F_act hx, d.F_act hy, d.act_app (g.ltW x hx) _ (g.ltW y hy)]
  rw [e]
  refine ⟨?_, ?_⟩
  · rw [← d.F_run _ hlt]
    exact getD_mem (by rw [d.stop]; exact g.run_lt _ hlt)
  · rw [d.run_idx hlt, run_app, g.runW x hx]
end
/-! ### from the left -/
section
variable {T : Tab} {m N : Nat}
/-- what a word makes of an element from the left -/
def la (T : Tab) (m N : Nat) (w : List Nat) (y : Nat) : Nat := run T 0 (w ++ W T m N y)
def sl (T : Tab) (m N : Nat) (y a : Nat) : Nat := (Lf T m N y).getD a 0
theorem Lt_app {m : Nat} {u v : List Nat} (hu : Lt m u) (hv : Lt m v) : Lt m (u ++ v) := fun c hc => (List.mem_append.mp hc).elim (hu c) (hv c)
theorem Good.sl_run (g : Good T m N) (p : Prod T m N) {z : List Nat} (hz : Lt m z) {a : Nat} (ha : a < m) : run T 0 ((97 + a) :: z) = sl T m N (run T 0 z) a := g.cong p ha z hz
theorem Good.sl_lt (g : Good T m N) {y a : Nat} (hy : y < N) (ha : a < m) : sl T m N y a < N := by
  unfold sl
  rw [g.Lf_run y hy a ha]
  refine g.run_lt _ fun c hc => ?_
  rcases List.mem_cons.mp hc with hc | hc
  · omega
  · exact g.ltW y hy c hc
theorem Good.app_cong (g : Good T m N) (p : Prod T m N) {z z' : List Nat} (hz : Lt m z) (hz' : Lt m z') (e : run T 0 z = run T 0 z') : ∀ w, Lt m w → run T 0 (w ++ z) = run T 0 (w ++ z')
  | [], _ => e
  | c :: w, h => by
    have hc := h c List.mem_cons_self
    have hw : Lt m w := fun x hx => h x (List.mem_cons_of_mem _ hx)
    have ih := g.app_cong p hz hz' e w hw
    have ec : c = 97 + (c - 97) := by omega
    rw [List.cons_append, List.cons_append, ec, g.sl_run p (Lt_app hw hz) (by omega), g.sl_run p (Lt_app hw hz') (by omega), ih]
theorem Good.la_lt (g : Good T m N) {w : List Nat} {y : Nat} (hw : Lt m w) (hy : y < N) : la T m N w y < N := g.run_lt _ (Lt_app hw (g.ltW y hy))
theorem Good.la_nil (g : Good T m N) {y : Nat} (hy : y < N) : la T m N [] y = y := g.runW y hy
theorem Good.la_one (g : Good T m N) {y a : Nat} (hy : y < N) (ha : a < m) : la T m N [97 + a] y = sl T m N y a := (g.Lf_run y hy a ha).symm
theorem Good.la_app (g : Good T m N) (p : Prod T m N) {u v : List Nat} {y : Nat} (hu : Lt m u) (hv : Lt m v) (hy : y < N) : la T m N (u ++ v) y = la T m N u (la T m N v y) := by
  unfold la
  have hz : Lt m (v ++ W T m N y) := Lt_app hv (g.ltW y hy)
  have hr := g.run_lt _ hz
  rw [List.append_assoc]
  exact g.app_cong p hz (g.ltW _ hr) (g.runW _ hr).symm u hu
theorem Good.go_la (g : Good T m N) (p : Prod T m N) {one : Nat} (ho : one < N) : ∀ w, Lt m w → go (sl T m N) one w = la T m N w.reverse one := by
  refine rev_ind (fun _ => (g.la_nil ho).symm) fun w c ih h => ?_
  have hc := h c (by simp)
  have hw : Lt m w := fun x hx => h x (by simp [hx])
  have hr : Lt m w.reverse := fun x hx => hw x (List.mem_reverse.mp hx)
  have ec : c = 97 + (c - 97) := by omega
  rw [go_snoc, ih hw, List.reverse_append, List.reverse_singleton, g.la_app p (fun x hx => by rw [List.mem_singleton.mp hx]; exact hc) hr ho]
  conv => rhs; rw [ec]
  rw [g.la_one (g.la_lt hr ho) (by omega)]
theorem Good.la_go (g : Good T m N) (p : Prod T m N) {one : Nat} (ho : one < N) {v : List Nat} (hv : Lt m v) : la T m N v one = go (sl T m N) one v.reverse := by
  have hr : Lt m v.reverse := fun x hx => hv x (List.mem_reverse.mp hx)
  rw [g.go_la p ho _ hr, List.reverse_reverse]
/-! the layers of distances -/
def layer (kw : Kw) (k : Nat) : List Nat := (kw.filter fun p => decide (p.2.length = k)).map (·.1)
theorem mem_layer {kw : Kw} {k y : Nat} : y ∈ layer kw k ↔ ∃ p ∈ kw, p.1 = y ∧ p.2.length = k := by
  unfold layer
  rw [List.mem_map]
  constructor
  · rintro ⟨p, hp, rfl⟩
    obtain ⟨h1, h2⟩ := List.mem_filter.mp hp
    exact ⟨p, h1, rfl, of_decide_eq_true h2⟩
  · rintro ⟨p, h1, rfl, h2⟩
    exact ⟨p, List.mem_filter.mpr ⟨h1, decide_eq_true h2⟩, rfl⟩
/-- the elements from which a letter leads to a goal -/
def ledBy (T : Tab) (m N : Nat) (nums goals : List Nat) (a : Nat) : List Nat := nums.filter fun y => decide (sl T m N y a ∈ goals)
theorem mem_ledBy {nums goals : List Nat} {a y : Nat} : y ∈ ledBy T m N nums goals a ↔ y ∈ nums ∧ sl T m N y a ∈ goals := by
  unfold ledBy
  rw [List.mem_filter, decide_eq_true_eq]
structure Lg (T : Tab) (m N : Nat) (kw : Kw) (one other d k : Nat) (word goals : List Nat) : Prop where
  kd : k ≤ d
  wl : word.length = d - k
  lt : Lt m word
  gs : ∀ y, y ∈ goals ↔ y ∈ layer kw k ∧ la T m N word y = other
  ne : goals ≠ []
  le : ∀ v, Lt m v → v.length = d → la T m N v one = other → word = v.take (d - k) ∨ word < v.take (d - k)
structure Far (T : Tab) (m N : Nat) (kw : Kw) (one other d : Nat) : Prop where
  g : Good T m N
  p : Prod T m N
  b : Bf (sl T m N) m one kw kw.length 0
  o : one < N
  x : other ∈ layer kw d
namespace Far
variable {kw : Kw} {one other d k : Nat} {word goals : List Nat} (F : Far T m N kw one other d)
include F
theorem lay_lt {k y : Nat} (h : y ∈ layer kw k) : y < N := by
  obtain ⟨p, hp, rfl, _⟩ := mem_layer.mp h
  exact (F.b.len_le F.o fun n c hn hc => F.g.sl_lt hn hc).2 p hp
theorem far_le {x k : Nat} (hx : x ∈ layer kw k) {v : List Nat} (hv : Lt m v) (e : la T m N v one = x) : k ≤ v.length := by
  obtain ⟨p, hp, rfl, hk⟩ := mem_layer.mp hx
  have hr : Lt m v.reverse := fun x hx => hv x (List.mem_reverse.mp hx)
  have := F.b.mi p hp v.reverse hr (by rw [← F.g.la_go F.p F.o hv]; exact e)
  have hl : v.reverse.length = v.length := List.length_reverse
  rcases this with h | h | ⟨h, _⟩
  · rw [h] at hl; omega
  · omega
  · omega
/-- what is led to by a word stands in a layer -/
theorem in_lay {v : List Nat} (hv : Lt m v) : ∃ k, la T m N v one ∈ layer kw k ∧ k ≤ v.length := by
  have hr : Lt m v.reverse := fun x hx => hv x (List.mem_reverse.mp hx)
  have hk : la T m N v one ∈ keys kw := by
    by_cases h : la T m N v one ∈ keys kw
    · exact h
    · exact absurd (F.g.la_go F.p F.o hv).symm ((F.b.unknown h).2 rfl v.reverse hr)
  obtain ⟨p, hp, e⟩ := mem_keys.mp hk
  have hl : la T m N v one ∈ layer kw p.2.length := mem_layer.mpr ⟨p, hp, e, rfl⟩
  exact ⟨_, hl, F.far_le hl hv rfl⟩
/-- an element of a layer is led to by a word of that length -/
theorem of_lay {k y : Nat} (h : y ∈ layer kw k) : ∃ v, Lt m v ∧ la T m N v one = y ∧ v.length = k := by
  obtain ⟨p, hp, e, hk⟩ := mem_layer.mp h
  obtain ⟨h1, h2⟩ := F.b.wd p hp
  exact ⟨p.2.reverse, fun x hx => h1 x (List.mem_reverse.mp hx), by rw [← F.g.go_la F.p F.o _ h1, h2, e], by rw [List.length_reverse, hk]⟩
theorem lay_inj {a b y : Nat} (ha : y ∈ layer kw a) (hb : y ∈ layer kw b) : a = b := by
  obtain ⟨v, v1, v2, v3⟩ := F.of_lay ha
  obtain ⟨w, w1, w2, w3⟩ := F.of_lay hb
  have h1 := F.far_le ha w1 w2
  have h2 := F.far_le hb v1 v2
  omega
/-- behind a word of the right length the layer is the next one -/
theorem next_lay {k y : Nat} {w : List Nat} (hw : Lt m w) (hl : w.length + k = d) {v : List Nat} (hv : Lt m v) (hvl : v.length = k) (hy : la T m N v one = y) (e : la T m N w y = other) : y ∈ layer kw k := by
  obtain ⟨j, h1, h2⟩ := F.in_lay hv
  rw [hy] at h1
  obtain ⟨u, u1, u2, u3⟩ := F.of_lay h1
  have h3 := F.far_le F.x (Lt_app hw u1) (by rw [F.g.la_app F.p hw u1 F.o, u2]; exact e)
  rw [List.length_append] at h3
  have : j = k := by omega
  rw [← this]; exact h1
theorem start : Lg T m N kw one other d d [] [other] := by
  refine ⟨Nat.le_refl _, by simp, (fun c hc => by cases hc), fun y => ?_, by simp, fun v _ _ _ => .inl (by simp)⟩
  rw [List.mem_singleton]
  constructor
  · intro e
    subst e
    exact ⟨F.x, F.g.la_nil (F.lay_lt F.x)⟩
  · rintro ⟨h1, h2⟩
    rw [F.g.la_nil (F.lay_lt h1)] at h2
    exact h2
theorem led_ne (L : Lg T m N kw one other d (k + 1) word goals) : ∃ a, a < m ∧ ledBy T m N (layer kw k) goals a ≠ [] := by
  obtain ⟨z, hz⟩ := List.exists_mem_of_ne_nil _ L.ne
  obtain ⟨h1, h2⟩ := (L.gs z).mp hz
  obtain ⟨v, v1, v2, v3⟩ := F.of_lay h1
  cases v with
  | nil => cases v3
  | cons c v =>
    have hc := v1 c List.mem_cons_self
    have hv : Lt m v := fun x hx => v1 x (List.mem_cons_of_mem _ hx)
    have hy := F.g.la_lt hv F.o
    have e1 : la T m N (c :: v) one = sl T m N (la T m N v one) (c - 97) := by
      have := F.g.la_app F.p (u := [c]) (v := v) (y := one) (fun x hx => by rw [List.mem_singleton.mp hx]; exact hc) hv F.o
      rw [show [c] ++ v = c :: v from rfl] at this
      rw [this]
      conv => lhs; rw [show c = 97 + (c - 97) by omega]
      exact F.g.la_one hy (by omega)
    have hvl : v.length = k := by simpa using v3
    have hlay : la T m N v one ∈ layer kw k := by
      refine F.next_lay (w := word ++ [c]) (Lt_app L.lt fun x hx => by rw [List.mem_singleton.mp hx]; exact hc) ?_ hv hvl rfl ?_
      · rw [List.length_append, L.wl]
        have := L.kd
        show d - (k + 1) + 1 + k = d
        omega
      · rw [F.g.la_app F.p L.lt (fun x hx => by rw [List.mem_singleton.mp hx]; exact hc) hy]
        conv => lhs; rw [show c = 97 + (c - 97) by omega]
        rw [F.g.la_one hy (by omega), ← e1, v2]
        exact h2
    refine ⟨c - 97, by omega, fun hnil => ?_⟩
    have : la T m N v one ∈ ledBy T m N (layer kw k) goals (c - 97) := mem_ledBy.mpr ⟨hlay, by rw [← e1, v2]; exact hz⟩
    rw [hnil] at this
    cases this
theorem led_iff (L : Lg T m N kw one other d (k + 1) word goals) {a y : Nat} (ha : a < m) : y ∈ ledBy T m N (layer kw k) goals a ↔ y ∈ layer kw k ∧ la T m N (word ++ [97 + a]) y = other := by
  have ha1 : Lt m [97 + a] := fun x hx => by rw [List.mem_singleton.mp hx]; omega
  rw [mem_ledBy]
  constructor
  · rintro ⟨h1, h2⟩
    have hy := F.lay_lt h1
    refine ⟨h1, ?_⟩
    rw [F.g.la_app F.p L.lt ha1 hy, F.g.la_one hy ha]
    exact ((L.gs _).mp h2).2
  · rintro ⟨h1, h2⟩
    have hy := F.lay_lt h1
    rw [F.g.la_app F.p L.lt ha1 hy, F.g.la_one hy ha] at h2
    refine ⟨h1, (L.gs _).mpr ⟨?_, h2⟩⟩
    obtain ⟨v, v1, v2, v3⟩ := F.of_lay h1
    refine F.next_lay (w := word) (v := (97 + a) :: v) L.lt (by rw [L.wl]; have := L.kd; omega) (fun x hx => ?_) (by simp [v3]) ?_ h2
    · rcases List.mem_cons.mp hx with hx | hx
      · omega
      · exact v1 x hx
    · have := F.g.la_app F.p (u := [97 + a]) (v := v) (y := one) ha1 v1 F.o
      rw [show [97 + a] ++ v = (97 + a) :: v from rfl, v2, F.g.la_one hy ha] at this
      exact this
theorem step (L : Lg T m N kw one other d (k + 1) word goals) {a : Nat} (ha : a < m) (hne : ledBy T m N (layer kw k) goals a ≠ []) (hmin : ∀ c, c < a → ledBy T m N (layer kw k) goals c = []) : Lg T m N kw one other d k (word ++ [97 + a]) (ledBy T m N (layer kw k) goals a) := by
  have ha1 : Lt m [97 + a] := fun x hx => by rw [List.mem_singleton.mp hx]; omega
  have hkd := L.kd
  refine ⟨by omega, by rw [List.length_append, L.wl]; show d - (k + 1) + 1 = d - k; omega, Lt_app L.lt ha1, fun y => F.led_iff L ha, hne, fun v hv hvl e => ?_⟩
  have hj : d - (k + 1) < v.length := by omega
  have ek : d - k = d - (k + 1) + 1 := by omega
  have hc := hv v[d - (k + 1)] (List.getElem_mem hj)
  have et : v.take (d - k) = v.take (d - (k + 1)) ++ [v[d - (k + 1)]] := by
    rw [ek, List.take_succ, List.getElem?_eq_getElem hj]; rfl
  rw [et]
  generalize v[d - (k + 1)] = c at hc et
  rcases L.le v hv hvl e with h | h
  · by_cases hca : 97 + a = c
    · rw [h, ← hca]; exact .inl rfl
    · by_cases hlt : 97 + a < c
      · rw [← h]; exact .inr (app_lt hlt _)
      · exfalso
        have hnil := hmin (c - 97) (by omega)
        have hdr : Lt m (v.drop (d - k)) := fun x hx => hv x (List.mem_of_mem_drop hx)
        have htk : Lt m (v.take (d - k)) := fun x hx => hv x (List.mem_of_mem_take hx)
        have hy := F.g.la_lt hdr F.o
        have ee : la T m N (v.take (d - k)) (la T m N (v.drop (d - k)) one) = other := by
          rw [← F.g.la_app F.p htk hdr F.o, List.take_append_drop]; exact e
        have hlay : la T m N (v.drop (d - k)) one ∈ layer kw k := F.next_lay htk (by rw [List.length_take]; omega) hdr (by rw [List.length_drop]; omega) rfl ee
        have : la T m N (v.drop (d - k)) one ∈ ledBy T m N (layer kw k) goals (c - 97) := by
          refine (F.led_iff L (by omega)).mpr ⟨hlay, ?_⟩
          rw [show 97 + (c - 97) = c by omega, h, ← et]
          exact ee
        rw [hnil] at this
        cases this
  · exact .inr (lt_app _ _ (by rw [L.wl, List.length_take]; omega) h)
theorem fin (L : Lg T m N kw one other d 0 word goals) : IsLP (fun w => la T m N w one = other) m (some word) := by
  obtain ⟨y, hy⟩ := List.exists_mem_of_ne_nil _ L.ne
  obtain ⟨h1, h2⟩ := (L.gs y).mp hy
  obtain ⟨v, v1, v2, v3⟩ := F.of_lay h1
  have ev : v = [] := List.length_eq_zero_iff.mp v3
  subst ev
  rw [F.g.la_nil F.o] at v2
  subst v2
  refine ⟨fun w e => ?_, (fun e => by cases e)⟩
  cases e
  refine ⟨L.lt, h2, fun u hu eu => ?_⟩
  have hl := F.far_le F.x hu eu
  have hwl := L.wl
  by_cases e : u.length = d
  · have h := L.le u hu e eu
    rw [List.take_of_length_le (by omega)] at h
    rcases h with h | h
    · exact .inl h.symm
    · exact .inr (.inr ⟨by omega, h⟩)
  · exact .inr (.inl (by omega))
end Far
end
end Mon
namespace Mon
/-! ### layer by layer: how many there are -/
section
variable {st : Nat → Nat → Nat} {m one N : Nat} {kw ly nx : Kw} {t i : Nat}
theorem go_lt (h1 : one < N) (hs : ∀ n c, n < N → c < m → st n c < N) : ∀ w, Lt m w → go st one w < N := by
  refine rev_ind (fun _ => h1) fun w c ih hw => ?_
  rw [go_snoc]
  have hc := hw c (by simp)
  exact hs _ _ (ih fun x hx => hw x (by simp [hx])) (by omega)
theorem keys_le {kw : Kw} (nd : (keys kw).Nodup) (h : ∀ p ∈ kw, p.1 < N) : kw.length ≤ N := by
  have h2 := nodup_le N (keys kw) nd fun x hx => by
    obtain ⟨p, q, rfl⟩ := mem_keys.mp hx
    exact h p q
  unfold keys at h2
  rwa [List.length_map] at h2
theorem Ls.lt (h : Ls st m one kw ly t) (h1 : one < N) (hs : ∀ n c, n < N → c < m → st n c < N) : ∀ p ∈ kw, p.1 < N := fun p hp => by
  obtain ⟨a, b⟩ := h.wd p hp
  rw [← b]; exact go_lt h1 hs _ a
theorem Ls.ly_nd (h : Ls st m one kw ly t) : (keys ly).Nodup := by
  unfold keys
  have so := h.so
  rw [List.Nodup, List.pairwise_map]
  rw [List.pairwise_map] at so
  refine List.Pairwise.imp_of_mem (fun {a b} ha hb hab e => ?_) so
  have ha2 := ((h.ls a).mp ha).1
  have hb2 := ((h.ls b).mp hb).1
  have wa := h.wd a ha2
  rcases h.mi b hb2 a.2 wa.1 (by rw [wa.2, e]) with e2 | e2
  · rw [e2] at hab; exact slt_irr _ hab
  · exact slt_irr _ (slt_trans hab e2)
theorem Ls.ly_le (h : Ls st m one kw ly t) (h1 : one < N) (hs : ∀ n c, n < N → c < m → st n c < N) : ly.length ≤ N :=
  keys_le h.ly_nd fun p hp => h.lt h1 hs p ((h.ls p).mp hp).1
theorem Lm.lt (b : Ls st m one kw ly t) (h : Lm st m one kw ly nx t i) (h1 : one < N) (hs : ∀ n c, n < N → c < m → st n c < N) : ∀ p ∈ kw ++ nx, p.1 < N := fun p hp => by
  rcases List.mem_append.mp hp with hp | hp
  · exact b.lt h1 hs p hp
  · have := b.long (List.mem_of_mem_take (h.sub p hp))
    rw [← this.2.1]; exact go_lt h1 hs _ this.1
theorem Lm.le (b : Ls st m one kw ly t) (h : Lm st m one kw ly nx t i) (h1 : one < N) (hs : ∀ n c, n < N → c < m → st n c < N) : (kw ++ nx).length ≤ N := keys_le h.nd (h.lt b h1 hs)
theorem longer_snoc {ly : Kw} {i : Nat} {p : Nat × List Nat} (h : ly[i]? = some p) : longer st m (ly.take (i + 1)) = longer st m (ly.take i) ++ (List.range m).map fun l => (st p.1 l, p.2 ++ [97 + l]) := by
  have e : ly.take (i + 1) = ly.take i ++ [p] := by rw [List.take_succ, h]; rfl
  rw [e]
  unfold longer
  rw [List.flatMap_append]
  simp
theorem longer_len (st : Nat → Nat → Nat) (m : Nat) : ∀ ly : Kw, (longer st m ly).length = ly.length * m
  | [] => by simp [longer]
  | p :: ly => by
    have h := longer_len st m ly
    unfold longer at h ⊢
    rw [List.flatMap_cons, List.length_append, h, List.length_map, List.length_range, List.length_cons, Nat.succ_mul]
    omega
theorem Ls.lex (h : Ls st m one kw ly t) : (longer st m ly).Pairwise fun a b => a.2 < b.2 := by
  have so := longer_so (st := st) (m := m) h.so
  rw [List.pairwise_map] at so
  refine List.Pairwise.imp_of_mem (fun {a b} ha hb hab => ?_) so
  have la := (h.long ha).2.2
  have lb := (h.long hb).2.2
  rcases hab with hab | ⟨_, hab⟩
  · omega
  · exact hab
end

/-! ### the first word for each pair -/
def pw (N : Nat) (ws : List (List Nat)) : List (Nat × List Nat) := ws.flatMap fun w => (List.range N).map fun x => (x, w)
theorem pw_snoc (N : Nat) (ws : List (List Nat)) (w : List Nat) : pw N (ws ++ [w]) = pw N ws ++ (List.range N).map fun x => (x, w) := by
  unfold pw; rw [List.flatMap_append]; simp
theorem pw_len (N : Nat) : ∀ ws : List (List Nat), (pw N ws).length = ws.length * N
  | [] => by simp [pw]
  | w :: ws => by
    have h := pw_len N ws
    unfold pw at h ⊢
    rw [List.flatMap_cons, List.length_append, h, List.length_map, List.length_range, List.length_cons, Nat.succ_mul]
    omega
theorem find_row {N x : Nat} (hx : x < N) (P : Nat → List Nat → Bool) (w : List Nat) : ((List.range N).map fun x' => (x', w)).find? (fun p => decide (p.1 = x) && P p.1 p.2) = if P x w = true then some (x, w) else none := by
  cases h : ((List.range N).map fun x' => (x', w)).find? (fun p => decide (p.1 = x) && P p.1 p.2) with
  | none =>
    have h1 := List.find?_eq_none.mp h (x, w) (List.mem_map.mpr ⟨x, List.mem_range.mpr hx, rfl⟩)
    rw [if_neg (fun e => h1 (by simp [e]))]
  | some a =>
    have h1 := List.find?_some h
    obtain ⟨x', _, rfl⟩ := List.mem_map.mp (List.mem_of_find?_eq_some h)
    rw [Bool.and_eq_true] at h1
    have e : x' = x := of_decide_eq_true h1.1
    subst e
    rw [if_pos h1.2]
theorem find_pw {N x : Nat} (hx : x < N) (P : Nat → List Nat → Bool) : ∀ ws : List (List Nat), ((pw N ws).find? fun p => decide (p.1 = x) && P p.1 p.2) = (ws.find? (P x)).map fun w => (x, w)
  | [] => rfl
  | w :: ws => by
    have ih := find_pw hx P ws
    unfold pw at ih ⊢
    rw [List.flatMap_cons, List.find?_append, find_row hx P w, ih, List.find?_cons]
    by_cases e : P x w = true
    · rw [if_pos e, e]; rfl
    · rw [if_neg e]
      have e2 : P x w = false := by simpa using e
      rw [e2]; rfl
theorem go_run (T : Tab) (x : Nat) (w : List Nat) : go (at2 T) x w = run T x w := rfl
theorem lw_len {st : Nat → Nat → Nat} {m one N x : Nat} {w : List Nat} (h1 : one < N) (hs : ∀ n c, n < N → c < m → st n c < N) (h : IsLw st m one x (some w)) : w.length < N := by
  obtain ⟨a, b, c⟩ := h.1 w rfl
  obtain ⟨u, hu, e, hl⟩ := short_of h1 hs a
  rcases c u hu (e.trans b) with e2 | e2
  · rw [← e2]; exact hl
  · rcases e2 with e3 | ⟨e3, _⟩ <;> omega
section
variable {T : Tab} {m N : Nat}
theorem ll_len (g : Good T m N) (p : Prod T m N) {x y : Nat} {w : List Nat} (hx : x < N) (h : IsLP (fun w => la T m N w x = y) m (some w)) : w.length < N := by
  obtain ⟨a, b, c⟩ := h.1 w rfl
  have ar : Lt m w.reverse := fun x hx => a x (List.mem_reverse.mp hx)
  obtain ⟨u, hu, e, hl⟩ := short_of (st := sl T m N) hx (fun n c hn hc => g.sl_lt hn hc) ar
  have hur : Lt m u.reverse := fun x hx => hu x (List.mem_reverse.mp hx)
  have e2 : la T m N u.reverse x = y := by
    rw [← g.go_la p hx u hu, e, ← g.la_go p hx a]; exact b
  rcases c u.reverse hur e2 with e3 | e3
  · rw [← e3, List.length_reverse]; exact hl
  · have : w.length ≤ u.reverse.length := by rcases e3 with e4 | ⟨e4, _⟩ <;> omega
    rw [List.length_reverse] at this; omega
theorem Good.run_W (g : Good T m N) (p : Prod T m N) {x : Nat} (hx : x < N) {w : List Nat} (hw : Lt m w) : run T x (W T m N (run T 0 w)) = run T x w := by
  have hr := g.run_lt w hw
  have h := g.app_cong p (g.ltW _ hr) hw (g.runW _ hr) (W T m N x) (g.ltW x hx)
  rw [run_app, run_app, g.runW x hx] at h
  exact h
theorem Good.run_lt' (g : Good T m N) {x : Nat} (hx : x < N) {w : List Nat} (hw : Lt m w) : run T x w < N := go_lt (st := at2 T) hx (fun n c hn hc => g.lt n c hn hc) w hw
/-- the row of products of x, the column of x -/
def prow (T : Tab) (m N x : Nat) : List Nat := (List.range N).map fun y => run T x (W T m N y)
def pcol (T : Tab) (m N x : Nat) : List Nat := (List.range N).map fun y => run T y (W T m N x)
theorem mem_prow (g : Good T m N) (p : Prod T m N) {x y : Nat} (hx : x < N) : y ∈ prow T m N x ↔ ∃ w, Lt m w ∧ run T x w = y := by
  unfold prow
  rw [List.mem_map]
  constructor
  · rintro ⟨z, hz, rfl⟩
    exact ⟨_, g.ltW z (List.mem_range.mp hz), rfl⟩
  · rintro ⟨w, hw, rfl⟩
    exact ⟨run T 0 w, List.mem_range.mpr (g.run_lt w hw), g.run_W p hx hw⟩
theorem mem_pcol (g : Good T m N) {x y : Nat} : y ∈ pcol T m N x ↔ ∃ w, Lt m w ∧ la T m N w x = y := by
  unfold pcol
  rw [List.mem_map]
  constructor
  · rintro ⟨z, hz, rfl⟩
    refine ⟨_, g.ltW z (List.mem_range.mp hz), ?_⟩
    unfold la
    rw [run_app, g.runW z (List.mem_range.mp hz)]
  · rintro ⟨w, hw, rfl⟩
    refine ⟨run T 0 w, List.mem_range.mpr (g.run_lt w hw), ?_⟩
    unfold la
    rw [run_app]
theorem lw_none (g : Good T m N) (p : Prod T m N) {x y : Nat} {o : Option (List Nat)} (hx : x < N) (h : IsLw (at2 T) m x y o) : o = none ↔ y ∉ prow T m N x := by
  rw [mem_prow g p hx]
  constructor
  · rintro rfl ⟨w, hw, e⟩
    exact h.2 rfl w hw e
  · intro hn
    cases o with
    | none => rfl
    | some w => exact absurd ⟨w, (h.1 w rfl).1, (h.1 w rfl).2.1⟩ hn
theorem ll_none (g : Good T m N) {x y : Nat} {o : Option (List Nat)} (h : IsLP (fun w => la T m N w x = y) m o) : o = none ↔ y ∉ pcol T m N x := by
  rw [mem_pcol g]
  constructor
  · rintro rfl ⟨w, hw, e⟩
    exact h.2 rfl w hw e
  · intro hn
    cases o with
    | none => rfl
    | some w => exact absurd ⟨w, (h.1 w rfl).1, (h.1 w rfl).2.1⟩ hn
end
theorem lp_nil {P : List Nat → Prop} {m : Nat} {o : Option (List Nat)} (h : IsLP P m o) (k : P []) : o = some [] := by
  refine h.uniq ⟨fun w e => ?_, fun e => by cases e⟩
  cases e
  refine ⟨(fun c hc => by cases hc), k, fun v _ _ => ?_⟩
  by_cases e : v = []
  · exact .inl e
  · exact .inr (slt_nil e)
end Mon
/-! setdefault with tuples as keys; sorted(xs, key=lambda pair: pair[1]) of pairs of a number and a text that stand in order. -/
namespace My
open PySem PySem.Spec L2 SX LamX
open PyProof.Rows hiding St
section
variable {X : Cx} {pins : List (Addr × Obj)} {σ : St} {H : Hp} {s : Shared} {a b : Addr} {A : Around} {E : Value → Shared → Prop} {v : V} {r : Value} {k : List Key} {kvs : List (List Key × V)}
theorem d_setdT {Q : Value → Shared → Prop} (hu : A.units + 1 < cLine) (I : Inv X pins σ H s) (e : H a = some (.dT kvs)) (eb : H b = some (.tup (k.map kV))) (rv : RelV v r) (hl : kvs.length < sizeLine)
    (h1 : ∀ x, valV kvs k = some x → ∀ w' s', Inv X pins σ H s' → RelV x w' → Q w' s') (h2 : valV kvs k = none → ∀ w' s', Inv X pins σ (L2.upd H a (.dT (putK kvs k v))) s' → RelV v w' → Q w' s') :
    wpAny (model X.prog X.w) A (call (.builtin "dict.setdefault") [.ref a, .ref b, r]) Q E s := by
  obtain ⟨zl, notm, ents, rel, dict0⟩ := dt_of I.hok e
  have entl : ents.length ≤ sizeLine := Nat.le_trans (Nat.le_of_eq (Paired.length rel).symm) zl
  have hl2 : (putK kvs k v).length ≤ sizeLine := Nat.le_trans (length_putK kvs k v) hl
  have hval := rel.val k
  refine call_setdefault_heap (knd := tupleKind (mixKind X.prog X.w)) (k := k) (tupleKind_room_in1 hu) (key_of I.hok eb) notm dict0 (fun p hp => ?_) (fun hn hnew dict1 same1 => ?_) entl
  · cases hv : valV kvs k with
    | none => rw [hv, hp] at hval; exact False.elim hval
    | some x =>
      rw [hv, hp] at hval
      exact h1 x hv _ _ (I.tok _) hval
  · cases hv : valV kvs k with
    | some x => rw [hv, hn] at hval; exact False.elim hval
    | none =>
      obtain ⟨ob, es1, ep1, got, g2, g3, g4, _, g5⟩ := dict1
      refine h2 hv r _ (d_write I (by rw [e]; exact True.intro) same1 ⟨ob, got⟩ ⟨hl2, notm, _, (rel.put k eb rv).keeps fun c ys ec => ?_, ob, es1, ep1, got, g2, g3, g4, g5⟩) rv
      have cna : c ≠ a := ne_of ec e (fun z => nomatch z)
      rw [upd_ne cna]; exact ec
end
def tDSetdT (td ty tx : TE) : TE := fun σ H Q => td σ H fun x H1 => ∃ a, x = .ref a ∧ IsD H1 a ∧ ty σ H1 fun y H2 => tx σ H2 fun z H3 => ∃ (kvs : List (List Key × V)) (k : List Key) (b : Addr), H3 a = some (.dT kvs) ∧ y = .ref b ∧ H3 b = some (.tup (k.map kV)) ∧ kvs.length < sizeLine ∧
  (∀ v, valV kvs k = some v → Q v H3) ∧ (valV kvs k = none → Q z (L2.upd H3 a (.dT (putK kvs k z))))
section
variable {X : Cx} {o e f : Expr} {td ty tx : TE} {apos cpos : Pos}
theorem pe_dsetdT (hu : X.A.units + 1 < cLine) (ho : PE X o td) (he : PE X e ty) (hf : PE X f tx) (m : M2 X o "setdefault" apos e f cpos) : PE X (.Call (.Attribute o "setdefault" apos) [e, f] [] cpos) (tDSetdT td ty tx) := by
  refine ⟨fun pins s σ H Q I h => ?_⟩
  refine wpAny_Call_method m.base m.few m.line PySem.F.plainAttrs_dict PySem.F.slot_dict_setdefault PySem.F.type_dict_setdefault (thn (ho.run pins s σ H _ I h) fun dv s1 ⟨x, H1, I1, rx, a, ex, isd, q1⟩ => ?_)
  subst ex
  obtain rfl : dv = Value.ref a := rx
  obtain ⟨p1, p2, _⟩ := isD_at I1 isd
  refine ⟨p1, p2, ?_⟩
  rw [m.trees]
  refine Calls.callWith_builtin rfl (Calls.evalArgs_plain (Calls.spliced_cons (thn (he.run pins s1 σ H1 _ I1 q1) fun kv s2 ⟨y, H2, I2, ry, q2⟩ => Calls.spliced_cons (thn (hf.run pins s2 σ H2 _ I2 q2) fun fv s3 ⟨z, H3, I3, rz, kvs, k, b, ea, ey, eb, hl, q3, q4⟩ => Calls.spliced_nil ?_))))
  subst ey
  obtain rfl : kv = Value.ref b := ry
  exact d_setdT hu I3 ea eb rz hl (fun v hv w' s4 I4 rw' => ⟨v, _, I4, rw', q3 v hv⟩) fun hn w' s4 I4 rw' => ⟨z, _, I4, rw', q4 hn⟩
end
/-! ### the key pair[1] -/
section
variable {prog : Program} {w : World} {A : Around} {s : Shared} {env : Env} {mg mb m : Str → Option Value} {T : Addr} {z : Str} {n : Int} {t t2 : Tok}
def keyE1 (c1 : Nat) (q2 q3 q4 : Pos) : Expr := .Subscript (.Name "pair" q2) (.Constant (.int 1) c1 q3) q4
theorem key_body1 {c1 : Nat} {q2 q3 q4 : Pos} {E : Value → Shared → Prop} (hk : env.scope.kind = .function) (hl : env.kindOf "pair" = some .local) (hn : s.heap.Ns env.locals m) (hm : m "pair" = some (.ref T))
    (hT : s.heap.IsTuple T #[.int n t, .str z t2]) : wpAny (model prog w) A (eval (keyE1 c1 q2 q3 q4) env) (PySem.W.KeyPure (.str z) s) E s := by
  unfold keyE1
  refine Subscript_ (wpAny_Name (wpAny_loadName_local hk hl hn hm (wpAny_Constant_int ?_)) (by decide))
  have hT2 : (({ s with toks := s.toks + 1 } : Shared)).heap.IsTuple T #[.int n t, .str z t2] := hT
  refine subscriptTail_builtinR (x := .str z t2) hT2.typeIs slot_tuple_getitem.lookup (getItem_tuple (j := 1) (Q := fun r s' => r = .str z t2 ∧ PySem.W.KeyPure (.str z) s r s') hT2 (by decide) (by decide) (by rfl) rfl ⟨rfl, ?_⟩) (by rfl)
  exact ⟨_, _, rfl, fun b o e => e, .str _ _⟩
theorem key_call1 {c1 : Nat} {q2 q3 q4 : Pos} {f c' : Addr} {q : Str} {params : Arguments} {scope : Scope} {pm ctv : Value} {P : Program} {w : World} (hA : A.depth < recursionLimit)
    (of1 : s.heap.get? f = some (PySem.W.kla_obj "<lambda>" q params (keyE1 c1 q2 q3 q4) scope [] pm c' ctv)) (S : FnScope ["pair"] ["pair"] scope) (hloc : scope.names.lookup ("pair" : Str) = some NameKind.local)
    (hrec : s.heap.CodeRec (.ref c') q) (hbind : bindArgs (PySem.W.kla_fn "<lambda>" q params (keyE1 c1 q2 q3 q4) scope [] pm (.ref c') ctv) ⟨[.ref T], []⟩ = pure [(("pair" : Str), Value.ref T)])
    (lim : s.heap.NoLimit) (hT : s.heap.IsTuple T #[.int n t, .str z t2]) :
    wpAny (model P w) A (call (.ref f) [.ref T]) (PySem.W.KeyPure (.str z) s) (fun _ _ => False) s := by
  refine wpAny_call (PySem.W.kla_callFunE hA of1 rfl S.co S.gen rfl hrec ?_)
  rw [hbind]
  refine wpAny_pure (wpAny_newFunctionEnv_cells S.kind (fun y hy => ?_) fun env he s1 x => ?_)
  · obtain rfl : y = (("pair" : Str), Value.ref T) := List.mem_singleton.mp hy
    exact .inl hloc
  · subst he
    obtain ⟨h1, tk, rfl, hk⟩ := id x.done
    refine ⟨lim.keeps hk, PySem.W.kla_codeExpr ?_⟩
    refine wpAny_mono (key_body1 (T := T) (z := z) (n := n) (t := t) (t2 := t2) (m := bindL (fun y => scope.names.lookup y) [(("pair" : Str), Value.ref T)] fun _ => none) S.kind hloc x.toInCall.ns ?_ (let ⟨o, e, r⟩ := hT; ⟨o, hk _ _ e, r⟩)) (fun v s' hq => ?_) (fun _ _ z => z)
    · simp [bindL, hloc]
    · obtain ⟨h2, tk2, rfl, hk2, r⟩ := hq
      exact ⟨h2, tk2, rfl, fun b o e => hk2 b o (hk b o e), r⟩
end
/-! ### the order -/
abbrev keyD1 (b : Nat × List Nat) : PyData := .str (S b.2)
theorem key_lt1 (x y : Nat × List Nat) : PySem.W.dataLt (keyD1 x) (keyD1 y) = decide (x.2 < y.2) := by
  unfold keyD1
  rw [PySem.W.dataLt_str]
theorem key_sorted1 {bs : Mon.Kw} {xs : List V} (hl : xs.length = bs.length) (h : bs.Pairwise fun a b => a.2 < b.2) : (xs.zip bs).mergeSort (PySem.W.dataLe false fun p : V × (Nat × List Nat) => keyD1 p.2) = xs.zip bs := by
  refine List.mergeSort_of_pairwise ?_
  have h2 : ((xs.zip bs).map Prod.snd).Pairwise fun a b => a.2 < b.2 := by rw [List.map_snd_zip (by omega)]; exact h
  rw [List.pairwise_map] at h2
  refine h2.imp fun {a b} hab => ?_
  show (!PySem.W.dataLt (keyD1 b.2) (keyD1 a.2)) = true
  rw [key_lt1, Bool.not_eq_true']
  exact decide_eq_false fun z => List.lt_irrefl _ (List.lt_trans hab z)
theorem each_of1 : ∀ {xs : List V} {us : List Value} {bs : Mon.Kw}, Vals xs us → xs.length = bs.length → PySem.W.EachIs (fun u (p : V × (Nat × List Nat)) => RelV p.1 u) us (xs.zip bs)
  | [], _, [], r, _ => by cases r; exact .nil
  | [], _, _ :: _, _, h => by cases h
  | x :: xs, _, [], _, h => by cases h
  | x :: xs, _, b :: bs, r, h => by
    cases r with
    | cons r1 r2 => exact .cons r1 (each_of1 r2 (by simpa using h))
theorem vals_of1 : ∀ {xs : List V} {us : List Value} {bs : Mon.Kw}, xs.length = bs.length → PySem.W.EachIs (fun u (p : V × (Nat × List Nat)) => RelV p.1 u) us (xs.zip bs) → Vals xs us
  | [], us, bs, _, e => by
    have h : us.length = 0 := by rw [e.length]; simp
    rw [List.length_eq_zero_iff.mp h]
    exact .nil
  | x :: xs, us, [], h, _ => by cases h
  | x :: xs, us, b :: bs, h, e => by
    rw [List.zip_cons_cons] at e
    cases e with
    | cons e1 e2 => exact .cons e1 (vals_of1 (by simpa using h) e2)
/-- the items of xs are pairs of a number and a text -/
def PairsN (K : PySem.W.Frag) (H : Hp) (xs : List V) (bs : Mon.Kw) : Prop := xs.length = bs.length ∧ ∀ (i : Nat) (b : Nat × List Nat), bs[i]? = some b → ∃ T, xs[i]? = some (.ref T) ∧ SqT K H T [.int ((b.1 : Nat) : Int), .str (S b.2)]
theorem PairsN.extN {K : PySem.W.Frag} {H H' : Hp} {xs : List V} {bs : Mon.Kw} (h : PairsN K H xs bs) (e : ExtN H H') : PairsN K H' xs bs := ⟨h.1, fun i b hb => let ⟨T, e1, e2⟩ := h.2 i b hb; ⟨T, e1, SqT.extN e2 e⟩⟩
def qSortLam1 (K : PySem.W.Frag) (TT : List (Addr × Str)) (vs : List V) (H1 : Hp) (Q : VK) : Prop := ∃ (a : Addr) (xs : List V) (bs : Mon.Kw), vs = [.ref a] ∧ SqL K H1 a xs ∧ PairsN K H1 xs bs ∧ bs.length ≤ 100000 ∧ (bs.Pairwise fun a b => a.2 < b.2) ∧ Tabs TT H1 ∧
  ∀ p H2, ExtN H1 H2 → Tabs TT H2 → H2 p = none → Q (.ref p) (L2.upd H2 p (.lst xs))
def tSortLam1 (K : PySem.W.Frag) (TT : List (Addr × Str)) (t : TA) : TE := fun σ H Q => t σ H fun vs H1 => qSortLam1 K TT vs H1 Q
section
variable {X : Cx}
theorem pe_sortLam1 {TT : List (Addr × Str)} {c P : Addr} {params : Arguments} {scope : Scope} {k : Nat} {e : Expr} {t : TA} {p pos lpos kpos : Pos} {c1 : Nat} {q2 q3 q4 : Pos}
    (TB : TabB X.base X.mg c P) (hcode : X.env.code = .ref c) (hmT : (P, X.env.qual ++ "<lambda>") ∈ TT) (hu : ∀ p ∈ TT, p.1 = P → p.2 = X.env.qual ++ "<lambda>") (hr : Room k X.A) (hg : Gl X "sorted") (hm : X.mg "sorted" = none)
    (S1 : FnScope ["pair"] ["pair"] scope) (hloc : scope.names.lookup ("pair" : Str) = some NameKind.local) (hdef : defaultsOf params X.env = ([], [])) (hfree : ∀ y ∈ scope.names, y.2 ≠ .free) (hclo : cloFrom X.env.cells scope.names [] = [])
    (hbind : ∀ (q : Str) (pm cv ctv u : Value), bindArgs (PySem.W.kla_fn "<lambda>" q params (keyE1 c1 q2 q3 q4) scope [] pm cv ctv) ⟨[u], []⟩ = pure [(("pair" : Str), u)])
    (ha : PA X [e] t) (he : backTo pos (starEach [e] X.env) = (false, eval e X.env) :: backTo pos (starEach [] X.env) := by rfl) (hpl : (backTo pos (starEach [e] X.env)).any (·.1) = false := by rfl) :
    PE X (.Call (.Name "sorted" p) [e] [⟨some "key", .Lambda params (keyE1 c1 q2 q3 q4) scope lpos, kpos⟩] pos) (tSortLam1 X.K TT t) := by
  refine ⟨fun pins s σ H Q I h => ?_⟩
  refine wpAny_Call_Name_kw (ld_blt I hg hm boot_sorted ?_)
  refine PyProof.Rows.callWith_kw (thn (ha.run pos pins s σ H _ I h) fun us s1 ⟨vs, H1, I1, r1, q1⟩ => ?_) he hpl
  obtain ⟨a, xs, bs, rfl, hs, hp, hb, hso, hT, q⟩ := q1
  obtain rfl := Vals.ref1 r1
  show wpAny _ _ (evalAll ((do let v ← eval (.Lambda params (keyE1 c1 q2 q3 q4) scope lpos) X.env; standAt pos; pure v) :: [])) _ _ s1
  refine wpAny_evalAll_cons (wpAny_bind (lam_make2 I1 TB hcode hmT hu hT hdef (fun y hy e => absurd e (hfree y hy)) fun f c' pm' ctv H2 s2 I2 eN T2 hf hfn hfr hco => wpAny_bind (wpAny_standAt (wpAny_pure (wpAny_evalAll_nil ?_)))))
  show wpAny _ _ (call (.builtin "sorted") [.ref a] [(Str.ofString "key", .ref f)]) _ _ s2
  rw [hclo] at hf
  obtain ⟨its, rv, hl, hz⟩ := I2.list (SqL.extN hs eN)
  have hp2 := hp.extN eN
  obtain ⟨⟨oc, vs, t3, hoc, hdc, hvc⟩, _, _⟩ := I2.hok c' _ hco
  have hd := hr.depth
  have hun := hr.units
  have hzl : (xs.zip bs).length = xs.length := by rw [List.length_zip]; have := hp.1; omega
  refine PySem.W.sorted_key_data (β := V × (Nat × List Nat)) (b := false) (fun p => keyD1 p.2) hl.isList (each_of1 (bs := bs) rv hp.1) (PySem.W.AllAlike.of fun _ _ => by simp [PySem.W.alike]) (PySem.W.Sortable.others fun _ => ⟨by simp, by simp⟩) (by rw [hzl]; exact hz)
    (fun x _ => ?_) (PyProof.Rows.ksk_s1 _ _) (fun _ => PyProof.Rows.ksk_l1 _ _) (fun _ => PyProof.Rows.ksk_t1 _ _) (fun v x hR hx h tk kp => ?_) fun out c4 h' tk kp hfr2 hD hlo eo => ?_
  · have e : (keyD1 x.2).depth = 0 := by simp [PyData.depth]
    rw [e]; omega
  · obtain ⟨i, hi⟩ := List.mem_iff_getElem?.mp hx
    obtain ⟨xv, b⟩ := x
    rw [List.getElem?_zip_eq_some] at hi
    obtain ⟨T, e1, e2⟩ := hp2.2 i b hi.2
    have e3 : xv = .ref T := by rw [hi.1] at e1; exact Option.some.inj e1
    subst e3
    obtain rfl : v = Value.ref T := hR
    obtain ⟨it2, rv2, pl2, _⟩ := I2.tuple e2
    obtain ⟨u1, u2, rfl, ⟨t1, rfl⟩, ⟨t2, rfl⟩⟩ := vals2 rv2
    have hT2 : h.IsTuple T #[.int ((b.1 : Nat) : Int) t1, .str (S b.2) t2] := let ⟨o, e, r⟩ := pl2; ⟨o, kp _ _ e, r⟩
    exact key_call1 (A := X.A.in1.in1) (P := X.prog) (w := X.w) (s := { s2 with heap := h, toks := tk }) (z := S b.2) (by exact hd) (kp _ _ hf) S1 hloc ⟨c', oc, vs, t3, rfl, kp _ _ hoc, hdc, hvc⟩ (hbind _ _ _ _ _) (I2.nolimit.keeps kp) hT2
  · rw [key_sorted1 hp.1 hso] at eo
    have rv3 := vals_of1 (bs := bs) hp.1 eo
    have new : s2.heap.objs.size ≤ s2.heap.objs.size + 1 := Nat.le_succ _
    exact ⟨.ref _, L2.upd H2 (s2.heap.objs.size + 1) (.lst xs), I2.laid (t' := tk) kp new ⟨hz, out, c4, rv3, hD⟩, rfl, q _ _ eN T2 (I2.hok.fresh new)⟩
end
/-! ### readings -/
theorem tyS {K : PySem.W.Frag} {x : Str} {H : Hp} : tyV K "str" (.str x) H := by
  first
  | exact .inl ⟨rfl, _, rfl⟩
  | exact .inr (.inl ⟨rfl, _, rfl⟩)
  | exact .inr (.inr ⟨rfl, _, rfl⟩)
  | (unfold tyV; simp)
def qIdx (x : V) (xs : List V) (H : Hp) (Q : VK) : Prop := ∃ i : Nat, i < 6 ∧ x = .str (S [97, 98, 99, 100, 101, 102]) ∧ xs = [.str (S [97 + i])] ∧ Q (.int ((i : Nat) : Int)) H
theorem occ_letters : ∀ i, i < 6 → ∃ rest, Builtin.Str.occurrences (S [97, 98, 99, 100, 101, 102]) (S [97 + i]) 0 (S [97, 98, 99, 100, 101, 102]).length 1 = i :: rest
  | 0, _ => ⟨[], by decide +kernel⟩
  | 1, _ => ⟨[], by decide +kernel⟩
  | 2, _ => ⟨[], by decide +kernel⟩
  | 3, _ => ⟨[], by decide +kernel⟩
  | 4, _ => ⟨[], by decide +kernel⟩
  | 5, _ => ⟨[], by decide +kernel⟩
  | n + 6, h => absurd h (by omega)
theorem mt_sindexL {X : Cx} : MtR X "str.index" qIdx := by
  intro pins s σ H x xs v us Q I rx rs h
  obtain ⟨i, hi, e1, e2, q⟩ := h
  obtain ⟨rest, ho⟩ := occ_letters i hi
  exact mt_sindex pins s σ H x xs v us Q I rx rs ⟨_, _, i, rest, e1, e2, ho, q⟩
theorem pe_bmK {X : Cx} {T name id : String} {r : V → List V → Hp → VK → Prop} {o e : Expr} {es : List Expr} {to : TE} {t : TA} {apos cpos : Pos} (K : PySem.W.Frag) (hK : X.K = K) (pa : PlainAttrs T) (slot : Slot T name id) (hty : typeOf (.builtin id) = pure (.type "method_descriptor")) (hm : MtR X id r) (ho : PE X o to) (ha : PA X (e :: es) t)
    (hbase : attributeBase o name X.env (eval o X.env) = eval o X.env := by rfl)
    (hfew : ((backTo cpos (starEach (e :: es) X.env)).all (fun x => !x.1) && (backToKw cpos (keywordEach [] X.env)).all (fun x => x.1.isSome) && decide ((e :: es).length + ([] : List Keyword).length + (if ([] : List Keyword).isEmpty then 0 else 1) < 30)) = true := by rfl)
    (hline : (apos.endLine == cpos.line) = true := by rfl) (hs : starEach (e :: es) X.env = (false, eval e X.env) :: starEach es X.env := by rfl) (hplain : (backTo cpos (starEach es X.env)).any (·.1) = false := by rfl) :
    PE X (.Call (.Attribute o name apos) (e :: es) [] cpos) (tBM K T r to t) := by
  subst hK
  exact pe_bm pa slot hty hm ho ha hbase hfew hline hs hplain
section
variable {K : PySem.W.Frag} {σ : St} {H : Hp} {Q : VK} {td ty tx : TE} {a b : Addr} {v z : V}
theorem rd_bmS {r : V → List V → Hp → VK → Prop} {t : TA} {to : TE} (h : to σ H fun x H1 => tyV K "str" x H1 ∧ t σ H1 fun xs H2 => r x xs H2 Q) : tBM K "str" r to t σ H Q := h
theorem rd_qIdx {i : Nat} (hi : i < 6) (q : Q (.int ((i : Nat) : Int)) H) : qIdx (.str (S [97, 98, 99, 100, 101, 102])) [.str (S [97 + i])] H Q := ⟨i, hi, rfl, rfl, q⟩
def qDG (a : Addr) (y : V) (H2 : Hp) (Q : VK) : Prop := ∃ o, DGet H2 a y o ∧ Q (o.getD .non) H2
def qDG0 (x : V) (H1 : Hp) (k : Addr → Prop) : Prop := ∃ a, x = .ref a ∧ IsD H1 a ∧ k a
theorem rd_dget1 (h : td σ H fun x H1 => qDG0 x H1 fun a => ty σ H1 fun y H2 => qDG a y H2 Q) : tDGet1 td ty σ H Q := h
theorem rd_dsetd (h : td σ H fun x H1 => qDG0 x H1 fun a => ty σ H1 fun y H2 => tx σ H2 fun z H3 => ∃ (kvs : List (Key × V)) (k : Key), H3 a = some (.dK kvs) ∧ y = kV k ∧ kvs.length < sizeLine ∧ (∀ v, valV kvs k = some v → Q v H3) ∧ (valV kvs k = none → Q z (L2.upd H3 a (.dK (putK kvs k z))))) : tDSetd td ty tx σ H Q := h
theorem rd_dsetdT (h : td σ H fun x H1 => qDG0 x H1 fun a => ty σ H1 fun y H2 => tx σ H2 fun z H3 => ∃ (kvs : List (List Key × V)) (k : List Key) (b : Addr), H3 a = some (.dT kvs) ∧ y = .ref b ∧ H3 b = some (.tup (k.map kV)) ∧ kvs.length < sizeLine ∧ (∀ v, valV kvs k = some v → Q v H3) ∧ (valV kvs k = none → Q z (L2.upd H3 a (.dT (putK kvs k z))))) : tDSetdT td ty tx σ H Q := h
theorem rd_dg0K {kvs : List (Key × V)} {k : Addr → Prop} (h : H a = some (.dK kvs)) (q : k a) : qDG0 (.ref a) H k := ⟨a, rfl, .inl ⟨kvs, .inl h⟩, q⟩
theorem rd_dg0T {kvs : List (List Key × V)} {k : Addr → Prop} (h : H a = some (.dT kvs)) (q : k a) : qDG0 (.ref a) H k := ⟨a, rfl, .inr ⟨kvs, .inl h⟩, q⟩
theorem rd_dgK {kvs : List (Key × V)} (k : Key) (h : H a = some (.dK kvs)) (q : Q ((valV kvs k).getD .non) H) : qDG a (kV k) H Q := ⟨_, DGet.k h, q⟩
theorem rd_dgT {kvs : List (List Key × V)} (k : List Key) (h : H a = some (.dT kvs)) (e : H b = some (.tup (k.map kV))) (q : Q ((valV kvs k).getD .non) H) : qDG a (.ref b) H Q := ⟨_, DGet.t h e, q⟩
theorem rd_sortLam1 {TT : List (Addr × Str)} {t : TA} (h : t σ H fun vs H1 => qSortLam1 K TT vs H1 Q) : tSortLam1 K TT t σ H Q := h
end
end My
/-! Dicts whose keys are nodes; readings. -/
namespace My
open PySem PySem.Spec L2 SX Mon
open PyProof.Rows hiding St
def kwK (f : Nat × List Nat → V) (kw : Kw) : List (Key × V) := kw.map fun q => (.inl ((q.1 : Nat) : Int), f q)
abbrev kI (y : Nat) : Key := .inl ((y : Nat) : Int)
theorem kI_inj {x y : Nat} : kI x = kI y ↔ x = y := ⟨fun h => by have := Sum.inl.inj h; omega, fun h => by rw [h]⟩
theorem kw_none {f : Nat × List Nat → V} {y : Nat} : ∀ kw : Kw, y ∉ keys kw → valV (kwK f kw) (kI y) = none
  | [], _ => rfl
  | p :: kw, h => by
    have h1 : p.1 ≠ y := fun e => h (mem_keys.mpr ⟨p, List.mem_cons_self, e⟩)
    have h2 : y ∉ keys kw := fun k => by
      obtain ⟨q, hq, e⟩ := mem_keys.mp k
      exact h (mem_keys.mpr ⟨q, List.mem_cons_of_mem _ hq, e⟩)
    unfold kwK
    rw [List.map_cons, valV_neg (fun e => h1 (kI_inj.mp e))]
    exact kw_none kw h2
theorem kw_some {f : Nat × List Nat → V} {p : Nat × List Nat} : ∀ kw : Kw, (keys kw).Nodup → p ∈ kw → valV (kwK f kw) (kI p.1) = some (f p)
  | [], _, h => by cases h
  | q :: kw, hn, h => by
    have hn2 : q.1 ∉ keys kw ∧ (keys kw).Nodup := by
      have e : keys (q :: kw) = q.1 :: keys kw := rfl
      rw [e] at hn
      exact List.nodup_cons.mp hn
    unfold kwK
    rw [List.map_cons]
    rcases List.mem_cons.mp h with h | h
    · subst h
      exact valV_pos rfl
    · have h1 : q.1 ≠ p.1 := fun e => hn2.1 (mem_keys.mpr ⟨p, h, e.symm⟩)
      rw [valV_neg (fun e => h1 (kI_inj.mp e))]
      exact kw_some kw hn2.2 h
theorem kw_has {f : Nat × List Nat → V} {y : Nat} (kw : Kw) (hn : (keys kw).Nodup) : (valV (kwK f kw) (kI y)).isSome = decide (y ∈ keys kw) := by
  by_cases h : y ∈ keys kw
  · obtain ⟨p, hp, rfl⟩ := mem_keys.mp h
    rw [kw_some kw hn hp, decide_eq_true h]; rfl
  · rw [kw_none kw h, decide_eq_false h]; rfl
theorem kw_put {f : Nat × List Nat → V} {p : Nat × List Nat} (kw : Kw) (h : p.1 ∉ keys kw) : putK (kwK f kw) (kI p.1) (f p) = kwK f (kw ++ [p]) := by
  unfold putK
  rw [valV_any, kw_none kw h, if_neg (by simp)]
  unfold kwK
  rw [List.map_append]
  rfl
theorem kwK_len (f : Nat × List Nat → V) (kw : Kw) : (kwK f kw).length = kw.length := by unfold kwK; simp
theorem keys_len (kw : Kw) : (keys kw).length = kw.length := by unfold keys; simp
theorem keys_get {kw : Kw} {i : Nat} {p : Nat × List Nat} (h : kw[i]? = some p) : (rowV (keys kw))[i]? = some (vI p.1) := by
  unfold rowV keys
  rw [List.getElem?_map, List.getElem?_map, h]; rfl
theorem keys_snoc (kw : Kw) (p : Nat × List Nat) : keys (kw ++ [p]) = keys kw ++ [p.1] := by unfold keys; rw [List.map_append]; rfl
section
variable {K : PySem.W.Frag} {σ : St} {H : Hp} {Q : VK} {td tk tv : TE} {a : Addr} {v : V}
theorem rd_inKw {f : Nat × List Nat → V} {kw : Kw} {y : Nat} (hn : (keys kw).Nodup) (h : H a = some (.dK (kwK f kw))) (q : Q (.bl (decide (y ∈ keys kw))) H) : qDIn false (vI y) (.ref a) H Q := rd_qInK (kI y) h (by rw [kw_has kw hn]; exact q)
theorem rd_notInKw {f : Nat × List Nat → V} {kw : Kw} {y : Nat} (hn : (keys kw).Nodup) (h : H a = some (.dK (kwK f kw))) (q : Q (.bl (!decide (y ∈ keys kw))) H) : qDIn true (vI y) (.ref a) H Q := rd_qInK (kI y) h (by rw [kw_has kw hn]; exact q)
theorem rd_disp1 (h : ∀ p, H p = none → tk σ (L2.upd H p (.dK [])) fun x H1 => tv σ H1 fun y H2 => H2 p = some (.dK []) ∧ ∃ k : Key, x = kV k ∧ Q (.ref p) (L2.upd H2 p (.dK [(k, y)]))) : tDisp [(tk, tv)] σ H Q := by
  intro p hp
  have h1 := h p hp
  show tk σ (L2.upd H p (.dK [])) fun x H1 => tv σ H1 fun y H2 => H2 p = some (.dK []) ∧ ∃ kvs : List (Key × V), [(x, y)] = kvs.map (fun kv => (kV kv.1, kv.2)) ∧ kvs.length ≤ 15 ∧ Q (.ref p) (L2.upd H2 p (.dK (mergeK [] kvs)))
  have e : (fun (x : V) (H1 : Hp) => tv σ H1 fun y H2 => H2 p = some (.dK []) ∧ ∃ kvs : List (Key × V), [(x, y)] = kvs.map (fun kv => (kV kv.1, kv.2)) ∧ kvs.length ≤ 15 ∧ Q (.ref p) (L2.upd H2 p (.dK (mergeK [] kvs)))) = fun (x : V) (H1 : Hp) => tv σ H1 fun y H2 => H2 p = some (.dK []) ∧ ∃ k : Key, x = kV k ∧ Q (.ref p) (L2.upd H2 p (.dK [(k, y)])) := by
    funext x H1
    congr 1
    funext y H2
    apply propext
    constructor
    · rintro ⟨g, kvs, e1, _, q⟩
      match kvs, e1, q with
      | [kv], e1, q =>
        have e2 := List.head_eq_of_cons_eq e1
        have e3 : x = kV kv.1 := congrArg Prod.fst e2
        have e4 : y = kv.2 := congrArg Prod.snd e2
        exact ⟨g, kv.1, e3, by rw [e4]; exact q⟩
    · rintro ⟨g, k, e1, q⟩
      exact ⟨g, [(k, y)], by rw [e1]; rfl, Nat.le_of_ble_eq_true rfl, q⟩
  rw [e]
  exact h1
theorem rd_qIdx' {c : Nat} (h1 : 97 ≤ c) (h2 : c < 103) (q : Q (vI (c - 97)) H) : qIdx (.str (S [97, 98, 99, 100, 101, 102])) [.str (S [c])] H Q := by
  have e : c = 97 + (c - 97) := by omega
  rw [e]
  refine rd_qIdx (by omega) ?_
  exact q
end
theorem lett {l : Nat} (h : l < 6) : atI [97, 98, 99, 100, 101, 102] ((l : Nat) : Int) = some (97 + l) := atI_nat (by
  match l, h with
  | 0, _ => rfl
  | 1, _ => rfl
  | 2, _ => rfl
  | 3, _ => rfl
  | 4, _ => rfl
  | 5, _ => rfl)
theorem mem_known {m c : Nat} (m6 : m ≤ 6) (h : 97 ≤ c ∧ c < 97 + m) : c ∈ [97, 98, 99, 100, 101, 102].take m := by
  match m, m6 with
  | 0, _ => omega
  | 1, _ => simp; omega
  | 2, _ => simp; omega
  | 3, _ => simp; omega
  | 4, _ => simp; omega
  | 5, _ => simp; omega
  | 6, _ => simp; omega
theorem pe_fldK {X : Cx} {e : Expr} {f : Str} {ta : TE} {pos : Pos} (K : PySem.W.Frag) (hK : X.K = K) (he : PE X e ta) (hb : attributeBase e f X.env (eval e X.env) = eval e X.env) : PE X (.Attribute e f pos) (tFld K ta f) := by
  subst hK
  exact pe_fld he hb
theorem pi_listK {X : Cx} {tg e : Expr} {te : TE} (K : PySem.W.Frag) (hK : X.K = K) (he : PE X e te) : PI X tg e (iList K te) := by
  subst hK
  exact pi_list he
theorem pi_tupK {X : Cx} {tg e : Expr} {te : TE} (K : PySem.W.Frag) (hK : X.K = K) (he : PE X e te) : PI X tg e (iTup K te) := by
  subst hK
  exact pi_tup he
end My
/-! Comprehensions over pairs that make objects; lists of pairs of a number and a text. -/
namespace My
open PySem PySem.Spec L2 SX LamX Mon
open PyProof.Rows hiding St
section
variable {σ : St} {H : Hp} {Q : VK} {te : TE} {vs : List Nat} {K : PySem.W.Frag}
theorem lc_invP {J : It} {n : Nat} {G : Hp → Prop} {A B : Nat → Option V} (w : Walk J n G (YPair A B)) {a b : Nat} (Pv : Addr → Nat → List V → Hp → Prop) (hn : n ≤ 50000) (hw : ∀ x y, wipe (((wipe σ vs).set a (some x)).set b (some y)) vs = wipe σ vs)
    (hG : ∀ D i acc H', Pv D i acc H' → G H') (h0 : ∀ D, H D = none → Pv D 0 [] (L2.upd H D (.lst [])))
    (hs : ∀ (D : Addr) (i : Nat) (x y : V) (T : Addr) (acc : List V) (H' : Hp) (Q : VK), i < n → A i = some x → B i = some y → H D = none → acc.length = i → Pv D i acc H' → H' D = some (.lst acc) → H' T = none →
      (∀ v H2, H2 D = some (.lst acc) → Pv D (i + 1) (acc ++ [v]) (L2.upd H2 D (.lst (acc ++ [v]))) → Q v H2) → te (((wipe σ vs).set a (some x)).set b (some y)) (L2.upd H' T (.tup [x, y])) Q)
    (q : ∀ (D : Addr) (acc : List V) (H' : Hp), H D = none → acc.length = n → Pv D n acc H' → H' D = some (.lst acc) → Q (.ref D) H') : LcG J (gp2 K a b) tYes te vs σ Q H := by
  intro D hD
  refine lc_it w (fun i H' => ∃ acc : List V, H' D = some (.lst acc) ∧ acc.length = i ∧ Pv D i acc H') ⟨[], upd_same, rfl, h0 D hD⟩ (fun i H' _ ⟨acc, _, _, p⟩ => hG D i acc H' p) ?_ ?_
  · rintro i v H1 H1' hi ⟨acc, ha, hl, p⟩ ⟨T, x, y, rfl, hT, rfl, hx, hy⟩
    refine ⟨T, [x, y], rfl, SqT.of upd_same, rfl, x, [y], rfl, y, [], rfl, rfl, hw x y, ?_⟩
    unfold tYes
    dsimp only
    rw [if_pos rfl]
    refine hs D i x y T acc _ _ hi hx hy hD hl p ha hT fun z H2 h2 p2 => ⟨acc, h2, szlt (by omega), acc ++ [z], upd_same, ?_, p2⟩
    rw [List.length_append, hl]
    rfl
  · rintro H1 ⟨acc, ha, hl, p⟩
    exact q D acc H1 hD hl p ha
end
def PNs (H : Hp) (as : List Addr) (bs : Kw) : Prop := as.length = bs.length ∧ ∀ (i : Nat) (a : Addr) (b : Nat × List Nat), as[i]? = some a → bs[i]? = some b → H a = some (.tup [vI b.1, .str (S b.2)])
def PN (H : Hp) (p : Addr) (bs : Kw) : Prop := ∃ as, H p = some (.lst (refs as)) ∧ PNs H as bs
theorem PNs.keep {H H' : Hp} {as : List Addr} {bs : Kw} (h : PNs H as bs) (k : ∀ a xs, H a = some (.tup xs) → H' a = some (.tup xs)) : PNs H' as bs := ⟨h.1, fun i a b e1 e2 => k _ _ (h.2 i a b e1 e2)⟩
theorem PN.kq {H H' : Hp} {p : Addr} {bs : Kw} (h : PN H p bs) (k : Kq H H') : PN H' p bs := let ⟨as, h1, h2⟩ := h; ⟨as, k.1 _ _ h1, h2.keep k.2⟩
theorem PNs.app {H : Hp} {as cs : List Addr} {bs ds : Kw} (h : PNs H as bs) (g : PNs H cs ds) : PNs H (as ++ cs) (bs ++ ds) := by
  refine ⟨by simp [h.1, g.1], fun i a b e1 e2 => ?_⟩
  have hl := h.1
  by_cases hi : i < as.length
  · rw [List.getElem?_append_left hi] at e1
    rw [List.getElem?_append_left (by omega)] at e2
    exact h.2 i a b e1 e2
  · rw [List.getElem?_append_right (by omega)] at e1 e2
    rw [← hl] at e2
    exact g.2 _ a b e1 e2
theorem PNs.one {H : Hp} {a : Addr} {b : Nat × List Nat} (h : H a = some (.tup [vI b.1, .str (S b.2)])) : PNs H [a] [b] := ⟨rfl, fun i c d e1 e2 => by
  have hi : i = 0 := by have := (List.getElem?_eq_some_iff.mp e1).1; simp at this; omega
  subst hi
  cases e1
  cases e2
  exact h⟩
theorem PNs.pairs {K : PySem.W.Frag} {H : Hp} {as : List Addr} {bs : Kw} (h : PNs H as bs) : PairsN K H (refs as) bs := by
  refine ⟨by rw [refs_len]; exact h.1, fun i b hb => ?_⟩
  have hi : i < as.length := by rw [h.1]; exact (List.getElem?_eq_some_iff.mp hb).1
  exact ⟨as[i], getElem?_refs (List.getElem?_eq_getElem hi), SqT.of (h.2 i _ b (List.getElem?_eq_getElem hi) hb)⟩
theorem refs_app (as cs : List Addr) : refs (as ++ cs) = refs as ++ refs cs := by unfold refs; rw [List.map_append]
/-- a list of pairs does not change where another list does -/
theorem PN.other {H : Hp} {p r : Addr} {bs : Kw} {xs ys : List V} (h : PN H p bs) (hr : H r = some (.lst xs)) (n : p ≠ r) : PN (L2.upd H r (.lst ys)) p bs := by
  obtain ⟨as, h1, h2⟩ := h
  refine ⟨as, by rw [upd_ne n]; exact h1, h2.keep fun c xs e => ?_⟩
  rw [upd_ne (ne_of e hr (fun z => nomatch z))]; exact e
end My
/-! Defs that are called where nothing is being shown (the guards are known to be none): so repr of lists and tuples may stand in them. -/
namespace My
open PySem PySem.Spec L2 SX
open PyProof.Rows hiding St
section
variable {P : Program} {w : World} {K : PySem.W.Frag} {mg : Str → Option Value} {base : Heap} {CX : CXT} {j k : Nat} {f : Addr} {fd : FuncData} {ps : List Str} {sp : Sp}
/-- a promise that asks for no guards around -/
structure FnG (P : Program) (w : World) (K : PySem.W.Frag) (mg : Str → Option Value) (base : Heap) (CX : CXT) (k : Nat) (f : Addr) (fd : FuncData) (ps : List Str) (sp : Sp) : Prop where
  lenG : ∀ vs H Q E, sp vs H Q E → vs.length = ps.length
  runG : ∀ (A : Around) (outer : List Env) (s : Shared) (H : Hp) (args : Args) (us : List Value) (vs : List V) (Q : VK) (E : XK), A.guards = some [] → Room k A → Env0 P w K mg base A outer s H → BindsTo s fd args (ps.zip us) → Vals vs us → sp vs H Q E → codeAny (model P w) A (.call (.ref f) args) (CR CX outer P w H s Q E) s
theorem FnG.of (F : FnOk P w K mg base CX k f fd ps sp) : FnG P w K mg base CX k f fd ps sp := { lenG := F.len, runG := fun A o s H a us vs Q E _ hr e0 hb hv hs => F.run A o s H a us vs Q E hr e0 hb hv hs }
theorem FnG.mono (F : FnG P w K mg base CX j f fd ps sp) (h : j ≤ k) : FnG P w K mg base CX k f fd ps sp := { lenG := F.lenG, runG := fun A o s H a us vs Q E hg hr e0 hb hv hs => F.runG A o s H a us vs Q E hg (hr.mono h) e0 hb hv hs }
/-- a def of the text, by its body -/
theorem fnG_of {name qual : Str} {params : Arguments} {body : List Stmt} {scope : Scope} {dV kV doc pm cdv ct oc : Value} {an od : Option Addr} {osl : Array (Option Value)} {N : List Str}
    (lk : K.lookup f = some ⟨oc, od, .func (PySem.W.fnOf name qual params body scope dV kV doc pm an cdv ct), osl⟩) (hcd : PySem.W.codeIn K cdv qual = true) (S : FnScope N ps scope) (len : ∀ vs H Q E, sp vs H Q E → vs.length = ps.length)
    (hbody : ∀ (A : Around) (outer : List Env) (s : Shared) (H : Hp) (vs : List V) (Q : VK) (E : XK), A.guards = some [] → Room k (A.deeper (envOfC qual scope s.heap.objs.size f cdv)) → sp vs H Q E →
      ∃ t, PSs (cxOf CX P w K mg base N qual scope f cdv A outer s H E) body t ∧ t { nx := fun _ H' => Q .non H', rt := Q } (start N vs) H) :
    FnG P w K mg base CX (k + 1) f (PySem.W.fnOf name qual params body scope dV kV doc pm an cdv ct) ps sp := by
  refine { lenG := len, runG := ?_ }
  intro A outer s H args us vs Q E hg hr e0 hb hv hs
  have inK : K.In s.heap := e0.mod.kin.keeps fun b o q => (e0.bs b o q).1
  have noL : s.heap.NoLimit := e0.mod.nolimit.keeps fun b o q => (e0.bs b o q).1
  have kinds : ∀ y ∈ ps.zip us, scope.names.lookup y.1 = some .local ∨ (scope.names.lookup y.1 = some .cell ∧ ((cellsFrom (s.heap.objs.size + 1) scope.names []).lookup y.1).isSome = true) := by
    rintro ⟨n, v⟩ hy
    exact (S.par n (List.of_mem_zip hy).1).imp id fun q => ⟨q, PySem.W.cellsFrom_some _ _ _ (.inl q)⟩
  refine codeAny_call_function hr.depth (inK _ _ lk) rfl S.co S.gen rfl (PySem.W.codeRec_of inK hcd) (hb _ _ _ _ (wpAny_newFunctionEnv_cells S.kind kinds fun env he s1 x => ?_))
  subst he
  obtain ⟨t, ht, hq⟩ := hbody A outer s H vs Q E hg (hr.deeper _) hs
  have I0 := inv_start (CX := CX) (mg := mg) (base := base) (f := f) (cd := cdv) (E := E) S hr.hd e0 (len _ _ _ _ hs) hv x
  refine ⟨noL.keeps x.toInCall.keep, codeAny_func (wpAny_mono (ht.run [] s1 (start N vs) H _ I0 hq) (fun fl s' hx => ?_) fun e s' hx => hx)⟩
  match fl, hx with
  | .ret u, ⟨v, _, H', J, rv, q⟩ => exact ⟨v, H', J.os, J.bare, J.base, J.hok, rv, q⟩
  | .next, ⟨_, H', J, q⟩ => exact ⟨V.non, H', J.os, J.bare, J.base, J.hok, rfl, q⟩
  | .brk, ⟨_, _, _, q⟩ => exact q.elim
  | .cont, ⟨_, _, _, q⟩ => exact q.elim
theorem okG {x qual : Str} {st : Stmt} {N : List Str} (F : Fun K x qual st f fd) (S : FnScope N ps (defScope st)) (len : ∀ vs H Q E, sp vs H Q E → vs.length = ps.length)
    (hbody : ∀ (cdv : Value) (A : Around) (outer : List Env) (s : Shared) (H : Hp) (vs : List V) (Q : VK) (E : XK), A.guards = some [] → Room k (A.deeper (envOfC qual (defScope st) s.heap.objs.size f cdv)) → sp vs H Q E →
      ∃ t, PSs (cxOf L2.CX0 P w K mg base N qual (defScope st) f cdv A outer s H E).nox (defBody st) t ∧ t { nx := fun _ H' => Q .non H', rt := Q } (start N vs) H) : FnG P w K mg base L2.CX0 (k + 1) f fd ps sp := by
  obtain ⟨oc, od, kV, doc, pm, an, cdv, ct, osl, e, lk, hcd⟩ := F.ex
  subst e
  exact fnG_of lk hcd S len fun A outer s H vs Q E hg hr hs => let ⟨t, a, b⟩ := hbody cdv A outer s H vs Q E hg hr hs; ⟨t, a.nox, b⟩
end
/-- a def that may be called by name where there are no guards -/
structure CalG (P : Program) (w : World) (K : PySem.W.Frag) (mg : Str → Option Value) (base : Heap) (k : Nat) (x : Str) (sp : Sp) : Prop where
  ex : ∃ (f : Addr) (fd : FuncData) (ps : List Str), FnG P w K mg base L2.CX0 k f fd ps sp ∧ mg x = some (.ref f) ∧ PySem.W.keepIn K (.ref f) = true ∧ Binds K fd ps []
section
variable {X : Cx} {k j : Nat} {x : Str} {f : Addr} {fd : FuncData} {ps : List Str} {sp : Sp} {p pos : Pos} {e : Expr} {es : List Expr} {t : TA}
theorem runG {pins : List (Addr × Obj)} {σ : L2.St} {H : Hp} {s : Shared} {Q : VK} {us : List Value} {vs : List V} {E : XK} (F : FnG X.prog X.w X.K X.mg X.base L2.CX0 k f fd ps sp) (gd : X.A.guards = some []) (hr : Room k X.A) (hb : Binds X.K fd ps [])
    (I : Inv X pins σ H s) (r : Vals vs us) (h : sp vs H Q E) : wpAny (model X.prog X.w) X.A (call (.ref f) us) (EP X pins σ Q) X.xe s := by
  have hl : (us ++ []).length = ps.length := by rw [List.append_nil, ← r.length]; exact F.lenG _ _ _ _ h
  have hbs := hb s us I.kIn hl
  rw [List.append_nil] at hbs
  refine wpAny_call (codeAny_mono (F.runG X.A X.stack s H ⟨us, []⟩ us vs Q E gd hr I.env0 hbs r h) fun r s' hq => ?_)
  match r, hq with
  | .error _, hq => exact hq.elim
  | .ok (.ret _), hq => exact I.after hq
  | .ok .next, hq => exact hq.elim
  | .ok .brk, hq => exact hq.elim
  | .ok .cont, hq => exact hq.elim
theorem pe_cG (c : CalG X.prog X.w X.K X.mg X.base k x sp) (gd : X.A.guards = some []) (hr : Room j X.A) (hk : k ≤ j) (hg : Gl X x) (ha : PA X (e :: es) t)
    (hdb : (x == ("__debug__" : Str)) = false := by decide) (he : starEach (e :: es) X.env = (false, eval e X.env) :: starEach es X.env := by rfl) (hpl : (backTo pos (starEach es X.env)).any (·.1) = false := by rfl) :
    PE X (.Call (.Name x p) (e :: es) [] pos) (tCall sp [] L2.E0 t) := by
  obtain ⟨f, fd, ps, F, hm, kp, b⟩ := c.ex
  constructor
  intro pins s σ H Q I h
  refine wpAny_Call_Name_kw (ld_glob I hg hm (PySem.W.callWith_K (h₀ := X.base) I.ok.mod.kin kp (thn (ha.run pos pins s σ H _ I h) fun us s1 hx => ?_) he hpl) hdb)
  obtain ⟨vs, H1, I1, r, q⟩ := hx
  rw [List.append_nil] at q
  exact ⟨I1.kIn, runG F gd (hr.mono hk) b I1 r q⟩
theorem pe_c0G (c : CalG X.prog X.w X.K X.mg X.base k x sp) (gd : X.A.guards = some []) (hr : Room j X.A) (hk : k ≤ j) (hg : Gl X x) (hdb : (x == ("__debug__" : Str)) = false := by decide) :
    PE X (.Call (.Name x p) [] [] pos) (tCall sp [] L2.E0 tNil) := by
  obtain ⟨f, fd, ps, F, hm, kp, b⟩ := c.ex
  constructor
  intro pins s σ H Q I h
  have h' : sp ([] ++ []) H Q L2.E0 := h
  exact wpAny_Call_Name_kw (ld_glob I hg hm (PySem.W.callWith_K0 I.kIn kp (runG (us := []) F gd (hr.mono hk) b I .nil (by rwa [List.append_nil] at h'))) hdb)
/-- repr of plain data -/
def qRepr (K : PySem.W.Frag) : List V → Hp → VK → Prop := fun xs H Q => ∃ (a : Addr) (d : PyData), xs = [.ref a] ∧ Dp K H (.ref a) d ∧ d.showable = true ∧ d.hasDict = false ∧ d.depth ≤ 10 ∧ d.shown.length ≤ sizeLine ∧ Q (.str d.shown) H
theorem cq_repr (gd : X.A.guards = some []) (hr : Room k X.A) : CallR X (.builtin "repr") (qRepr X.K) := by
  intro pins s σ H xs us Q I r h
  obtain ⟨a, d, rfl, hd, hs, hdd, hdp, hz, q⟩ := h
  obtain rfl := Vals.ref1 r
  obtain ⟨as, rd⟩ := Dp.reads I d (.ref a) (.ref a) hd rfl
  have hu := hr.units
  exact repr_of_reads' rd hs (fun e => by rw [hdd] at e; cases e) gd (by omega) (fun _ _ e => e) (fun h' u tk hk => ⟨.str d.shown, H, I.kept (t' := tk) hk, ⟨u, rfl⟩, q⟩) hz
end
end My
/-! The end for a law whose promise asks for no guards around: the top's call has none. -/
namespace My
open PySem PySem.Spec L2 SX
open PyProof.Rows hiding St
/-- what is tracked at the call of the law: the script, if it is none of the written objects -/
def Hs (a : Addr) (o : Obj) (ns : List Int) : Hp := fun b => if b = a then some (.frz o (.lst (ns.map V.int))) else none
theorem Hs_at {a : Addr} {o : Obj} {ns : List Int} : Hs a o ns a = some (.frz o (.lst (ns.map V.int))) := if_pos rfl
theorem Hs_off {a b : Addr} {o : Obj} {ns : List Int} (h : b ≠ a) : Hs a o ns b = none := if_neg h
section
variable {P : Program} {w : World} {K : PySem.W.Frag} {mg mb : Str → Option Value} {k : Nat} {fa a : Addr} {fd : FuncData} {x : Str} {sp : Sp} {s : Shared} {vs : List Value} {ns : List Int}
/-- from a heap of what is tracked to the call -/
theorem law_coreG (KX : K.In s.heap) (hns : s.heap.Ns mainGlobals mg) (hb : s.heap.Ns builtinsNs mb) (hbb : ∀ x : Str, x ≠ "__name__" → mb x = bootBuiltins x) (hlim : s.heap.NoLimit) (hg : s.gens = #[])
    (ha : s.heap.get? a = some { cls := .type "list", data := .seq vs.toArray }) (hr : Room k callerA)
    (F : ∀ base : Heap, K.In base → base.Ns mainGlobals mg → FnG P w K mg base L2.CX0 k fa fd [x] sp) (hbind : ∀ (s : Shared) (u : Value), BindsTo s fd ⟨[u], []⟩ [(x, u)])
    (H : Hp) (hfrz : ∀ b u, H b = some u → b = a ∧ ∃ o xs, u = .frz o (.lst xs)) (hsp : sp [.ref a] H (fun v _ => v = .bl true) fun _ _ _ => False) (hok : HOk P w H s.heap) (hK : H a ≠ none → K.lookup a = none) :
    codeAny (model P w) callerA (.call (.ref fa) ⟨[.ref a], []⟩) (fun r s' => r = .ok (.ret (.bool true)) ∧ OldK s.heap s'.heap ∧ s'.os = s.os ∧ AllBare s'.gens) s := by
  have nd : ∀ {b : Addr} {o : Obj} {es : Array DictEntry} {ep : Nat}, s.heap.get? b = some o → o.data = .dict es ep → H b = none := by
    intro b o es ep e d
    match q : H b with
    | none => rfl
    | some u =>
      obtain ⟨rfl, _⟩ := hfrz b u q
      rw [ha] at e
      cases e
      cases d
  have ns2 : ∀ {b : Addr} {m : Str → Option Value}, s.heap.Ns b m → (hidT s.heap H).Ns b m := by
    rintro b m ⟨o, es, ep, e, d, r⟩
    exact ⟨o, es, ep, hidT_get e (nd e d), d, r⟩
  have inb : K.In (hidT s.heap H) := by
    intro b o e
    refine hidT_get (KX b o e) ?_
    match q : H b with
    | none => rfl
    | some u =>
      obtain ⟨rfl, _⟩ := hfrz b u q
      rw [hK (by rw [q]; exact Option.some_ne_none _)] at e
      cases e
  obtain ⟨mc, l1, l2⟩ := hlim
  have M : Mod K mg (hidT s.heap H) := ⟨inb, ns2 hns, ⟨mb, ns2 hb, hbb⟩, ⟨mc, ns2 l1, l2⟩⟩
  have e0 : Env0 P w K mg (hidT s.heap H) callerA [] s H := { frames := rfl, mod := M, bs := fun b o e => of_hidT e, bsz := Nat.le_of_eq (hidT_size _ _), funs := trivial, frf := (fun b hb => nomatch hb), hok := hok, bare := .of_eq hg }
  have run := (F _ inb (ns2 hns)).runG callerA [] s H ⟨[.ref a], []⟩ [.ref a] [.ref a] _ _ rfl hr e0 (hbind s (.ref a)) (.cons rfl .nil) hsp
  refine codeAny_mono run fun r s' h => ?_
  match r, h with
  | .error _, h => exact h.elim
  | .ok .next, h => exact h.elim
  | .ok .brk, h => exact h.elim
  | .ok .cont, h => exact h.elim
  | .ok (.ret u), ⟨v, H', os, bare, un, hok', r', q⟩ =>
    obtain rfl : v = .bl true := q
    obtain rfl : u = Value.bool true := r'
    refine ⟨rfl, OldK.of_keep (fun b o e => ?_), os, bare⟩
    match q : H b with
    | none => exact un.keep b o e q (fun z => by cases z) (fun z => by cases z)
    | some u =>
      obtain ⟨_, ob, xs, rfl⟩ := hfrz b u q
      have e1 := (hok b _ q).1
      have e2 := (hok' b _ (un.frzs b ob _ q)).1
      rw [e] at e1
      cases e1
      exact e2
end
theorem walk_ofG {l : PySem.W.OpenLaw} {n k : Nat} {q : Program} {loose : List Str} {XP : (Str → Option Value) → Heap → Prop} {YP : World → Heap → Prop} {d : DefRec} {K : Params → PySem.W.Frag} {sp : PySem.W.Frag → Sp} {x : Str}
    (hn : l.most = some n) (hn2 : n ≤ sizeLine) (hdf : d.params.defaults = []) (hr : Room k callerA) (hY : ∀ (w : World) (h : Heap), YP w h → (K w.params).In h)
    (F : ∀ (w : World) (mg : Str → Option Value) (fa : Addr) (h : Heap), (K w.params).In h → h.Ns mainGlobals mg → mg d.name = some (.ref fa) →
      ∃ fd : FuncData, (∀ (s : Shared) (u : Value), BindsTo s fd ⟨[u], []⟩ [(x, u)]) ∧ ∀ base : Heap, (K w.params).In base → base.Ns mainGlobals mg → FnG l.prog w (K w.params) mg base L2.CX0 k fa fd [x] (sp (K w.params)))
    (hsp : ∀ (K : PySem.W.Frag) (H : Hp) (a : Addr) (ns : List Int), ns.length ≤ n → SqL K H a (ns.map V.int) → sp K [.ref a] H (fun v _ => v = .bl true) fun _ _ _ => False) :
    PySem.W.WalkO q loose XP YP l.row.toRowW d [] (fun f vs => PySem.call f vs) := by
  refine Att.attach_call hn hdf fun w s₀ s mg mb fa o pm cd doc a vs ns G Y ho hd hcd hmg hobj hints hlen hg => ?_
  have KX := hY w _ Y
  obtain ⟨fd, hb, hF⟩ := F w mg fa _ KX G.T.g hmg
  have rv := L2.vals_ints hints
  have zl : ns.length ≤ sizeLine := Nat.le_trans hlen hn2
  match hk : (K w.params).lookup a with
  | some ob =>
    have e := KX a ob hk
    rw [hobj] at e
    cases e
    have S : SqL (K w.params) (fun _ => none) a (ns.map V.int) := .inr ⟨_, vs.toArray, _, hk, rfl, rfl, rfl, by rw [List.size_toArray, hints.length]; exact zl, by simpa using rv⟩
    exact law_coreG KX G.T.g G.T.b G.T.builtins G.T.nolimit hg hobj hr hF hb (fun _ => none) (fun b u z => by cases z) (hsp _ _ a ns hlen S) (fun b u z => by cases z) (fun z => absurd rfl z)
  | none =>
    have S : SqL (K w.params) (Hs a { cls := .type "list", data := .seq vs.toArray } ns) a (ns.map V.int) := .inl (.inr ⟨_, Hs_at⟩)
    refine law_coreG KX G.T.g G.T.b G.T.builtins G.T.nolimit hg hobj hr hF hb (Hs a { cls := .type "list", data := .seq vs.toArray } ns) (fun b u z => ?_) (hsp _ _ a ns hlen S) (fun b u z => ?_) (fun _ => hk)
    · by_cases e : b = a
      · subst e
        rw [Hs_at] at z
        cases z
        exact ⟨rfl, _, _, rfl⟩
      · rw [Hs_off e] at z
        cases z
    · by_cases e : b = a
      · subst e
        rw [Hs_at] at z
        cases z
        exact ⟨hobj, by rw [List.length_map]; exact zl, vs, _, rv, hobj⟩
      · rw [Hs_off e] at z
        cases z
end My
/-! sets of ints of lists and tuples: set(xs), len, sorted. -/
namespace SetS
open PySem PySem.Spec PyProof.Rows L2
abbrev newSetI (w : World) : Obj := { cls := .type "set", dict := none, data := .set #[] 0 (.fresh 0 0 (!w.params.followText "set-order")) }
section
variable {P : Program} {w : World} {A : Around} {E : Value → Shared → Prop} {s : Shared} {a : Addr}
theorem call_set_lstI {l : Addr} {items : Array Value} (xs : List Int) {Q : Value → Shared → Prop} (hh : A.handled = none) (hl : s.heap.IsList l items) (hit : PyProof.Rows.IntsAre items.toList xs) (hb : xs.length + 1 < scanBound)
    (k : ∀ (h' : Heap) (tk c : Nat), SetR w h' s.heap.objs.size (fun j => decide (j ∈ xs)) c → c ≤ xs.length → (∀ b o, s.heap.get? b = some o → h'.get? b = some o) → Q (.ref s.heap.objs.size) { s with heap := h', toks := tk }) :
    wpAny (model P w) A (call (.type "set") [.ref l]) Q E s := by
  have isz : items.size = xs.length := by have q := PyProof.Rows.IntsAre.length hit; rw [Array.length_toList] at q; exact q
  obtain ⟨c, tl, hmro⟩ := F.called_set.mro
  have hmade := F.called_set.made
  have hsub := F.called_set.sub
  refine wpAny_call (codeAny_of_tree ?_)
  show wpAny _ _ (callAny (.type "set") _) _ _ _
  refine wpAny_pure ⟨Code.quiet_builtin _ (by decide +kernel), codeAny_builtin F.entry_type_call ?_⟩
  rw [Around.under_plain (weight_type_call_type "set" [.ref l] []) rfl]
  have h1 := F.called_set.notType
  have h2 := F.called_set.canCreate
  have hct := F.typeCall_set_1 (.ref l)
  repeat (any_goals (first | assumption | wp_step))
  refine codeAny_mono (code_set_led1 (.ref l) (E := E) (Q₁ := fun obj s₁ => obj = .ref s.heap.objs.size ∧ s₁ = { s with heap := s.heap.push (newSetI w) }) ⟨rfl, rfl⟩) fun r s₁ hr => ?_
  cases r with
  | error e => exact hr
  | ok fl =>
    cases fl with
    | ret obj =>
      obtain ⟨rfl, rfl⟩ := hr
      have hS : (s.heap.push (newSetI w)).get? s.heap.objs.size = some (newSetI w) := Heap.get?_push_size _ rfl
      have hT : Shared.TypeIs { s with heap := s.heap.push (newSetI w) } (.ref s.heap.objs.size) "set" := ⟨_, hS, rfl⟩
      have hli := F.called_set.init.lookup
      have hbi := F.called_set.init.bind (.ref s.heap.objs.size)
      repeat (any_goals (first | assumption | wp_step))
      refine codeAny_mono (codeAny_call_builtin (R := wants (fun r s₂ => r = .none ∧ ∃ h' tk c, s₂ = { s with heap := h', toks := tk } ∧ SetR w h' s.heap.objs.size (fun j => decide (j ∈ xs)) c ∧ c ≤ xs.length ∧ ∀ b o, s.heap.get? b = some o → h'.get? b = some o) E)
        F.called_set.init.plain F.entry_set_init (check_set_init_1 hT ?_)) fun r₂ s₂ hr₂ => ?_
      · obtain ⟨ol, hol, hcl, nl, hdl⟩ := hl
        obtain ⟨ocls, odict, odata, oslots⟩ := ol
        simp only at hcl hdl
        subst hcl; subst hdl
        have hol' : (s.heap.push (newSetI w)).get? l = some { cls := .type "list", dict := odict, data := .seq items nl, slots := oslots } := Heap.get?_push_of_some _ hol
        have hsls := F.sub_list_set
        have hslf := F.sub_list_frozenset
        have hne : (Value.type "list" == Value.type "dict") = false := by decide
        have hl1 : (s.heap.push (newSetI w)).IsList l items := ⟨_, hol', rfl, nl, rfl⟩
        unfold Builtin.«set.__init__» noKeywords Builtin.Frozenset.updateFrom
        generalize hPI : pyIter = PI
        wp_walk
        subst hPI
        refine wpAny_pyIter_list hl1 ?_
        refine wpAny_bind (wpAny_runValue ?_)
        have hlS : l < s.heap.objs.size := Heap.lt_size hol
        have hh3 : A.in1.in1.in1.handled = none := by simp [hh]
        have zI : (s.heap.push (newSetI w)).objs.size = s.heap.objs.size + 1 := Heap.size_push ..
        have hneI : l ≠ (s.heap.push (newSetI w)).objs.size := by rw [zI]; exact Nat.ne_of_lt (Nat.lt_succ_of_lt hlS)
        have hSf : s.heap.objs.size ∉ [(s.heap.push (newSetI w)).objs.size, l] := by
          rw [zI]
          intro z
          rcases List.mem_cons.mp z with z | z
          · exact absurd z (Nat.ne_of_lt (Nat.lt_succ_self _))
          · exact absurd (List.mem_singleton.mp z) (Nat.ne_of_gt hlS)
        have hval : ∀ (i : Nat) (v : Value), items[i]? = some v → ∃ k t, xs[i]? = some k ∧ v = .int k t := fun i v hv => by
          have hi : i < xs.length := by rw [← isz]; exact (Array.getElem?_eq_some_iff.mp hv).1
          obtain ⟨t, e⟩ := PyProof.Rows.IntsAre.int_at hit i v (by rw [Array.getElem?_toList]; exact hv)
          refine ⟨xs[i], t, List.getElem?_eq_getElem hi, ?_⟩
          rw [e, List.getD_eq_getElem?_getD, List.getElem?_eq_getElem hi]
          rfl
        refine set_update_ints ((Walks.list hh3 _ l hneI items).toS) s.heap.objs.size hSf xs isz hb hval (items.size - 0) 0 _ (by omega) (Nat.zero_le _) ⟨⟨_, Heap.get?_push_size _ rfl, rfl, rfl⟩, (hl1.push _)⟩ ?hS0 ?hR
        case hS0 => exact ⟨0, Nat.le_refl 0, setR_new_at (Heap.get?_push_of_some _ hS)⟩
        case hR =>
          intro s' c' mv hc' hS'
          obtain ⟨h', g2, d', tk', os'⟩ := s'
          have eg : g2 = s.gens := mv.gens
          have ed : d' = s.drawn := mv.drawn
          have eo : os' = s.os := mv.os
          subst eg; subst ed; subst eo
          show wpAny _ _ _ _ _ _
          refine wpAny_pure ?_
          show wpAny _ _ (ret Value.none) _ _ _
          rw [isz] at hc'
          refine wpAny_pure ⟨rfl, h', tk', c', rfl, hS', hc', fun b o e => ?_⟩
          have lt : b < s.heap.objs.size := Heap.lt_size e
          refine mv.heap b o (fun z => ?_) (Heap.get?_push_of_some _ (Heap.get?_push_of_some _ e))
          rcases List.mem_cons.mp z with z | z
          · exact absurd z (Nat.ne_of_lt lt)
          · have z2 := List.mem_singleton.mp z
            rw [zI] at z2
            exact absurd z2 (Nat.ne_of_lt (Nat.lt_succ_of_lt lt))
      · cases r₂ with
        | error e => exact hr₂
        | ok fl₂ =>
          cases fl₂ with
          | ret r =>
            obtain ⟨rfl, h', tk, c', rfl, hS', hc', hk'⟩ := hr₂
            repeat (any_goals (first | assumption | wp_step))
            exact k _ _ _ hS' hc' hk'
          | _ => exact hr₂.elim
    | _ => exact hr.elim
end
end SetS
namespace My
open PySem PySem.Spec L2 SX
open PyProof.Rows hiding St
/-- us: the ints of ns, each once -/
def Once (ns us : List Int) : Prop := us.Nodup ∧ ∀ k, k ∈ us ↔ k ∈ ns
def qSetI (K : PySem.W.Frag) (w : World) : List V → Hp → VK → Prop := fun xs H Q => ∃ (l : Addr) (ns : List Int), xs = [.ref l] ∧ (SqL K H l (ns.map V.int) ∨ SqT K H l (ns.map V.int)) ∧ ns.length ≤ 1000 ∧
  ∀ p us, H p = none → Once ns us → us.length ≤ ns.length → Q (.ref p) (L2.upd H p (SetO w p (fun j => decide (j ∈ ns)) us.length))
section
variable {X : Cx}
theorem setR_once {w : World} {h : Heap} {a : Addr} {ns : List Int} {c : Nat} (R : L2.SetR w h a (fun j => decide (j ∈ ns)) c) : ∃ us, Once ns us ∧ us.length = c := by
  obtain ⟨o, es, ep, t, _, _, _, _, nd, hm, _, _, hn, _⟩ := R
  exact ⟨es.toList.map L2.keyOf, ⟨nd, fun k => by rw [← hm k, decide_eq_true_eq]⟩, by rw [List.length_map, Array.length_toList]; exact hn⟩
theorem cr_setI (hc : X.calm = true) : CallR X (.type "set") (qSetI X.K X.w) := by
  intro pins s σ H xs us Q I r h
  obtain ⟨l, ns, rfl, hq, hl, q⟩ := h
  obtain rfl := Vals.ref1 r
  have fin : ∀ (h' : Heap) (tk c : Nat), L2.SetR X.w h' s.heap.objs.size (fun j => decide (j ∈ ns)) c → c ≤ ns.length → (∀ b o, s.heap.get? b = some o → h'.get? b = some o) → EP X pins σ Q (.ref s.heap.objs.size) { s with heap := h', toks := tk } := by
    intro h' tk c R hcn k
    obtain ⟨us, ho, hu⟩ := setR_once R
    subst hu
    exact ⟨.ref s.heap.objs.size, _, I.laid (t' := tk) k (Nat.le_refl _) (setO_new R), rfl, q _ us (I.hok.fresh (Nat.le_refl _)) ho hcn⟩
  rcases hq with hq | hq
  · obtain ⟨its, rv, pl, hz⟩ := I.list hq
    exact SetS.call_set_lstI ns (I.ok.hd hc) pl.isList (by simpa using RZ.intsAre_vals rv) (by unfold scanBound; omega) fun h' tk c R hcn k => fin h' tk c R hcn k
  · obtain ⟨its, rv, pt, hz⟩ := I.tuple hq
    exact call_set_tupI ns (I.ok.hd hc) (show s.heap.IsTuple l its.toArray from pt) (by simpa using RZ.intsAre_vals rv) (by unfold scanBound; omega) fun h' tk c R hcn k => fin h' tk c R hcn k
def qLenSetO (w : World) : List V → Hp → VK → Prop := fun xs H Q => ∃ (a : Addr) (S : Int → Bool) (n : Nat), xs = [.ref a] ∧ H a = some (SetO w a S n) ∧ n ≤ 100000 ∧ Q (.int (n : Nat)) H
theorem cr_lenSetO : CallR X (.builtin "len") (qLenSetO X.w) := by
  intro pins s σ H xs us Q I r h
  obtain ⟨a, T, n, rfl, ha, hn, q⟩ := h
  obtain rfl := Vals.ref1 r
  obtain ⟨o, es, ep, t, ho, hex, hd, _, _, _, hf, hn'⟩ := show s.heap.SetOf (intKind X.prog X.w) a T n from (setO_get I ha).setOf
  exact call_len_set ho hex hd hf (by omega) ⟨.int n, H, I.tok _, ⟨_, by rw [hn']⟩, q⟩
end
section
variable {H : Hp} {Q : VK} {K : PySem.W.Frag} {w : World}
theorem rd_setOL {l : Addr} {ns : List Int} (h : SqL K H l (ns.map V.int)) (hl : ns.length ≤ 1000) (q : ∀ p us, H p = none → Once ns us → us.length ≤ ns.length → Q (.ref p) (L2.upd H p (SetO w p (fun j => decide (j ∈ ns)) us.length))) : qSetI K w [.ref l] H Q := ⟨l, ns, rfl, .inl h, hl, q⟩
theorem rd_setOT {l : Addr} {ns : List Int} (h : SqT K H l (ns.map V.int)) (hl : ns.length ≤ 1000) (q : ∀ p us, H p = none → Once ns us → us.length ≤ ns.length → Q (.ref p) (L2.upd H p (SetO w p (fun j => decide (j ∈ ns)) us.length))) : qSetI K w [.ref l] H Q := ⟨l, ns, rfl, .inr h, hl, q⟩
theorem rd_lenSetO {a : Addr} {S : Int → Bool} {n : Nat} (h : H a = some (SetO w a S n)) (hn : n ≤ 100000) (q : Q (.int (n : Nat)) H) : qLenSetO w [.ref a] H Q := ⟨a, S, n, rfl, h, hn, q⟩
theorem rd_sortedSetO {a : Addr} {ns : List Int} {n : Nat} (h : H a = some (SetO w a (fun j => decide (j ∈ ns)) n)) (hn : n < 64) (q : ∀ (us : List Int) (p : Addr), us.Pairwise (· < ·) → (∀ k, k ∈ us ↔ k ∈ ns) → H p = none → Q (.ref p) (L2.upd H p (.lst (us.map V.int)))) : rSortedSet w [.ref a] H Q :=
  ⟨a, _, n, rfl, h, hn, fun us p h1 h2 _ h4 => q us p h1 (fun k => by rw [h2 k, decide_eq_true_eq]) h4⟩
end
end My
/-! dict.update(dict), keys that are tuples. -/
namespace My
open PySem PySem.Spec L2 SX
open PyProof.Rows hiding St
def mergeT {κ : Type} [DecidableEq κ] (kvs more : List (κ × V)) : List (κ × V) := more.foldl (fun acc p => putK acc p.1 p.2) kvs
section
variable {X : Cx}
theorem KT_all {H : Hp} : ∀ (more : List (List Key × V)) (ys : List (List Key × Addr × Value)) (kvs : List (List Key × V)) (xs : List (List Key × Addr × Value)), KT H kvs xs → KT H more ys → KT H (mergeT kvs more) (storedAllH xs ys)
  | [], _, kvs, xs, r, m => by cases m; exact r
  | p :: more, _, kvs, xs, r, m => by
    cases m with
    | @cons _ q _ qs h t =>
      obtain ⟨h1, h2, h3⟩ := h
      show KT H (mergeT (putK kvs p.1 p.2) more) (storedAllH (storedH xs q.1 q.2.1 q.2.2) qs)
      rw [← h1]
      exact KT_all more qs _ _ (r.put p.1 h2 h3) t
theorem KT_keys {H : Hp} : ∀ {more : List (List Key × V)} {ys : List (List Key × Addr × Value)}, KT H more ys → ys.map (·.1) = more.map (·.1)
  | _, _, .nil => rfl
  | _, _, .cons h t => by rw [List.map_cons, List.map_cons, KT_keys t, h.1]
theorem mergeT_len {κ : Type} [DecidableEq κ] : ∀ (more kvs : List (κ × V)), (mergeT kvs more).length ≤ kvs.length + more.length
  | [], kvs => by simp [mergeT]
  | p :: more, kvs => by
    have h1 := mergeT_len more (putK kvs p.1 p.2)
    have h2 := length_putK kvs p.1 p.2
    show (mergeT (putK kvs p.1 p.2) more).length ≤ _
    rw [List.length_cons]
    omega
def qUpdT (X : Cx) : V → List V → Hp → VK → Prop := fun x xs H Q => ∃ (a b : Addr) (kvs more : List (List Key × V)), x = .ref a ∧ xs = [.ref b] ∧ H a = some (.dT kvs) ∧ H b = some (.dT more) ∧ a ≠ b ∧
  (kvs ≠ [] ∨ (more.map fun p => (tupleKind (mixKind X.prog X.w)).hash p.1).Nodup) ∧ kvs.length + more.length ≤ 100000 ∧ Q .non (L2.upd H a (.dT (mergeT kvs more)))
theorem mt_updT (hu : X.A.units + 2 < cLine) : MtR X "dict.update" (qUpdT X) := by
  intro pins s σ H x xs v us Q I rx rxs h
  obtain ⟨a, b, kvs, more, rfl, rfl, ha, hb, hne, hap, hl, q⟩ := h
  cases rx
  obtain ⟨u, rfl, ru⟩ := vals1 rxs
  cases ru
  obtain ⟨z1, d1, ks, r1, dd1⟩ := dt_of I.hok ha
  obtain ⟨z2, d2, ms, r2, dd2⟩ := dt_of I.hok hb
  have l1 := Paired.length r1
  have l2 := Paired.length r2
  have szl : (100000 : Nat) ≤ sizeLine := by decide
  refine call_update_dictH (knd := tupleKind (mixKind X.prog X.w)) (tupleKind_room_in1 (by omega)) hne d2 dd1 dd2 ?_ (by omega) fun h' e1 e2 hs => ?_
  · rcases hap with h | h
    · refine .inl fun e => h ?_
      rw [e] at l1
      exact List.length_eq_zero_iff.mp l1
    · refine .inr ⟨fun y hy => ?_, ?_⟩
      · obtain ⟨_, _, _, _, _, _, _, his, _⟩ := dd2
        obtain ⟨o, its, n, h1, h2, h3, _⟩ := his y hy
        exact ⟨o, h1, h2⟩
      · have e := KT_keys r2
        have e3 : ms.map (fun x => (tupleKind (mixKind X.prog X.w)).hash x.1) = (ms.map (·.1)).map (tupleKind (mixKind X.prog X.w)).hash := by rw [List.map_map]; rfl
        rw [e3, e, List.map_map]
        exact h
  · obtain ⟨qo, es, ep, hq, h2, h3, h4, _, h5⟩ := e1
    have hlen := mergeT_len more kvs
    refine ⟨.non, L2.upd H a (.dT (mergeT kvs more)), d_write (t' := s.toks) I (by rw [ha]; exact True.intro) hs ⟨qo, hq⟩ ⟨by omega, d1, _, (KT_all more ms kvs ks r1 r2).keeps fun c ys ec => ?_, qo, es, ep, hq, h2, h3, h4, h5⟩, rfl, q⟩
    rw [upd_ne (ne_of ec ha (fun z => nomatch z))]
    exact ec
end
end My
/-! min of two texts. -/
namespace My
open PySem PySem.Spec L2 SX
open PyProof.Rows hiding St
section
variable {prog : Program} {w : World} {A : Around} {E : Value → Shared → Prop} {s : Shared}
/-- the item at a place of two -/
def two {α : Type} (x y : α) : Nat → α
  | 0 => x
  | _ => y
theorem cmp_txts {x y : Str} {t u : Tok} : CmpOf prog w A .Lt (fun i v => (#[Value.str x t, Value.str y u] : Array Value)[i]? = some v) (fun i j => decide ((two x y i).cps.toList < (two x y j).cps.toList)) := by
  intro i j vi vj s Q E hi hj h
  have at2 : ∀ (i : Nat) (v : Value), (#[Value.str x t, Value.str y u] : Array Value)[i]? = some v → ∃ t', v = .str (two x y i) t'
    | 0, _, e => ⟨t, (Option.some.inj e).symm⟩
    | 1, _, e => ⟨u, (Option.some.inj e).symm⟩
    | n + 2, _, e => by simp at e
  obtain ⟨t1, rfl⟩ := at2 i vi hi
  obtain ⟨t2, rfl⟩ := at2 j vj hj
  exact richCompare_gives (op := .Lt) (typeIs_str s _ t1) (typeIs_str s _ t2) F.slot_str_lt F.entry_str_lt (F.args_str_lt_2 _ _) (gives_str_lt _ _ t1 t2) (fun z => nomatch z) h
theorem min_two_txts {x y : Str} {t u : Tok} {Q : Value → Shared → Prop} (hh : A.handled = none)
    (h : ∀ h' tk, (∀ c o, s.heap.get? c = some o → h'.get? c = some o) → Q (if y.cps.toList < x.cps.toList then .str y u else .str x t) { s with heap := h', toks := tk }) :
    wpAny (model prog w) A (call (.builtin "min") [.str x t, .str y u]) Q E s := by
  have hT : (s.heap.push { cls := .type "tuple", data := .seq #[.str x t, .str y u] }).IsTuple s.heap.objs.size #[.str x t, .str y u] := ⟨_, Heap.get?_push_size _ rfl, rfl, 0, rfl⟩
  have z1 : (s.heap.push { cls := .type "tuple", data := .seq #[.str x t, .str y u] }).objs.size = s.heap.objs.size + 1 := Heap.size_push ..
  have ne : s.heap.objs.size ≠ (s.heap.push { cls := .type "tuple", data := .seq #[.str x t, .str y u] }).objs.size := by rw [z1]; exact Nat.ne_of_lt (Nat.lt_succ_self _)
  refine call_min_two (wpAny_pyIter_tuple hT ⟨_, [_, s.heap.objs.size], [_], _, _, _, _, rfl, Walks.tuple (A := A.in1) hh _ s.heap.objs.size ne #[.str x t, .str y u], ⟨⟨_, Heap.get?_push_size _ rfl, rfl, rfl⟩, hT.push _⟩, ?_, Nat.succ_pos 1, cmp_txts (u := u), ?_⟩)
  · intro c hc
    have z2 := Heap.size_push (s.heap.push { cls := .type "tuple", data := .seq #[.str x t, .str y u] }) { cls := .type "tuple_iterator", data := .fields #[.ref s.heap.objs.size, .int 0 0] }
    show c < ((s.heap.push _).push _).objs.size
    rw [Heap.size_push, z1]
    rcases List.mem_cons.mp hc with e | hc
    · rw [e, z1]; exact Nat.lt_succ_self _
    · rw [List.mem_singleton.mp hc]; exact Nat.lt_succ_of_lt (Nat.lt_succ_self _)
  · intro v h' tk hP hk
    have old : ∀ c o, s.heap.get? c = some o → h'.get? c = some o := by
      intro c o e
      refine hk c o (fun hm => ?_) (Heap.get?_push_of_some _ (Heap.get?_push_of_some _ e))
      have lt := Heap.lt_size e
      have ec := List.mem_singleton.mp hm
      rw [ec, z1] at lt
      exact Nat.not_succ_lt_self lt
    have hq := h h' tk old
    have e1 : (#[Value.str x t, Value.str y u] : Array Value).size - 1 = 1 := rfl
    rw [e1] at hP
    by_cases c : y.cps.toList < x.cps.toList
    · have e : argBest (fun i j => decide ((two x y i).cps.toList < (two x y j).cps.toList)) 1 = 1 := by simp [argBest, two, c]
      rw [e] at hP
      rw [if_pos c] at hq
      cases hP
      exact hq
    · have e : argBest (fun i j => decide ((two x y i).cps.toList < (two x y j).cps.toList)) 1 = 0 := by simp [argBest, two, c]
      rw [e] at hP
      rw [if_neg c] at hq
      cases hP
      exact hq
end
def qMin2S : List V → Hp → VK → Prop := fun xs H Q => ∃ l m : List Nat, xs = [.str (S l), .str (S m)] ∧ Q (.str (S (if m < l then m else l))) H
section
variable {X : Cx}
theorem cq_min2S (hc : X.calm = true) : CallR X (.builtin "min") qMin2S := by
  intro pins s σ H xs us Q I r h
  obtain ⟨l, m, rfl, q⟩ := h
  obtain ⟨u, w', rfl, ⟨t, rfl⟩, ⟨t', rfl⟩⟩ := vals2 r
  refine min_two_txts (I.ok.hd hc) fun h' tk k => ⟨_, H, I.kept k, ?_, q⟩
  by_cases c : m < l
  · rw [if_pos (show (S m).cps.toList < (S l).cps.toList from by simpa using c), if_pos c]; exact ⟨_, rfl⟩
  · rw [if_neg (show ¬ (S m).cps.toList < (S l).cps.toList from by simpa using c), if_neg c]; exact ⟨_, rfl⟩
end
theorem rd_min2S {H : Hp} {Q : VK} {l m : List Nat} (q : Q (.str (S (if m < l then m else l))) H) : qMin2S [.str (S l), .str (S m)] H Q := ⟨l, m, rfl, q⟩
end My
/-! sorted of a list of data. -/
namespace My
open PySem PySem.Spec L2 SX
open PyProof.Rows hiding St
abbrev VD := V × PyData
def sortD (ps : List VD) : List VD := ps.mergeSort (PySem.W.dataLe false fun p : VD => p.2)
theorem sortD_perm (ps : List VD) : (sortD ps).Perm ps := List.mergeSort_perm _ _
def qSortD (K : PySem.W.Frag) : List V → Hp → VK → Prop := fun xs H Q => ∃ (a : Addr) (ps : List VD), xs = [.ref a] ∧ SqL K H a (ps.map (·.1)) ∧ (∀ p ∈ ps, Dp K H p.1 p.2) ∧ PySem.W.AllAlike (ps.map (·.2)) ∧ PySem.W.Sortable (ps.map (·.2)) ∧ (∀ p ∈ ps, p.2.depth ≤ 10) ∧ ps.length ≤ 100000 ∧
  ∀ q, H q = none → Q (.ref q) (L2.upd H q (.lst ((sortD ps).map (·.1))))
section
variable {X : Cx}
theorem each_vd {pins : List (Addr × Obj)} {σ : L2.St} {H : Hp} {s : Shared} (I : Inv X pins σ H s) : ∀ {ps : List VD} {us : List Value}, Vals (ps.map (·.1)) us → (∀ p ∈ ps, Dp X.K H p.1 p.2) →
    PySem.W.EachIs (fun u (p : VD) => RelV p.1 u) us ps ∧ PySem.W.EachIs (fun u (p : VD) => ∃ as, Reads s.heap u p.2 as) us ps
  | [], _, r, _ => by cases r; exact ⟨.nil, .nil⟩
  | p :: ps, _, r, h => by
    cases r with
    | cons r1 r2 =>
      obtain ⟨a, b⟩ := each_vd I r2 fun q hq => h q (List.mem_cons_of_mem _ hq)
      exact ⟨.cons r1 a, .cons (Dp.reads I p.2 p.1 _ (h p List.mem_cons_self) r1) b⟩
theorem vals_vd : ∀ {ps : List VD} {us : List Value}, PySem.W.EachIs (fun u (p : VD) => RelV p.1 u) us ps → Vals (ps.map (·.1)) us
  | _, _, .nil => .nil
  | _, _, .cons a b => .cons a (vals_vd b)
theorem cr_sortD (hu : X.A.units + 20 < cLine) : CallR X (.builtin "sorted") (qSortD X.K) := by
  intro pins s σ H xs us Q I r h
  obtain ⟨a, ps, rfl, hs, hd, hal, hk, hdp, hl, q⟩ := h
  obtain rfl := Vals.ref1 r
  obtain ⟨its, rv, pl, hz⟩ := I.list hs
  obtain ⟨e1, e2⟩ := each_vd I rv hd
  have szl : (100000 : Nat) ≤ sizeLine := by decide
  refine PySem.W.sorted_data (enc := fun p : VD => p.2) (R := fun u (p : VD) => RelV p.1 u) pl.isList e1 e2 hal hk (by omega) (fun p hp => by have := hdp p hp; omega) fun out ho eo => ?_
  obtain ⟨ep, he⟩ := PyProof.Rows.sortedAll_at s.heap its out.toArray
  have hlen : ((sortD ps).map (·.1)).length ≤ sizeLine := by rw [List.length_map, (sortD_perm ps).length_eq]; omega
  exact ⟨.ref _, L2.upd H (s.heap.objs.size + 1) (.lst ((sortD ps).map (·.1))), I.laid (t' := s.toks) (fun _ _ => PyProof.Rows.sortedAll_old) (Nat.le_succ _) ⟨hlen, out, ep, vals_vd eo, he⟩, rfl, q _ (I.hok.fresh (Nat.le_succ _))⟩
end
end My
/-! Rules and readings for automata, dicts by lists of pairs. -/
namespace My
open PySem PySem.Spec L2 SX LamX Mon
open PyProof.Rows hiding St
theorem u20 {k : Nat} {A : Around} (hr : Room k A) : A.units + 20 < cLine := by have := hr.units; omega
theorem u2 {k : Nat} {A : Around} (hr : Room k A) : A.units + 2 < cLine := by have := hr.units; omega
theorem kit_self {K : PySem.W.Frag} {C : Addr} : PySem.W.kitOne K (.ref C) (.ref C) = some true := by
  unfold PySem.W.kitOne
  refine if_pos ?_
  first | exact beq_self_eq_true _ | simp | (show (C == C) = true; exact beq_self_eq_true C)
/-! ### 'abcd'.index -/
def qIdx4 (x : V) (xs : List V) (H : Hp) (Q : VK) : Prop := ∃ i : Nat, i < 4 ∧ x = .str (S [97, 98, 99, 100]) ∧ xs = [.str (S [97 + i])] ∧ Q (.int ((i : Nat) : Int)) H
theorem occ_signs : ∀ i, i < 4 → ∃ rest, Builtin.Str.occurrences (S [97, 98, 99, 100]) (S [97 + i]) 0 (S [97, 98, 99, 100]).length 1 = i :: rest
  | 0, _ => ⟨[], by decide +kernel⟩
  | 1, _ => ⟨[], by decide +kernel⟩
  | 2, _ => ⟨[], by decide +kernel⟩
  | 3, _ => ⟨[], by decide +kernel⟩
  | n + 4, h => absurd h (by omega)
theorem mt_sindex4 {X : Cx} : MtR X "str.index" qIdx4 := by
  intro pins s σ H x xs v us Q I rx rs h
  obtain ⟨i, hi, e1, e2, q⟩ := h
  obtain ⟨rest, ho⟩ := occ_signs i hi
  exact mt_sindex pins s σ H x xs v us Q I rx rs ⟨_, _, i, rest, e1, e2, ho, q⟩
theorem rd_qIdx4 {H : Hp} {Q : VK} {c : Nat} (h1 : 97 ≤ c) (h2 : c < 101) (q : Q (vI (c - 97)) H) : qIdx4 (.str (S [97, 98, 99, 100])) [.str (S [c])] H Q :=
  ⟨c - 97, by omega, rfl, by rw [show 97 + (c - 97) = c by omega], q⟩
theorem sign4 {l : Nat} (h : l < 4) : atI [97, 98, 99, 100] ((l : Nat) : Int) = some (97 + l) := atI_nat (by
  match l, h with
  | 0, _ => rfl
  | 1, _ => rfl
  | 2, _ => rfl
  | 3, _ => rfl)
/-! ### repr of None, texts, numbers -/
def qReprV : List V → Hp → VK → Prop := fun xs H Q => ∃ (o : Option (List Nat)), xs = [match o with | none => .non | some w => .str (S w)] ∧ (∀ w, o = some w → (PySem.reprText (S w)).length ≤ sizeLine) ∧ Q (.str (match o with | none => ("None" : Str) | some w => PySem.reprText (S w))) H
section
variable {X : Cx}
theorem cq_reprV : CallR X (.builtin "repr") qReprV := by
  intro pins s σ H xs us Q I r h
  obtain ⟨o, rfl, hz, q⟩ := h
  cases o with
  | none =>
    obtain ⟨u, rfl, ru⟩ := vals1 r
    cases ru
    exact PySem.P.repr_of_none ⟨.str ("None" : Str), H, I.tok _, ⟨_, rfl⟩, q⟩
  | some w =>
    obtain ⟨u, rfl, t, rfl⟩ := vals1 r
    exact PySem.P.repr_of_str ⟨.str _, H, I.tok _, ⟨_, rfl⟩, q⟩ (hz w rfl)
end
/-! ### lists of pairs of a key and a thing -/
section
variable {α β : Type} [DecidableEq α]
def aget (l : List (α × β)) (a : α) : Option β := (l.find? fun q => decide (q.1 = a)).map (·.2)
def aput (l : List (α × β)) (a : α) (b : β) : List (α × β) := if a ∈ l.map (·.1) then l.map fun q => if q.1 = a then (q.1, b) else q else l ++ [(a, b)]
theorem aget_nil (a : α) : aget ([] : List (α × β)) a = none := rfl
theorem aget_cons (q : α × β) (l : List (α × β)) (a : α) : aget (q :: l) a = if q.1 = a then some q.2 else aget l a := by
  unfold aget
  rw [List.find?_cons]
  by_cases e : q.1 = a
  · rw [if_pos e, decide_eq_true e]; rfl
  · rw [if_neg e, decide_eq_false e]
theorem aget_none {l : List (α × β)} {a : α} : aget l a = none ↔ a ∉ l.map (·.1) := by
  induction l with
  | nil => simp [aget]
  | cons q l ih =>
    rw [aget_cons]
    by_cases e : q.1 = a
    · simp [e]
    · rw [if_neg e, ih, List.map_cons, List.mem_cons]
      constructor
      · intro h z
        rcases z with z | z
        · exact e z.symm
        · exact h z
      · intro h z
        exact h (.inr z)
theorem aget_mem {l : List (α × β)} {a : α} {b : β} (h : aget l a = some b) : (a, b) ∈ l := by
  induction l with
  | nil => cases h
  | cons q l ih =>
    rw [aget_cons] at h
    by_cases e : q.1 = a
    · rw [if_pos e] at h
      cases h
      rw [← e]
      exact List.mem_cons_self
    · rw [if_neg e] at h
      exact List.mem_cons_of_mem _ (ih h)
theorem aget_of {l : List (α × β)} (nd : (l.map (·.1)).Nodup) {a : α} {b : β} (h : (a, b) ∈ l) : aget l a = some b := by
  induction l with
  | nil => cases h
  | cons q l ih =>
    rw [List.map_cons, List.nodup_cons] at nd
    rw [aget_cons]
    rcases List.mem_cons.mp h with h | h
    · rw [← h, if_pos rfl]
    · by_cases e : q.1 = a
      · have hm : q.1 ∈ l.map (·.1) := by rw [e]; exact List.mem_map.mpr ⟨(a, b), h, rfl⟩
        exact absurd hm nd.1
      · rw [if_neg e]; exact ih nd.2 h
theorem aget_append (l m : List (α × β)) (a : α) : aget (l ++ m) a = (aget l a).or (aget m a) := by
  unfold aget
  rw [List.find?_append]
  cases l.find? fun q => decide (q.1 = a) <;> rfl
theorem aget_put (l : List (α × β)) (a : α) (b : β) (c : α) : aget (aput l a b) c = if a = c then some b else aget l c := by
  unfold aput
  by_cases h : a ∈ l.map (·.1)
  · rw [if_pos h]
    induction l with
    | nil => simp at h
    | cons q l ih =>
      rw [List.map_cons, aget_cons, aget_cons]
      by_cases e : q.1 = a
      · by_cases e2 : a = c
        · subst e2; simp [e]
        · have e3 : ¬ q.1 = c := fun z => e2 (e.symm.trans z)
          rw [if_pos e, if_neg e3, if_neg e2, if_neg e3]
          by_cases h2 : a ∈ l.map (·.1)
          · have := ih h2
            rw [if_neg e2] at this
            exact this
          · congr 1
            refine (List.map_congr_left fun q hq => ?_).trans (List.map_id l)
            rw [if_neg (fun z => h2 (List.mem_map.mpr ⟨q, hq, z⟩))]; rfl
      · have h2 : a ∈ l.map (·.1) := by
          rcases List.mem_cons.mp h with h | h
          · exact absurd h.symm e
          · exact h
        rw [if_neg e, ih h2]
        by_cases e2 : a = c
        · subst e2
          rw [if_pos rfl, if_pos rfl, if_neg e]
        · rw [if_neg e2, if_neg e2]
  · rw [if_neg h, aget_append, aget_cons, aget_nil]
    by_cases e2 : a = c
    · subst e2
      rw [aget_none.mpr h, if_pos rfl]; rfl
    · rw [if_neg e2, if_neg e2, Option.or_none]
theorem aput_new {l : List (α × β)} {a : α} {b : β} (h : a ∉ l.map (·.1)) : aput l a b = l ++ [(a, b)] := if_neg h
theorem aput_keys (l : List (α × β)) (a : α) (b : β) : (aput l a b).map (·.1) = if a ∈ l.map (·.1) then l.map (·.1) else l.map (·.1) ++ [a] := by
  unfold aput
  by_cases h : a ∈ l.map (·.1)
  · rw [if_pos h, if_pos h, List.map_map]
    refine List.map_congr_left fun q _ => ?_
    show (if q.1 = a then (q.1, b) else q).1 = q.1
    split <;> rfl
  · rw [if_neg h, if_neg h, List.map_append]; rfl
theorem aput_nd {l : List (α × β)} (nd : (l.map (·.1)).Nodup) (a : α) (b : β) : ((aput l a b).map (·.1)).Nodup := by
  rw [aput_keys]
  by_cases h : a ∈ l.map (·.1)
  · rw [if_pos h]; exact nd
  · rw [if_neg h, List.nodup_append]
    exact ⟨nd, List.pairwise_singleton _ _, fun x hx y hy e => h (by rw [← List.mem_singleton.mp hy, ← e]; exact hx)⟩
theorem aput_len (l : List (α × β)) (a : α) (b : β) : (aput l a b).length ≤ l.length + 1 := by
  have h := congrArg List.length (aput_keys l a b)
  rw [List.length_map] at h
  rw [h]
  split <;> simp
def amerge (l m : List (α × β)) : List (α × β) := m.foldl (fun acc q => aput acc q.1 q.2) l
theorem aget_merge : ∀ (m l : List (α × β)) (a : α), (m.map (·.1)).Nodup → aget (amerge l m) a = (aget m a).or (aget l a)
  | [], l, a, _ => rfl
  | q :: m, l, a, nd => by
    rw [List.map_cons, List.nodup_cons] at nd
    show aget (amerge (aput l q.1 q.2) m) a = _
    rw [aget_merge m _ a nd.2, aget_put, aget_cons]
    by_cases e : q.1 = a
    · rw [if_pos e, if_pos e]
      subst e
      rw [aget_none.mpr nd.1]; rfl
    · rw [if_neg e, if_neg e]
theorem amerge_nd : ∀ (m l : List (α × β)), (l.map (·.1)).Nodup → ((amerge l m).map (·.1)).Nodup
  | [], l, h => h
  | q :: m, l, h => amerge_nd m _ (aput_nd h q.1 q.2)
theorem amerge_len : ∀ (m l : List (α × β)), (amerge l m).length ≤ l.length + m.length
  | [], l => by simp [amerge]
  | q :: m, l => by
    have h1 := amerge_len m (aput l q.1 q.2)
    have h2 := aput_len l q.1 q.2
    show (amerge (aput l q.1 q.2) m).length ≤ _
    rw [List.length_cons]
    omega
theorem amerge_sub : ∀ (m l : List (α × β)) (q : α × β), q ∈ amerge l m → q ∈ l ∨ q ∈ m
  | [], l, q, h => .inl h
  | p :: m, l, q, h => by
    have h1 : q ∈ aput l p.1 p.2 ∨ q ∈ m := amerge_sub m _ q h
    rcases h1 with h | h
    · unfold aput at h
      by_cases e : p.1 ∈ l.map (·.1)
      · rw [if_pos e] at h
        obtain ⟨x, hx, ex⟩ := List.mem_map.mp h
        by_cases e2 : x.1 = p.1
        · rw [if_pos e2] at ex
          refine .inr (List.mem_cons.mpr (.inl ?_))
          rw [← ex, e2]
        · rw [if_neg e2] at ex
          exact .inl (ex ▸ hx)
      · rw [if_neg e] at h
        rcases List.mem_append.mp h with h | h
        · exact .inl h
        · exact .inr (List.mem_cons.mpr (.inl (by rw [List.mem_singleton.mp h])))
    · exact .inr (List.mem_cons_of_mem _ h)
/-- the dict that holds it: keys that are tuples -/
def kd (enc : α → List Key) (f : β → V) (l : List (α × β)) : List (List Key × V) := l.map fun q => (enc q.1, f q.2)
variable {enc : α → List Key} {f : β → V} (inj : ∀ a b, enc a = enc b → a = b)
theorem kd_len (l : List (α × β)) : (kd enc f l).length = l.length := by unfold kd; simp
include inj
theorem kd_val (l : List (α × β)) (a : α) : valV (kd enc f l) (enc a) = (aget l a).map f := by
  induction l with
  | nil => rfl
  | cons q l ih =>
    rw [aget_cons]
    show valV ((enc q.1, f q.2) :: kd enc f l) (enc a) = _
    by_cases e : q.1 = a
    · rw [if_pos e, e, valV_pos rfl]; rfl
    · rw [if_neg e, valV_neg (fun z => e (inj _ _ z))]; exact ih
theorem kd_put (l : List (α × β)) (a : α) (b : β) : putK (kd enc f l) (enc a) (f b) = kd enc f (aput l a b) := by
  unfold putK aput
  rw [valV_any, kd_val inj]
  by_cases h : a ∈ l.map (·.1)
  · have hs : ((aget l a).map f).isSome = true := by
      cases e : aget l a with
      | none => exact absurd h (aget_none.mp e)
      | some b => rfl
    rw [if_pos hs, if_pos h]
    unfold kd
    rw [List.map_map, List.map_map]
    refine List.map_congr_left fun q _ => ?_
    show (if enc q.1 = enc a then (enc q.1, f b) else (enc q.1, f q.2)) = _
    by_cases e : q.1 = a
    · rw [if_pos (by rw [e])]
      show _ = (enc (if q.1 = a then (q.1, b) else q).1, f (if q.1 = a then (q.1, b) else q).2)
      rw [if_pos e]
    · rw [if_neg (fun z => e (inj _ _ z))]
      show _ = (enc (if q.1 = a then (q.1, b) else q).1, f (if q.1 = a then (q.1, b) else q).2)
      rw [if_neg e]
  · have hs : ((aget l a).map f).isSome = false := by rw [aget_none.mpr h]; rfl
    rw [hs, if_neg Bool.false_ne_true, if_neg h]
    unfold kd
    rw [List.map_append]; rfl
theorem kd_merge : ∀ (m l : List (α × β)), mergeT (kd enc f l) (kd enc f m) = kd enc f (amerge l m)
  | [], l => rfl
  | q :: m, l => by
    show mergeT (putK (kd enc f l) (enc q.1) (f q.2)) (kd enc f m) = _
    rw [kd_put inj, kd_merge m]; rfl
end
/-! ### readings -/
section
variable {σ : L2.St} {H : Hp} {Q : VK} {K : PySem.W.Frag}
theorem rd_lock {t : TS} {D : Ends} (h : ∃ d u, H d = some u ∧ Mut (some u) ∧ ∀ od, t ⟨fun σ' H' => H' d = some (.frz od u) ∧ D.nx σ' (L2.upd H' d u), fun v H' => H' d = some (.frz od u) ∧ D.rt v (L2.upd H' d u), fun σ' H' => H' d = some (.frz od u) ∧ D.bk σ' (L2.upd H' d u), fun σ' H' => H' d = some (.frz od u) ∧ D.ct σ' (L2.upd H' d u)⟩ σ (L2.upd H d (.frz od u))) : tLock t D σ H := h
theorem rd_dget2 {td ty tx : TE} (h : td σ H fun x H1 => qDG0 x H1 fun a => ty σ H1 fun y H2 => tx σ H2 fun z H3 => ∃ o, DGet H3 a y o ∧ Q (o.getD z) H3) : tDGet2 td ty tx σ H Q := h
theorem rd_bmD {r : V → List V → Hp → VK → Prop} {t : TA} {to : TE} (h : to σ H fun x H1 => tyV K "dict" x H1 ∧ t σ H1 fun xs H2 => r x xs H2 Q) : tBM K "dict" r to t σ H Q := h
theorem rd_isC {a : Addr} {C : Addr} {dx : Addr} {fs : List (Str × V)} (h : H a = some (.ins C dx fs)) (q : Q (.bl true) H) : (fun xs H Q => ∃ a dx fs, xs = [V.ref a, V.ref C] ∧ H a = some (HO.ins C dx fs) ∧ Q (V.bl true) H : List V → Hp → VK → Prop) [.ref a, .ref C] H Q := ⟨a, dx, fs, rfl, h, q⟩
end
end My
/-! Least words from one node, nodes of any kind. -/
namespace MonA
open Mon
section
variable {α : Type}
/-! ### least words from one node: by going through nodes in order -/
def go (st : α → Nat → α) (one : α) (w : List Nat) : α := w.foldl (fun n c => st n (c - 97)) one
theorem go_snoc (st : α → Nat → α) (one : α) (w : List Nat) (c : Nat) : go st one (w ++ [c]) = st (go st one w) (c - 97) := by
  unfold go; rw [List.foldl_append]; rfl
/-- o is the least word that leads from one to x; none if there is none -/
abbrev IsLw (st : α → Nat → α) (m : Nat) (one x : α) (o : Option (List Nat)) : Prop := IsLP (fun w => go st one w = x) m o
abbrev Kw (α : Type) := List (α × List Nat)
def keys (kw : Kw α) : List α := kw.map (·.1)
theorem mem_keys {kw : Kw α} {x : α} : x ∈ keys kw ↔ ∃ p ∈ kw, p.1 = x := by unfold keys; rw [List.mem_map]
theorem keys_at {kw : Kw α} {x : α} (h : x ∈ keys kw) : ∃ (i : Nat) (p : α × List Nat), kw[i]? = some p ∧ p.1 = x := by
  obtain ⟨p, hp, e⟩ := mem_keys.mp h
  obtain ⟨i, hi⟩ := List.mem_iff_getElem?.mp hp
  exact ⟨i, p, hi, e⟩
def add [DecidableEq α] (st : α → Nat → α) (kw : Kw α) (n : α) (u : List Nat) (l : Nat) : Kw α := if st n l ∈ keys kw then kw else kw ++ [(st n l, u ++ [97 + l])]
structure Bf (st : α → Nat → α) (m : Nat) (one : α) (kw : Kw α) (t l : Nat) : Prop where
  nd : (keys kw).Nodup
  wd : ∀ p ∈ kw, Lt m p.2 ∧ go st one p.2 = p.1
  so : (kw.map (·.2)).Pairwise slt
  hd : kw[0]? = some (one, [])
  cl : ∀ (i : Nat) (p : α × List Nat), kw[i]? = some p → ∀ c, c < m → (i < t ∨ (i = t ∧ c < l)) → st p.1 c ∈ keys kw
  mi : ∀ p ∈ kw, ∀ v, Lt m v → go st one v = p.1 → v = p.2 ∨ slt p.2 v
  fr : ∀ p ∈ kw, p.2 = [] ∨ ∃ (i : Nat) (q : α × List Nat) (c : Nat), kw[i]? = some q ∧ (i < t ∨ (i = t ∧ c < l)) ∧ p.2 = q.2 ++ [97 + c]
  ln : ∀ (i : Nat) (p : α × List Nat), kw[i]? = some p → p.2.length ≤ i
theorem Bf.init (st : α → Nat → α) (m : Nat) (one : α) : Bf st m one [(one, [])] 0 0 := by
  refine ⟨List.pairwise_singleton _ _, fun p hp => ?_, List.pairwise_singleton _ _, rfl, fun i p _ c _ h => by omega, fun p hp v hv _ => ?_, fun p hp => ?_, fun i p h => ?_⟩
  · rw [List.mem_singleton.mp hp]; exact ⟨(fun c hc => by cases hc), rfl⟩
  · rw [List.mem_singleton.mp hp]
    by_cases e : v = []
    · exact .inl e
    · exact .inr (slt_nil e)
  · rw [List.mem_singleton.mp hp]; exact .inl rfl
  · rw [List.mem_singleton.mp (List.mem_of_getElem? h)]; exact Nat.zero_le _
section
variable {st : α → Nat → α} {m : Nat} {one : α} {kw : Kw α} {t l : Nat}
theorem Bf.row (h : Bf st m one kw t m) : Bf st m one kw (t + 1) 0 :=
  ⟨h.nd, h.wd, h.so, h.hd, fun i p hi c hc e => h.cl i p hi c hc (by omega), h.mi, fun p hp => (h.fr p hp).imp id fun ⟨i, q, c, h1, h2, h3⟩ => ⟨i, q, c, h1, by omega, h3⟩, h.ln⟩
theorem so_at (h : (kw.map (·.2)).Pairwise slt) {i j : Nat} {p q : α × List Nat} (hi : kw[i]? = some p) (hj : kw[j]? = some q) (hij : i < j) : slt p.2 q.2 := by
  have h1 := List.getElem?_eq_some_iff.mp hi
  have h2 := List.getElem?_eq_some_iff.mp hj
  obtain ⟨a1, a2⟩ := h1
  obtain ⟨b1, b2⟩ := h2
  have h3 := List.pairwise_iff_getElem.mp h i j (by rw [List.length_map]; exact a1) (by rw [List.length_map]; exact b1) hij
  rw [List.getElem_map, List.getElem_map, a2, b2] at h3
  exact h3
/-- where a word leaves the known nodes -/
theorem leaves (h0 : one ∈ keys kw) : ∀ v, Lt m v → go st one v ∉ keys kw → ∃ (p q : List Nat) (c : Nat), c < m ∧ v = p ++ [97 + c] ++ q ∧ Lt m p ∧ go st one p ∈ keys kw ∧ st (go st one p) c ∉ keys kw := by
  refine rev_ind (fun _ h => absurd h0 h) fun w c ih hv hn => ?_
  have hw : Lt m w := fun x hx => hv x (by simp [hx])
  have hc := hv c (by simp)
  by_cases hk : go st one w ∈ keys kw
  · rw [go_snoc] at hn
    exact ⟨w, [], c - 97, by omega, by rw [show 97 + (c - 97) = c by omega]; simp, hw, hk, hn⟩
  · obtain ⟨p, q, d, h1, h2, h3, h4, h5⟩ := ih hw hk
    exact ⟨p, q ++ [c], d, h1, by rw [h2]; simp, h3, h4, h5⟩
theorem Bf.one_mem (h : Bf st m one kw t l) : one ∈ keys kw := mem_keys.mpr ⟨_, List.mem_of_getElem? h.hd, rfl⟩
theorem Bf.step [DecidableEq α] {n : α} {u : List Nat} (h : Bf st m one kw t l) (ht : kw[t]? = some (n, u)) (hl : l < m) : Bf st m one (add st kw n u l) t (l + 1) ∧ (add st kw n u l)[t]? = some (n, u) := by
  have hu := h.wd _ (List.mem_of_getElem? ht)
  unfold add
  by_cases hk : st n l ∈ keys kw
  · rw [if_pos hk]
    refine ⟨⟨h.nd, h.wd, h.so, h.hd, fun i p hi c hc e => ?_, h.mi, fun p hp => (h.fr p hp).imp id fun ⟨i, q, c, h1, h2, h3⟩ => ⟨i, q, c, h1, by omega, h3⟩, h.ln⟩, ht⟩
    by_cases e2 : i = t ∧ c = l
    · obtain ⟨rfl, rfl⟩ := e2
      rw [ht] at hi
      cases hi
      exact hk
    · exact h.cl i p hi c hc (by omega)
  · rw [if_neg hk]
    have hlen := (List.getElem?_eq_some_iff.mp ht).1
    have old : ∀ (i : Nat) (p : α × List Nat), kw[i]? = some p → (kw ++ [(st n l, u ++ [97 + l])])[i]? = some p := fun i p e => by
      rw [List.getElem?_append_left (List.getElem?_eq_some_iff.mp e).1]; exact e
    have back : ∀ (i : Nat) (p : α × List Nat), (kw ++ [(st n l, u ++ [97 + l])])[i]? = some p → kw[i]? = some p ∨ (i = kw.length ∧ p = (st n l, u ++ [97 + l])) := fun i p e => by
      by_cases hi : i < kw.length
      · rw [List.getElem?_append_left hi] at e; exact .inl e
      · have hi2 : i = kw.length := by
          have := (List.getElem?_eq_some_iff.mp e).1
          simp at this; omega
        subst hi2
        rw [List.getElem?_append_right (Nat.le_refl _), Nat.sub_self] at e
        exact .inr ⟨rfl, (Option.some.inj e).symm⟩
    have ek : keys (kw ++ [(st n l, u ++ [97 + l])]) = keys kw ++ [st n l] := by unfold keys; rw [List.map_append]; rfl
    refine ⟨⟨?_, fun p hp => ?_, ?_, old _ _ h.hd, fun i p hi c hc e => ?_, fun p hp v hv e => ?_, fun p hp => ?_, fun i p hi => ?_⟩, old _ _ ht⟩
    · rw [ek, List.nodup_append]
      refine ⟨h.nd, List.pairwise_singleton _ _, fun a ha b hb e => ?_⟩
      rw [List.mem_singleton.mp hb] at e
      exact hk (e ▸ ha)
    · rcases List.mem_append.mp hp with hp | hp
      · exact h.wd p hp
      · rw [List.mem_singleton.mp hp]
        refine ⟨fun c hc => ?_, by rw [go_snoc, hu.2, show 97 + l - 97 = l by omega]⟩
        rcases List.mem_append.mp hc with hc | hc
        · exact hu.1 c hc
        · rw [List.mem_singleton.mp hc]; omega
    · rw [List.map_append, List.pairwise_append]
      refine ⟨h.so, List.pairwise_singleton _ _, fun a ha b hb => ?_⟩
      obtain ⟨p, hp, rfl⟩ := List.mem_map.mp ha
      rw [List.mem_singleton.mp hb]
      show slt p.2 (u ++ [97 + l])
      rcases h.fr p hp with e | ⟨i, q, c, h1, h2, h3⟩
      · rw [e]; exact slt_nil (by simp)
      · rw [h3]
        rcases h2 with h2 | ⟨rfl, h2⟩
        · exact slt_app _ _ (so_at h.so h1 ht h2)
        · rw [ht] at h1
          cases h1
          exact slt_last _ (by omega)
    · rw [ek]
      rcases back i p hi with hi2 | ⟨rfl, rfl⟩
      · by_cases e2 : i = t ∧ c = l
        · obtain ⟨rfl, rfl⟩ := e2
          rw [ht] at hi2
          cases hi2
          exact List.mem_append_right _ (List.mem_singleton.mpr rfl)
        · exact List.mem_append_left _ (h.cl i p hi2 c hc (by omega))
      · omega
    · rcases List.mem_append.mp hp with hp | hp
      · exact h.mi p hp v hv e
      · rw [List.mem_singleton.mp hp] at e ⊢
        obtain ⟨p', q, c, h1, h2, h3, h4, h5⟩ := leaves (st := st) (m := m) h.one_mem v hv (by rw [e]; exact hk)
        obtain ⟨i, pr, hi, ei⟩ := keys_at h4
        have hmi := h.mi pr (List.mem_of_getElem? hi) p' h3 ei.symm
        have hlate : ¬ (i < t ∨ (i = t ∧ c < l)) := fun z => h5 (by rw [← ei]; exact h.cl i pr hi c h1 z)
        rw [h2]
        refine slt_pre q ?_
        by_cases hit : i = t
        · subst hit
          rw [ht] at hi
          cases hi
          rcases hmi with hmi | hmi
          · rw [hmi]
            by_cases hcl : c = l
            · rw [hcl]; exact .inl rfl
            · exact .inr (slt_last _ (by omega))
          · exact .inr (slt_app _ _ hmi)
        · have hs := so_at h.so ht hi (by omega)
          rcases hmi with hmi | hmi
          · rw [hmi]; exact .inr (slt_app _ _ hs)
          · exact .inr (slt_app _ _ (slt_trans hs hmi))
    · rcases List.mem_append.mp hp with hp | hp
      · exact (h.fr p hp).imp id fun ⟨i, q, c, h1, h2, h3⟩ => ⟨i, q, c, old _ _ h1, by omega, h3⟩
      · rw [List.mem_singleton.mp hp]
        exact .inr ⟨t, (n, u), l, old _ _ ht, by omega, rfl⟩
    · rcases back i p hi with hi | ⟨rfl, rfl⟩
      · exact h.ln i p hi
      · have := h.ln t _ ht
        rw [List.length_append]
        show u.length + 1 ≤ kw.length
        simp at this
        omega
/-- a known node -/
theorem Bf.known {x : α} {w : List Nat} (h : Bf st m one kw t l) (k : (x, w) ∈ kw) : IsLw st m one x (some w) :=
  ⟨fun v e => by cases e; exact ⟨(h.wd _ k).1, (h.wd _ k).2, h.mi _ k⟩, fun e => by cases e⟩
/-- all is gone through -/
theorem Bf.unknown {x : α} (h : Bf st m one kw kw.length 0) (k : x ∉ keys kw) : IsLw st m one x none := by
  refine ⟨(fun v e => by cases e), fun _ v hv e => ?_⟩
  obtain ⟨p, q, c, h1, h2, h3, h4, h5⟩ := leaves (st := st) (m := m) h.one_mem v hv (by rw [e]; exact k)
  obtain ⟨i, pr, hi, ei⟩ := keys_at h4
  exact h5 (by rw [← ei]; exact h.cl i pr hi c h1 (.inl (List.getElem?_eq_some_iff.mp hi).1))
theorem nodup_sub : ∀ (l m : List α), l.Nodup → (∀ x ∈ l, x ∈ m) → l.length ≤ m.length
  | [], m, _, _ => Nat.zero_le _
  | a :: l, m, nd, h => by
    obtain ⟨s, t, rfl⟩ := List.append_of_mem (h a List.mem_cons_self)
    rw [List.nodup_cons] at nd
    have := nodup_sub l (s ++ t) nd.2 fun x hx => by
      have h1 := h x (List.mem_cons_of_mem _ hx)
      have h2 : x ≠ a := fun e => nd.1 (e ▸ hx)
      rw [List.mem_append, List.mem_cons] at h1
      rw [List.mem_append]
      rcases h1 with h1 | h1 | h1
      · exact .inl h1
      · exact absurd h1 h2
      · exact .inr h1
    rw [List.length_append] at this
    rw [List.length_append, List.length_cons, List.length_cons]
    omega
theorem go_in {all : List α} (h1 : one ∈ all) (hs : ∀ n c, n ∈ all → c < m → st n c ∈ all) : ∀ w, Lt m w → go st one w ∈ all := by
  refine rev_ind (fun _ => h1) fun w c ih hw => ?_
  rw [go_snoc]
  have hc := hw c (by simp)
  exact hs _ _ (ih fun x hx => hw x (by simp [hx])) (by omega)
theorem Bf.len_le {all : List α} (h : Bf st m one kw t l) (h1 : one ∈ all) (hs : ∀ n c, n ∈ all → c < m → st n c ∈ all) : kw.length ≤ all.length ∧ ∀ p ∈ kw, p.1 ∈ all := by
  have hp : ∀ p ∈ kw, p.1 ∈ all := fun p hp => by
    obtain ⟨a, b⟩ := h.wd p hp
    rw [← b]; exact go_in h1 hs _ a
  refine ⟨?_, hp⟩
  have h2 := nodup_sub (keys kw) all h.nd fun x hx => by
    obtain ⟨p, q, rfl⟩ := mem_keys.mp hx
    exact hp p q
  unfold keys at h2
  rwa [List.length_map] at h2
end
end
/-! ### least words that lead to a kind of node -/
section
variable {α β : Type}
/-- the first place -/
def fl (f : Nat → Option β) : Nat → Option β
  | 0 => none
  | k + 1 => (fl f k).or (f k)
theorem fl_none {f : Nat → Option β} : ∀ {k : Nat}, fl f k = none ↔ ∀ l, l < k → f l = none
  | 0 => ⟨fun _ l h => absurd h (Nat.not_lt_zero _), fun _ => rfl⟩
  | k + 1 => by
    unfold fl
    rw [Option.or_eq_none_iff, fl_none]
    refine ⟨fun ⟨h1, h2⟩ l hl => ?_, fun h => ⟨fun l hl => h l (by omega), h k (by omega)⟩⟩
    by_cases e : l = k
    · rw [e]; exact h2
    · exact h1 l (by omega)
theorem fl_some {f : Nat → Option β} {b : β} : ∀ {k : Nat}, fl f k = some b → ∃ l, l < k ∧ f l = some b ∧ ∀ j, j < l → f j = none
  | 0, h => by cases h
  | k + 1, h => by
    unfold fl at h
    cases e : fl f k with
    | some c =>
      rw [e] at h
      cases h
      obtain ⟨l, h1, h2, h3⟩ := fl_some e
      exact ⟨l, by omega, h2, h3⟩
    | none =>
      rw [e] at h
      exact ⟨k, by omega, h, fl_none.mp e⟩
/-- the least of the words of at most t letters that lead to D -/
def mw (st : α → Nat → α) (D : α → Bool) (k : Nat) : Nat → α → Option (List Nat)
  | 0, x => if D x then some [] else none
  | t + 1, x => (mw st D k t x).or (fl (fun l => (mw st D k t (st x l)).map fun u => (97 + l) :: u) k)
variable {st : α → Nat → α} {D : α → Bool} {k : Nat}
theorem mw_len : ∀ {t : Nat} {x : α} {w : List Nat}, mw st D k t x = some w → w.length ≤ t
  | 0, x, w, h => by
    unfold mw at h
    split at h
    · cases h; exact Nat.le_refl _
    · cases h
  | t + 1, x, w, h => by
    unfold mw at h
    cases e : mw st D k t x with
    | some v =>
      rw [e] at h
      cases h
      have := mw_len e
      omega
    | none =>
      rw [e] at h
      obtain ⟨l, h1, h2, h3⟩ := fl_some h
      cases e2 : mw st D k t (st x l) with
      | none => rw [e2] at h2; cases h2
      | some u =>
        rw [e2] at h2
        cases h2
        have := mw_len e2
        simp; omega
theorem mw_diag {x : α} (h : D x = true) : ∀ t, mw st D k t x = some []
  | 0 => by unfold mw; rw [if_pos h]
  | t + 1 => by unfold mw; rw [mw_diag h t]; rfl
theorem mw_all : ∀ (t : Nat) (x : α), (mw st D k t x = none → ∀ v, Lt k v → v.length ≤ t → D (go st x v) = false) ∧ (∀ w, mw st D k t x = some w → Lt k w ∧ D (go st x w) = true ∧ ∀ v, Lt k v → D (go st x v) = true → v = w ∨ slt w v)
  | 0, x => by
    by_cases h : D x = true
    · have e : mw st D k 0 x = some [] := mw_diag h 0
      rw [e]
      refine ⟨(fun z => by cases z), fun w z => ?_⟩
      cases z
      refine ⟨(fun c hc => by cases hc), h, fun v _ _ => ?_⟩
      by_cases e : v = []
      · exact .inl e
      · exact .inr (slt_nil e)
    · have e : mw st D k 0 x = none := by unfold mw; rw [if_neg h]
      rw [e]
      refine ⟨fun _ v _ hl => ?_, fun w z => by cases z⟩
      have : v = [] := List.length_eq_zero_iff.mp (by omega)
      subst this
      show D x = false
      simpa using h
  | t + 1, x => by
    obtain ⟨i1, i2⟩ := mw_all t x
    have un : mw st D k (t + 1) x = (mw st D k t x).or (fl (fun l => (mw st D k t (st x l)).map fun u => (97 + l) :: u) k) := rfl
    cases e : mw st D k t x with
    | some w =>
      rw [e] at un
      rw [un]
      exact ⟨(fun z => by cases z), fun v z => by cases z; exact i2 w e⟩
    | none =>
      rw [e] at un
      have i1 := i1 e
      rw [un]
      have head : ∀ v, Lt k v → D (go st x v) = true → ∃ l v', v = (97 + l) :: v' ∧ l < k ∧ Lt k v' ∧ D (go st (st x l) v') = true ∧ t ≤ v'.length := fun v hv hd => by
        cases v with
        | nil => have := i1 [] hv (Nat.zero_le _); rw [this] at hd; cases hd
        | cons c v' =>
          have hc := hv c List.mem_cons_self
          refine ⟨c - 97, v', by rw [show 97 + (c - 97) = c by omega], by omega, fun y hy => hv y (List.mem_cons_of_mem _ hy), hd, ?_⟩
          refine Classical.byContradiction fun hlt => ?_
          have := i1 (c :: v') hv (by simp; omega)
          rw [this] at hd; cases hd
      refine ⟨fun z v hv hl => ?_, fun w z => ?_⟩
      · cases hd : D (go st x v) with
        | false => rfl
        | true =>
          obtain ⟨l, v', rfl, h1, h2, h3, h4⟩ := head v hv hd
          have h5 := fl_none.mp z l h1
          rw [Option.map_eq_none_iff] at h5
          have h6 := (mw_all t (st x l)).1 h5 v' h2 (by simp at hl; omega)
          rw [h6] at h3; cases h3
      · obtain ⟨l, h1, h2, h3⟩ := fl_some z
        rw [Option.map_eq_some_iff] at h2
        obtain ⟨u, h4, rfl⟩ := h2
        obtain ⟨j1, j2, j3⟩ := (mw_all t (st x l)).2 u h4
        have hu := mw_len h4
        refine ⟨fun c hc => ?_, ?_, fun v hv hd => ?_⟩
        · rcases List.mem_cons.mp hc with h | h
          · rw [h]; omega
          · exact j1 c h
        · show D (go st (st x (97 + l - 97)) u) = true
          rw [show 97 + l - 97 = l by omega]
          exact j2
        · obtain ⟨l', v', rfl, g1, g2, g3, g4⟩ := head v hv hd
          by_cases hvl : v'.length = t
          · have hll : l ≤ l' := by
              refine Classical.byContradiction fun hlt => ?_
              have h5 := h3 l' (by omega)
              rw [Option.map_eq_none_iff] at h5
              have h6 := (mw_all t (st x l')).1 h5 v' g2 (by omega)
              rw [h6] at g3; cases g3
            by_cases hul : u.length = t
            · by_cases e2 : l = l'
              · subst e2
                rcases j3 v' g2 g3 with h | h
                · exact .inl (by rw [h])
                · exact .inr (slt_cons _ h)
              · refine .inr (.inr ⟨by simp; omega, ?_⟩)
                exact List.Lex.rel (by omega)
            · exact .inr (.inl (by simp; omega))
          · exact .inr (.inl (by simp; omega))
theorem mw_mono {t : Nat} {x : α} {w : List Nat} (h : mw st D k t x = some w) : mw st D k (t + 1) x = some w := by
  show (mw st D k t x).or _ = _
  rw [h]; rfl
/-- what is new has just t + 1 letters -/
theorem mw_new {t : Nat} {x : α} {w : List Nat} (h : mw st D k t x = none) (h1 : mw st D k (t + 1) x = some w) : w.length = t + 1 := by
  have h2 := mw_len h1
  obtain ⟨a, b, _⟩ := (mw_all (t + 1) x).2 w h1
  refine Classical.byContradiction fun hn => ?_
  have := (mw_all t x).1 h w a (by omega)
  rw [this] at b; cases b
theorem mw_old {t : Nat} {x : α} {w : List Nat} (h1 : mw st D k (t + 1) x = some w) (hl : w.length = t + 1) : mw st D k t x = none := by
  cases e : mw st D k t x with
  | none => rfl
  | some v =>
    rw [mw_mono e] at h1
    cases h1
    have := mw_len e
    omega
/-- a word behind a letter is long, or the node has one -/
theorem mw_one {t l : Nat} {x : α} {u : List Nat} (h : mw st D k t x = none) (hl : l < k) (h1 : mw st D k t (st x l) = some u) : u.length = t := by
  have h2 := mw_len h1
  obtain ⟨a, b, _⟩ := (mw_all t (st x l)).2 u h1
  refine Classical.byContradiction fun hn => ?_
  have := (mw_all t x).1 h ((97 + l) :: u) (fun c hc => by
    rcases List.mem_cons.mp hc with h | h
    · rw [h]; omega
    · exact a c h) (by simp; omega)
  have e : go st x ((97 + l) :: u) = go st (st x l) u := by
    show go st (st x (97 + l - 97)) u = _
    rw [show 97 + l - 97 = l by omega]
  rw [e, b] at this; cases this
/-- the least of the words that come for a node that has none -/
theorem mw_min {t : Nat} {x : α} {w : List Nat} (h : mw st D k t x = none) (hin : ∃ l u, l < k ∧ mw st D k t (st x l) = some u ∧ w = (97 + l) :: u) (hle : ∀ l u, l < k → mw st D k t (st x l) = some u → ¬ ((97 + l) :: u < w)) : mw st D k (t + 1) x = some w := by
  obtain ⟨l, u, h1, h2, rfl⟩ := hin
  show (mw st D k t x).or _ = _
  rw [h]
  show fl _ k = _
  cases e : fl (fun l => (mw st D k t (st x l)).map fun u => (97 + l) :: u) k with
  | none =>
    have := fl_none.mp e l h1
    rw [h2] at this; cases this
  | some v =>
    obtain ⟨j, g1, g2, g3⟩ := fl_some e
    rw [Option.map_eq_some_iff] at g2
    obtain ⟨u', g4, rfl⟩ := g2
    have hjl : j ≤ l := by
      refine Classical.byContradiction fun hn => ?_
      have := g3 l (by omega)
      rw [h2] at this; cases this
    by_cases e2 : j = l
    · subst e2
      rw [h2] at g4
      cases g4
      rfl
    · exact absurd (List.Lex.rel (by omega)) (hle j u' g1 g4)
theorem mw_next {t : Nat} {x : α} {w : List Nat} (h : mw st D k t x = none) (h1 : mw st D k (t + 1) x = some w) : ∃ l u, l < k ∧ mw st D k t (st x l) = some u ∧ w = (97 + l) :: u := by
  have e : mw st D k (t + 1) x = (mw st D k t x).or (fl (fun l => (mw st D k t (st x l)).map fun u => (97 + l) :: u) k) := rfl
  rw [h] at e
  rw [e] at h1
  obtain ⟨j, g1, g2, g3⟩ := fl_some h1
  rw [Option.map_eq_some_iff] at g2
  obtain ⟨u', g4, rfl⟩ := g2
  exact ⟨j, u', g1, g4, rfl⟩
/-- no word of t letters comes: all is found -/
theorem mw_stop {ok : α → Prop} {t : Nat} (hc : ∀ x l, ok x → l < k → ok (st x l)) (hs : ∀ x l u, ok x → D x = false → l < k → mw st D k t (st x l) = some u → u.length ≠ t) :
    ∀ (v : List Nat) (x : α), ok x → Lt k v → D (go st x v) = true → mw st D k t x ≠ none
  | [], x, _, _, h, e => by
    have h : D x = true := h
    rw [mw_diag h] at e; cases e
  | c :: v, x, hx, hv, h, e => by
    have hc1 := hv c List.mem_cons_self
    have ih := mw_stop hc hs v (st x (c - 97)) (hc _ _ hx (by omega)) (fun y hy => hv y (List.mem_cons_of_mem _ hy)) h
    cases e1 : mw st D k t (st x (c - 97)) with
    | none => exact ih e1
    | some u =>
      cases hd : D x with
      | true => rw [mw_diag hd] at e; cases e
      | false => exact hs x _ u hx hd (by omega) e1 (mw_one e (by omega) e1)
end
end MonA
/-! Automata: pairs of states led together, sets of states. -/
namespace Rs
open Mon
structure At (R : Tab) (n k : Nat) : Prop where
  len : R.length = n
  n1 : 1 ≤ n
  n6 : n ≤ 6
  k1 : 1 ≤ k
  k4 : k ≤ 4
  row : ∀ i, i < n → (R.getD i []).length = k
  lt : ∀ i l, i < n → l < k → at2 R i l < n
abbrev Pr := Nat × Nat
def nrm (p : Pr) : Pr := (min p.1 p.2, max p.1 p.2)
def sp2 (R : Tab) (p : Pr) (l : Nat) : Pr := nrm (at2 R p.1 l, at2 R p.2 l)
def dg (p : Pr) : Bool := decide (p.1 = p.2)
theorem nrm_dg (a b : Nat) : dg (nrm (a, b)) = decide (a = b) := by
  show decide (min a b = max a b) = _
  by_cases e : a = b
  · rw [e]; simp
  · have : ¬ min a b = max a b := by omega
    rw [decide_eq_false this, decide_eq_false e]
theorem nrm_cases (a b : Nat) : nrm (a, b) = (a, b) ∨ nrm (a, b) = (b, a) := by
  show (min a b, max a b) = (a, b) ∨ (min a b, max a b) = (b, a)
  rcases Nat.le_total a b with h | h
  · exact .inl (by rw [Nat.min_eq_left h, Nat.max_eq_right h])
  · exact .inr (by rw [Nat.min_eq_right h, Nat.max_eq_left h])
theorem nrm_swap (a b : Nat) : nrm (a, b) = nrm (b, a) := by
  show (min a b, max a b) = (min b a, max b a)
  rw [Nat.min_comm, Nat.max_comm]
theorem nrm_lt {a b : Nat} (h : a < b) : nrm (a, b) = (a, b) := by
  show (min a b, max a b) = (a, b)
  rw [Nat.min_eq_left (by omega), Nat.max_eq_right (by omega)]
theorem sp2_nrm (R : Tab) (a b l : Nat) : sp2 R (nrm (a, b)) l = nrm (at2 R a l, at2 R b l) := by
  rcases nrm_cases a b with h | h
  · rw [h]; rfl
  · rw [h]; exact nrm_swap _ _
theorem run_cons (R : Tab) (p c : Nat) (w : List Nat) : run R p (c :: w) = run R (at2 R p (c - 97)) w := rfl
theorem go_nrm (R : Tab) : ∀ (w : List Nat) (a b : Nat), MonA.go (sp2 R) (nrm (a, b)) w = nrm (run R a w, run R b w)
  | [], a, b => rfl
  | c :: w, a, b => by
    show MonA.go (sp2 R) (sp2 R (nrm (a, b)) (c - 97)) w = _
    rw [sp2_nrm, go_nrm R w]; rfl
/-- o is the least word that leads p and q to one state -/
abbrev IsM (R : Tab) (k p q : Nat) (o : Option (List Nat)) : Prop := IsLP (fun w => run R p w = run R q w) k o
theorem IsM.swap {R : Tab} {k p q : Nat} {o : Option (List Nat)} (h : IsM R k p q o) : IsM R k q p o :=
  ⟨fun w e => let ⟨a, b, c⟩ := h.1 w e; ⟨a, b.symm, fun v hv hd => c v hv hd.symm⟩, fun e v hv hd => h.2 e v hv hd.symm⟩
theorem IsM.same (R : Tab) (k p : Nat) : IsM R k p p (some []) :=
  ⟨fun w e => by cases e; exact ⟨(fun c hc => by cases hc), rfl, fun v _ _ => if h : v = [] then Or.inl h else Or.inr (slt_nil h)⟩, fun e => by cases e⟩
abbrev mwR (R : Tab) (k t : Nat) (p : Pr) : Option (List Nat) := MonA.mw (sp2 R) dg k t p
section
variable {R : Tab} {n k t : Nat}
theorem go_dg {i j : Nat} (h : i < j) (w : List Nat) : dg (MonA.go (sp2 R) (i, j) w) = decide (run R i w = run R j w) := by
  rw [← nrm_lt h, go_nrm, nrm_dg]
theorem isM_some {i j : Nat} {w : List Nat} (h : i < j) (e : mwR R k t (i, j) = some w) : IsM R k i j (some w) := by
  obtain ⟨a, b, c⟩ := (MonA.mw_all t (i, j)).2 w e
  rw [go_dg h] at b
  exact ⟨fun v e => by cases e; exact ⟨a, of_decide_eq_true b, fun v hv hd => c v hv (by rw [go_dg h]; exact decide_eq_true hd)⟩, fun e => by cases e⟩
theorem ok_sp2 (A : At R n k) {p : Pr} {l : Nat} (h : p.1 < n ∧ p.2 < n ∧ p.1 ≤ p.2) (hl : l < k) : (sp2 R p l).1 < n ∧ (sp2 R p l).2 < n ∧ (sp2 R p l).1 ≤ (sp2 R p l).2 := by
  have h1 := A.lt p.1 l h.1 hl
  have h2 := A.lt p.2 l h.2.1 hl
  show min _ _ < n ∧ max _ _ < n ∧ min _ _ ≤ max _ _
  omega
theorem isM_none (A : At R n k) (hs : ∀ i j l u, i < j → j < n → l < k → mwR R k t (sp2 R (i, j) l) = some u → u.length ≠ t) {i j : Nat} (hij : i < j) (hj : j < n) (e : mwR R k t (i, j) = none) : IsM R k i j none := by
  refine ⟨(fun w z => by cases z), fun _ v hv hd => ?_⟩
  refine MonA.mw_stop (st := sp2 R) (D := dg) (k := k) (t := t) (ok := fun p => p.1 < n ∧ p.2 < n ∧ p.1 ≤ p.2) (fun x l hx hl => ok_sp2 A hx hl) (fun x l u hx hd hl hu => ?_) v (i, j) ⟨by omega, hj, by simp; omega⟩ hv (by rw [go_dg hij]; exact decide_eq_true hd) e
  obtain ⟨a, b⟩ := x
  have hne : a ≠ b := of_decide_eq_false hd
  exact hs a b l u (by omega) hx.2.1 hl hu
/-! ### all pairs -/
def apR (n i : Nat) : List Pr := (List.range (n - (i + 1))).map fun d => (i, i + 1 + d)
def apU (n i : Nat) : List Pr := (List.range i).flatMap (apR n)
def allp (n : Nat) : List Pr := apU n n
theorem apU_succ (n i : Nat) : apU n (i + 1) = apU n i ++ apR n i := by unfold apU; rw [List.range_succ, List.flatMap_append]; simp
theorem mem_apR {n i : Nat} {p : Pr} : p ∈ apR n i ↔ p.1 = i ∧ i < p.2 ∧ p.2 < n := by
  unfold apR
  rw [List.mem_map]
  refine ⟨fun ⟨d, hd, e⟩ => ?_, fun ⟨h1, h2, h3⟩ => ⟨p.2 - (i + 1), List.mem_range.mpr (by omega), ?_⟩⟩
  · have := List.mem_range.mp hd
    rw [← e]; simp; omega
  · obtain ⟨a, b⟩ := p
    simp only at h1 h2 h3 ⊢
    rw [h1, show i + 1 + (b - (i + 1)) = b by omega]
theorem mem_allp {n : Nat} {p : Pr} : p ∈ allp n ↔ p.1 < p.2 ∧ p.2 < n := by
  unfold allp apU
  rw [List.mem_flatMap]
  refine ⟨fun ⟨i, hi, h⟩ => ?_, fun h => ⟨p.1, List.mem_range.mpr (by omega), mem_apR.mpr ⟨rfl, h⟩⟩⟩
  obtain ⟨h1, h2, h3⟩ := mem_apR.mp h
  omega
theorem apU_len {n : Nat} (hn : n ≤ 6) : ∀ i, i ≤ n → (apU n i).length ≤ 5 * i
  | 0, _ => by simp [apU]
  | i + 1, h => by
    have := apU_len hn i (by omega)
    rw [apU_succ, List.length_append]
    unfold apR
    rw [List.length_map, List.length_range]
    omega
/-! ### what lies behind -/
abbrev En := Pr × (Pr × Nat)
def e3 (R : Tab) (k : Nat) (p : Pr) : List En := (List.range k).map fun l => (sp2 R p l, (p, l))
def ens (R : Tab) (k : Nat) (ps : List Pr) : List En := ps.flatMap (e3 R k)
def bl (es : List En) (g : Pr) : List (Pr × Nat) := (es.filter fun e => decide (e.1 = g)).map (·.2)
theorem bl_snoc (es : List En) (e : En) (g : Pr) : bl (es ++ [e]) g = if e.1 = g then bl es g ++ [e.2] else bl es g := by
  unfold bl
  rw [List.filter_append, List.map_append]
  by_cases h : e.1 = g
  · simp [h]
  · simp [h]
theorem mem_bl {es : List En} {g p : Pr} {l : Nat} : (p, l) ∈ bl es g ↔ (g, (p, l)) ∈ es := by
  unfold bl
  rw [List.mem_map]
  refine ⟨fun ⟨e, he, h⟩ => ?_, fun h => ⟨_, List.mem_filter.mpr ⟨h, by simp⟩, rfl⟩⟩
  obtain ⟨h1, h2⟩ := List.mem_filter.mp he
  have h3 : e.1 = g := by simpa using h2
  obtain ⟨a, b⟩ := e
  simp only at h h3
  rw [← h, ← h3]; exact h1
theorem mem_ens {ps : List Pr} {e : En} : e ∈ ens R k ps ↔ ∃ p ∈ ps, ∃ l, l < k ∧ e = (sp2 R p l, (p, l)) := by
  unfold ens
  rw [List.mem_flatMap]
  refine ⟨fun ⟨p, hp, h⟩ => ?_, fun ⟨p, hp, l, hl, e⟩ => ⟨p, hp, ?_⟩⟩
  · obtain ⟨l, hl, e⟩ := List.mem_map.mp h
    exact ⟨p, hp, l, List.mem_range.mp hl, e.symm⟩
  · exact List.mem_map.mpr ⟨l, List.mem_range.mpr hl, e.symm⟩
theorem mem_bl_all {g p : Pr} {l : Nat} : (p, l) ∈ bl (ens R k (allp n)) g ↔ p.1 < p.2 ∧ p.2 < n ∧ l < k ∧ g = sp2 R p l := by
  rw [mem_bl, mem_ens]
  refine ⟨fun ⟨q, hq, l', hl, e⟩ => ?_, fun ⟨h1, h2, h3, h4⟩ => ⟨p, mem_allp.mpr ⟨h1, h2⟩, l, h3, by rw [h4]⟩⟩
  cases e
  obtain ⟨a, b⟩ := mem_allp.mp hq
  exact ⟨a, b, hl, rfl⟩
theorem bl_len (es : List En) (g : Pr) : (bl es g).length ≤ es.length := by
  unfold bl
  rw [List.length_map]
  exact List.length_filter_le _ _
theorem ens_len (hk : k ≤ 4) : ∀ ps : List Pr, (ens R k ps).length ≤ 4 * ps.length
  | [] => by simp [ens]
  | p :: ps => by
    have := ens_len hk ps
    show ((p :: ps).flatMap (e3 R k)).length ≤ _
    rw [List.flatMap_cons, List.length_append, List.length_cons]
    have h : (e3 R k p).length = k := by unfold e3; rw [List.length_map, List.length_range]
    have h2 : (ps.flatMap (e3 R k)).length ≤ 4 * ps.length := this
    omega
theorem ens_app (ps qs : List Pr) : ens R k (ps ++ qs) = ens R k ps ++ ens R k qs := by unfold ens; rw [List.flatMap_append]
theorem ens_one (p : Pr) : ens R k [p] = e3 R k p := by unfold ens; simp
/-! ### sets of states -/
def asc (n : Nat) (ns : List Nat) : List Nat := (List.range n).filter fun i => decide (i ∈ ns)
theorem mem_asc {n : Nat} {ns : List Nat} {x : Nat} : x ∈ asc n ns ↔ x < n ∧ x ∈ ns := by
  unfold asc
  rw [List.mem_filter, List.mem_range]; simp
theorem asc_so (n : Nat) (ns : List Nat) : (asc n ns).Pairwise (· < ·) := List.Pairwise.filter _ List.pairwise_lt_range
theorem so_uniq : ∀ {l m : List Nat}, l.Pairwise (· < ·) → m.Pairwise (· < ·) → (∀ x, x ∈ l ↔ x ∈ m) → l = m
  | [], [], _, _, _ => rfl
  | [], b :: m, _, _, h => absurd ((h b).mpr List.mem_cons_self) (by simp)
  | a :: l, [], _, _, h => absurd ((h a).mp List.mem_cons_self) (by simp)
  | a :: l, b :: m, h1, h2, h => by
    rw [List.pairwise_cons] at h1 h2
    have e : a = b := by
      rcases List.mem_cons.mp ((h a).mp List.mem_cons_self) with e | e
      · exact e
      · rcases List.mem_cons.mp ((h b).mpr List.mem_cons_self) with e2 | e2
        · exact e2.symm
        · have := h1.1 b e2
          have := h2.1 a e
          omega
    subst e
    rw [so_uniq h1.2 h2.2 fun x => ?_]
    refine ⟨fun hx => ?_, fun hx => ?_⟩
    · rcases List.mem_cons.mp ((h x).mp (List.mem_cons_of_mem _ hx)) with e | e
      · have := h1.1 x hx; omega
      · exact e
    · rcases List.mem_cons.mp ((h x).mpr (List.mem_cons_of_mem _ hx)) with e | e
      · have := h2.1 x hx; omega
      · exact e
theorem asc_uniq {us ns : List Nat} (h1 : us.Pairwise (· < ·)) (h2 : ∀ x, x ∈ us ↔ x ∈ ns) (h3 : ∀ x ∈ ns, x < n) : us = asc n ns :=
  so_uniq h1 (asc_so n ns) fun x => by rw [mem_asc, h2]; exact ⟨fun h => ⟨h3 x h, h⟩, fun h => h.2⟩
theorem asc_cong {ns ms : List Nat} (h : ∀ x, x ∈ ns ↔ x ∈ ms) : asc n ns = asc n ms := so_uniq (asc_so _ _) (asc_so _ _) fun x => by rw [mem_asc, mem_asc, h]
def sS (R : Tab) (n : Nat) (here : List Nat) (l : Nat) : List Nat := asc n (here.map fun s => at2 R s l)
theorem run_lt (A : At R n k) : ∀ (w : List Nat) (p : Nat), p < n → Lt k w → run R p w < n
  | [], p, h, _ => h
  | c :: w, p, h, hw => by
    have hc := hw c List.mem_cons_self
    rw [run_cons]
    exact run_lt A w _ (A.lt p _ h (by omega)) fun y hy => hw y (List.mem_cons_of_mem _ hy)
theorem go_asc (A : At R n k) : ∀ (w ns : List Nat), (∀ x ∈ ns, x < n) → Lt k w → MonA.go (sS R n) (asc n ns) w = asc n (ns.map fun p => run R p w)
  | [], ns, h, _ => by
    show asc n ns = asc n (ns.map fun p => p)
    rw [List.map_id']
  | c :: w, ns, h, hw => by
    have hc := hw c List.mem_cons_self
    have hlt : ∀ x ∈ ns.map (fun s => at2 R s (c - 97)), x < n := fun x hx => by
      obtain ⟨y, hy, rfl⟩ := List.mem_map.mp hx
      exact A.lt y _ (h y hy) (by omega)
    show MonA.go (sS R n) (sS R n (asc n ns) (c - 97)) w = _
    have e : sS R n (asc n ns) (c - 97) = asc n (ns.map fun s => at2 R s (c - 97)) := by
      unfold sS
      refine asc_cong fun x => ?_
      rw [List.mem_map, List.mem_map]
      refine ⟨fun ⟨y, h1, h2⟩ => ⟨y, (mem_asc.mp h1).2, h2⟩, fun ⟨y, h1, h2⟩ => ⟨y, mem_asc.mpr ⟨h y h1, h1⟩, h2⟩⟩
    rw [e, go_asc A w _ hlt fun y hy => hw y (List.mem_cons_of_mem _ hy), List.map_map]
    rfl
theorem asc_two {a b : Nat} (ha : a < n) (hb : b < n) : (asc n [a, b]).length = 1 ↔ a = b := by
  refine ⟨fun h => ?_, fun e => ?_⟩
  · obtain ⟨x, hx⟩ := List.length_eq_one_iff.mp h
    have h1 : a ∈ asc n [a, b] := mem_asc.mpr ⟨ha, by simp⟩
    have h2 : b ∈ asc n [a, b] := mem_asc.mpr ⟨hb, by simp⟩
    rw [hx] at h1 h2
    rw [List.mem_singleton.mp h1, List.mem_singleton.mp h2]
  · subst e
    have : asc n [a, a] = [a] := (asc_uniq (us := [a]) (by simp) (fun x => by simp) (fun x hx => by simp at hx; omega)).symm
    rw [this]; rfl
def subs : Nat → List (List Nat)
  | 0 => [[]]
  | n + 1 => subs n ++ (subs n).map (· ++ [n])
theorem subs_len : ∀ n, (subs n).length = 2 ^ n
  | 0 => rfl
  | n + 1 => by
    show (subs n ++ (subs n).map (· ++ [n])).length = _
    rw [List.length_append, List.length_map, subs_len n, Nat.pow_succ]; omega
theorem filter_subs (f : Nat → Bool) : ∀ n, (List.range n).filter f ∈ subs n
  | 0 => by simp [subs]
  | n + 1 => by
    show _ ∈ subs n ++ (subs n).map (· ++ [n])
    rw [List.range_succ, List.filter_append, List.mem_append]
    cases h : f n with
    | false => left; simp [h]; exact filter_subs f n
    | true => right; simp [h]; exact filter_subs f n
theorem asc_subs (n : Nat) (ns : List Nat) : asc n ns ∈ subs n := filter_subs _ n
theorem pow_le6 (h : n ≤ 6) : 2 ^ n ≤ 64 := (Nat.pow_le_pow_right (by omega) h : 2 ^ n ≤ 2 ^ 6)
/-! ### the least of the words that lead to one state -/
abbrev Kn := MonA.Kw (List Nat)
def ones (kw : Kn) : Kn := kw.filter fun r => decide (r.1.length = 1)
theorem isM_front (A : At R n k) {p q : Nat} (hp : p < n) (hq : q < n) {kw : Kn} (B : MonA.Bf (sS R n) k (asc n [p, q]) kw kw.length 0) {o : Option (List Nat)}
    (h1 : ∀ w, o = some w → (∃ r ∈ ones kw, r.2 = w) ∧ ∀ r ∈ ones kw, r.2 = w ∨ slt w r.2) (h2 : o = none → ones kw = []) : IsM R k p q o := by
  have one : ∀ w, Lt k w → ((MonA.go (sS R n) (asc n [p, q]) w).length = 1 ↔ run R p w = run R q w) := fun w hw => by
    rw [go_asc A w [p, q] (fun x hx => by simp at hx; omega) hw]
    exact asc_two (run_lt A w p hp hw) (run_lt A w q hq hw)
  have find : ∀ v, Lt k v → run R p v = run R q v → ∃ r ∈ ones kw, v = r.2 ∨ slt r.2 v := fun v hv he => by
    by_cases hk : MonA.go (sS R n) (asc n [p, q]) v ∈ MonA.keys kw
    · obtain ⟨r, hr, e⟩ := MonA.mem_keys.mp hk
      refine ⟨r, List.mem_filter.mpr ⟨hr, ?_⟩, B.mi r hr v hv e.symm⟩
      rw [e]
      exact decide_eq_true ((one v hv).mpr he)
    · exact absurd rfl ((B.unknown hk).2 rfl v hv)
  refine ⟨fun w e => ?_, fun e v hv hd => ?_⟩
  · obtain ⟨⟨r, hr, rfl⟩, hmin⟩ := h1 w e
    obtain ⟨hr1, hr2⟩ := List.mem_filter.mp hr
    obtain ⟨a, b⟩ := B.wd r hr1
    refine ⟨a, (one _ a).mp (by rw [b]; exact of_decide_eq_true hr2), fun v hv hd => ?_⟩
    obtain ⟨r', hr', hv'⟩ := find v hv hd
    rcases hmin r' hr' with h | h
    · rw [h] at hv'; exact hv'
    · rcases hv' with e2 | e2
      · exact .inr (e2 ▸ h)
      · exact .inr (slt_trans h e2)
  · obtain ⟨r, hr, _⟩ := find v hv hd
    rw [h2 e] at hr
    cases hr
end
/-- no word leads the two to one -/
noncomputable def um (R : Tab) (k : Nat) (p : Pr) : Bool := @decide (∀ v, Lt k v → run R p.1 v ≠ run R p.2 v) (Classical.propDecidable _)
theorem um_of {R : Tab} {k p q : Nat} {o : Option (List Nat)} (h : IsM R k p q o) : um R k (p, q) = o.isNone := by
  cases o with
  | none => exact @decide_eq_true _ (Classical.propDecidable _) fun v hv hd => h.2 rfl v hv hd
  | some w => exact @decide_eq_false _ (Classical.propDecidable _) fun z => z w (h.1 w rfl).1 (h.1 w rfl).2.1
end Rs
/-! What lies where automata are searched: lists of references to things, dicts with pairs as keys. -/
namespace My
open PySem PySem.Spec L2 SX LamX Mon Rs
open PyProof.Rows hiding St
/-- all tuples are kept -/
abbrev Kt (H H' : Hp) : Prop := ∀ a xs, H a = some (.tup xs) → H' a = some (.tup xs)
theorem Kt.of {H H' : Hp} (s : Same H H') : Kt H H' := fun a xs h => s _ _ h
theorem Kt.updL {H : Hp} {D : Addr} {ys zs : List V} (h : H D = some (.lst ys)) : Kt H (L2.upd H D (.lst zs)) := fun a xs e => by rw [upd_ne (ne_of e h (fun z => nomatch z))]; exact e
theorem Kt.upd {H : Hp} {D : Addr} {o o' : HO} (h : H D = some o) (n : ∀ xs, o ≠ .tup xs) : Kt H (L2.upd H D o') := fun a xs e => by rw [upd_ne (ne_of e h (fun z => n xs z.symm))]; exact e
section
variable {α β : Type}
def RL (P : Hp → Addr → α → Prop) (H : Hp) (as : List Addr) (xs : List α) : Prop := as.length = xs.length ∧ ∀ (i : Nat) (a : Addr) (x : α), as[i]? = some a → xs[i]? = some x → P H a x
variable {P : Hp → Addr → α → Prop} {H H' : Hp} {as bs : List Addr} {xs ys : List α}
theorem RL.nil : RL P H [] [] := ⟨rfl, fun i a x h => by simp at h⟩
theorem RL.keep (h : RL P H as xs) (k : ∀ a x, P H a x → P H' a x) : RL P H' as xs := ⟨h.1, fun i a x e1 e2 => k _ _ (h.2 i a x e1 e2)⟩
theorem RL.app (h : RL P H as xs) (g : RL P H bs ys) : RL P H (as ++ bs) (xs ++ ys) := by
  refine ⟨by simp [h.1, g.1], fun i a b e1 e2 => ?_⟩
  have hl := h.1
  by_cases hi : i < as.length
  · rw [List.getElem?_append_left hi] at e1
    rw [List.getElem?_append_left (by omega)] at e2
    exact h.2 i a b e1 e2
  · rw [List.getElem?_append_right (by omega)] at e1 e2
    rw [← hl] at e2
    exact g.2 _ a b e1 e2
theorem RL.one {a : Addr} {x : α} (h : P H a x) : RL P H [a] [x] := ⟨rfl, fun i b y e1 e2 => by
  have : i = 0 := by have := (List.getElem?_eq_some_iff.mp e1).1; simp at this; omega
  subst this
  cases e1
  cases e2
  exact h⟩
theorem RL.get (h : RL P H as xs) {i : Nat} {a : Addr} (e : as[i]? = some a) : ∃ x, xs[i]? = some x ∧ P H a x := by
  have hi := (List.getElem?_eq_some_iff.mp e).1
  have hl := h.1
  exact ⟨xs[i], List.getElem?_eq_getElem (by omega), h.2 i a _ e (List.getElem?_eq_getElem (by omega))⟩
end
/-! ### pairs, what leads to them, words for them -/
def Pi (H : Hp) (a : Addr) (p : Pr) : Prop := H a = some (.tup [vI p.1, vI p.2])
def It (H : Hp) (a : Addr) (x : Pr × Nat) : Prop := ∃ t, H a = some (.tup [.ref t, .str (S [97 + x.2])]) ∧ Pi H t x.1
def Wt (H : Hp) (a : Addr) (x : List Nat × Pr) : Prop := ∃ t, H a = some (.tup [.str (S x.1), .ref t]) ∧ Pi H t x.2
theorem Pi.kt {H H' : Hp} (k : Kt H H') {a : Addr} {p : Pr} (h : Pi H a p) : Pi H' a p := k _ _ h
theorem It.kt {H H' : Hp} (k : Kt H H') {a : Addr} {x : Pr × Nat} (h : It H a x) : It H' a x := let ⟨t, h1, h2⟩ := h; ⟨t, k _ _ h1, h2.kt k⟩
theorem Wt.kt {H H' : Hp} (k : Kt H H') {a : Addr} {x : List Nat × Pr} (h : Wt H a x) : Wt H' a x := let ⟨t, h1, h2⟩ := h; ⟨t, k _ _ h1, h2.kt k⟩
def enP (p : Pr) : List Key := [kI p.1, kI p.2]
theorem enP_inj (a b : Pr) (h : enP a = enP b) : a = b := by
  obtain ⟨a1, a2⟩ := a
  obtain ⟨b1, b2⟩ := b
  injection h with h1 h2
  injection h2 with h2 _
  have e1 : a1 = b1 := kI_inj.mp h1
  have e2 : a2 = b2 := kI_inj.mp h2
  rw [e1, e2]
theorem enP_map (p : Pr) : (enP p).map kV = [vI p.1, vI p.2] := rfl
theorem Pi.key {H : Hp} {a : Addr} {p : Pr} (h : Pi H a p) : H a = some (.tup ((enP p).map kV)) := h
/-! ### a comprehension over a list of tuples of two that makes objects -/
section
variable {K : PySem.W.Frag} {σ : L2.St} {H : Hp} {Q : VK} {te : TE} {vs : List Nat}
theorem lcLP_inv {ls : List V} {p : Addr} {a b : Nat} (Pv : Addr → Nat → List V → Hp → Prop) (hn : ls.length ≤ 50000) (hw : ∀ x y, wipe (((wipe σ vs).set a (some x)).set b (some y)) vs = wipe σ vs)
    (hG : ∀ D i acc H', Pv D i acc H' → SqL K H' p ls) (h0 : ∀ D, H D = none → Pv D 0 [] (L2.upd H D (.lst [])))
    (hs : ∀ (D : Addr) (i : Nat) (v : V) (acc : List V) (H' : Hp), ls[i]? = some v → H D = none → acc.length = i → Pv D i acc H' → H' D = some (.lst acc) → ∃ T x y, v = .ref T ∧ SqT K H' T [x, y] ∧ ∀ Q : VK,
      (∀ y H2, H2 D = some (.lst acc) → Pv D (i + 1) (acc ++ [y]) (L2.upd H2 D (.lst (acc ++ [y]))) → Q y H2) → te (((wipe σ vs).set a (some x)).set b (some y)) H' Q)
    (q : ∀ (D : Addr) (acc : List V) (H' : Hp), H D = none → acc.length = ls.length → Pv D ls.length acc H' → H' D = some (.lst acc) → Q (.ref D) H') : LcG (Itl K p) (gp2 K a b) tYes te vs σ Q H := by
  intro D hD
  refine lc_it (walk_list (K := K) (a := p) (xs := ls)) (fun i H' => ∃ acc : List V, H' D = some (.lst acc) ∧ acc.length = i ∧ Pv D i acc H') ⟨[], upd_same, rfl, h0 D hD⟩ (fun i H' _ ⟨acc, _, _, p⟩ => hG D i acc H' p) ?_ ?_
  · rintro i v H1 H1' hi ⟨acc, ha, hl, p⟩ ⟨rfl, hv⟩
    obtain ⟨T, x, y, rfl, hT, ht⟩ := hs D i v acc _ hv hD hl p ha
    refine ⟨T, [x, y], rfl, hT, rfl, x, [y], rfl, y, [], rfl, rfl, hw x y, ?_⟩
    unfold tYes
    dsimp only
    rw [if_pos rfl]
    exact ht _ fun z H2 h2 p2 => ⟨acc, h2, szlt (by omega), acc ++ [z], upd_same, by rw [List.length_append, hl]; rfl, p2⟩
  · rintro H1 ⟨acc, ha, hl, p⟩
    exact q D acc H1 hD hl p ha
/-- each of a list of tuples of two gives a new thing -/
theorem lcRL {α β : Type} {P : Hp → Addr → α → Prop} {P2 : Hp → Addr → β → Prop} (kP : ∀ {H H'}, Kt H H' → ∀ a x, P H a x → P H' a x) (kP2 : ∀ {H H'}, Kt H H' → ∀ a x, P2 H a x → P2 H' a x) {as : List Addr} {xs : List α} {p : Addr} {a b : Nat} (f : α → β)
    (hp : H p = some (.lst (refs as))) (hR : RL P H as xs) (hn : as.length ≤ 50000) (hw : ∀ x y, wipe (((wipe σ vs).set a (some x)).set b (some y)) vs = wipe σ vs)
    (hs : ∀ (T : Addr) (x : α) (H' : Hp), x ∈ xs → Same H H' → P H' T x → ∃ u v, SqT K H' T [u, v] ∧ ∀ Q : VK, (∀ q H2, Same H' H2 → H' q = none → P2 H2 q (f x) → Q (.ref q) H2) → te (((wipe σ vs).set a (some u)).set b (some v)) H' Q)
    (q : ∀ (D : Addr) (bs : List Addr) (H' : Hp), H D = none → Same H H' → H' D = some (.lst (refs bs)) → RL P2 H' bs (xs.map f) → Q (.ref D) H') : LcG (Itl K p) (gp2 K a b) tYes te vs σ Q H := by
  refine lcLP_inv (ls := refs as) (fun D i acc H' => Same H H' ∧ ∃ bs, acc = refs bs ∧ RL P2 H' bs ((xs.map f).take i)) (by rw [refs_len]; exact hn) hw (fun D i acc H' ⟨s, _⟩ => SqL.of (s _ _ hp)) (fun D nD => ⟨Same.new nD, [], rfl, by rw [List.take_zero]; exact RL.nil⟩) ?_ ?_
  · rintro D i v acc H' hv nD hacc ⟨s, bs, rfl, hb⟩ hD
    obtain ⟨T, hT, rfl⟩ := refs_get hv
    obtain ⟨x, hx, hPx⟩ := hR.get hT
    have hP' := kP (Kt.of s) _ _ hPx
    obtain ⟨u, v, h1, h2⟩ := hs T x H' (List.mem_of_getElem? hx) s hP'
    refine ⟨T, u, v, rfl, h1, fun Q k => h2 Q fun q H2 s2 nq hq => ?_⟩
    have hD2 := s2 _ _ hD
    refine k _ _ hD2 ⟨Same.updN (s.trans s2) nD, bs ++ [q], refs_snoc.symm, ?_⟩
    have hi : i < (xs.map f).length := by rw [List.length_map]; exact (List.getElem?_eq_some_iff.mp hx).1
    have et : (xs.map f).take (i + 1) = (xs.map f).take i ++ [f x] := by
      have hx2 : (xs.map f)[i]? = some (f x) := by rw [List.getElem?_map, hx]; rfl
      rw [List.take_add_one, hx2]; rfl
    rw [et]
    exact ((hb.keep fun a x h => kP2 (Kt.of s2) _ _ h).app (RL.one hq)).keep fun a x h => kP2 (Kt.updL hD2) _ _ h
  · rintro D acc H' nD hacc ⟨s, bs, rfl, hb⟩ hD
    refine q D bs H' nD s hD ?_
    rw [refs_len, hR.1, List.take_of_length_le (by rw [List.length_map]; exact Nat.le_refl _)] at hb
    exact hb
end
/-! ### the dict of what lies behind -/
section
variable {α β : Type} [DecidableEq α]
theorem aget_inj {l : List (α × β)} (nd2 : (l.map (·.2)).Nodup) {a b : α} {v : β} (h1 : aget l a = some v) (h2 : aget l b = some v) : a = b := by
  have m1 := aget_mem h1
  have m2 := aget_mem h2
  induction l with
  | nil => cases m1
  | cons q l ih =>
    rw [List.map_cons, List.nodup_cons] at nd2
    rcases List.mem_cons.mp m1 with e1 | e1 <;> rcases List.mem_cons.mp m2 with e2 | e2
    · rw [← e1] at e2; exact (congrArg Prod.fst e2).symm
    · exact absurd (List.mem_map.mpr ⟨(b, v), e2, by rw [← e1]⟩) nd2.1
    · exact absurd (List.mem_map.mpr ⟨(a, v), e1, by rw [← e2]⟩) nd2.1
    · by_cases h : q.1 = a
      · have : q.2 = v := by rw [aget_cons, if_pos h] at h1; exact Option.some.inj h1
        exact absurd (List.mem_map.mpr ⟨(a, v), e1, this.symm⟩) nd2.1
      · rw [aget_cons, if_neg h] at h1
        by_cases g : q.1 = b
        · have : q.2 = v := by rw [aget_cons, if_pos g] at h2; exact Option.some.inj h2
          exact absurd (List.mem_map.mpr ⟨(b, v), e2, this.symm⟩) nd2.1
        · rw [aget_cons, if_neg g] at h2
          exact ih nd2.2 h1 h2 e1 e2
end
structure BDs (Hb H : Hp) (bd : Addr) (bs : List (Pr × Addr)) (es : List En) (c : Nat) : Prop where
  at_ : H bd = some (.dT (kd enP V.ref bs))
  nd : (bs.map (·.1)).Nodup
  nv : (bs.map (·.2)).Nodup
  len : bs.length ≤ es.length + c
  no : ∀ g, aget bs g = none → bl es g = []
  yes : ∀ g a, aget bs g = some a → Hb a = none ∧ ∃ as, H a = some (.lst (refs as)) ∧ RL It H as (bl es g)
theorem BDs.init {Hb H : Hp} {bd : Addr} (h : H bd = some (.dT [])) : BDs Hb H bd [] [] 0 := ⟨h, .nil, .nil, Nat.le_refl _, fun _ _ => rfl, fun g a e => by cases e⟩
section
variable {Hb H H' : Hp} {bd : Addr} {bs : List (Pr × Addr)} {es : List En} {c : Nat}
theorem BDs.keep (h : BDs Hb H bd bs es c) (s : Same H H') : BDs Hb H' bd bs es c :=
  ⟨s _ _ h.at_, h.nd, h.nv, h.len, h.no, fun g a e => let ⟨n, as, q1, q2⟩ := h.yes g a e; ⟨n, as, s _ _ q1, q2.keep fun a x h => h.kt (Kt.of s)⟩⟩
/-- a thing that is none of the dict's changes -/
theorem BDs.updX {x : Addr} {o o' : HO} (h : BDs Hb H bd bs es c) (hx : H x = some o) (h1 : ∀ as, o ≠ .lst (refs as)) (h2 : ∀ xs, o ≠ .tup xs) (h3 : x ≠ bd) : BDs Hb (L2.upd H x o') bd bs es c := by
  refine ⟨by rw [upd_ne h3.symm]; exact h.at_, h.nd, h.nv, h.len, h.no, fun g a e => ?_⟩
  obtain ⟨n, as, q1, q2⟩ := h.yes g a e
  exact ⟨n, as, by rw [upd_ne (ne_of q1 hx (fun z => h1 as z.symm))]; exact q1, q2.keep fun a x h => h.kt (Kt.upd hx h2)⟩
/-- a list that is none of the dict's changes: those were new -/
theorem BDs.updL {x : Addr} {xs : List V} {o' : HO} (h : BDs Hb H bd bs es c) (hx : H x = some (.lst xs)) (h1 : ∀ g a, aget bs g = some a → a ≠ x) : BDs Hb (L2.upd H x o') bd bs es c := by
  refine ⟨by rw [upd_ne (ne_of h.at_ hx (fun z => nomatch z))]; exact h.at_, h.nd, h.nv, h.len, h.no, fun g a e => ?_⟩
  obtain ⟨n, as, q1, q2⟩ := h.yes g a e
  exact ⟨n, as, by rw [upd_ne (h1 g a e)]; exact q1, q2.keep fun a x h => h.kt (Kt.upd hx (fun _ z => nomatch z))⟩
theorem BDs.val (h : BDs Hb H bd bs es c) (g : Pr) : valV (kd enP V.ref bs) (enP g) = (aget bs g).map V.ref := kd_val enP_inj bs g
theorem BDs.fresh {z : Addr} {g : Pr} (h : BDs Hb H bd bs es 0) (e : aget bs g = none) (hz : H z = some (.lst [])) (nz : Hb z = none) (hzn : ∀ g a, aget bs g = some a → a ≠ z) (hzb : z ≠ bd) :
    BDs Hb (L2.upd H bd (.dT (putK (kd enP V.ref bs) (enP g) (.ref z)))) bd (aput bs g z) es 1 ∧ aget (aput bs g z) g = some z := by
  have eg : aget (aput bs g z) g = some z := by rw [aget_put, if_pos rfl]
  refine ⟨⟨by rw [upd_same, kd_put enP_inj], aput_nd h.nd g z, ?_, ?_, fun g' e' => ?_, fun g' a e' => ?_⟩, eg⟩
  · rw [aput_new (aget_none.mp e), List.map_append, List.nodup_append]
    refine ⟨h.nv, List.pairwise_singleton _ _, fun a ha b hb eab => ?_⟩
    obtain ⟨⟨g', a'⟩, hm, rfl⟩ := List.mem_map.mp ha
    have hb2 : b = z := List.mem_singleton.mp hb
    rw [hb2] at eab
    exact hzn g' a' (aget_of h.nd hm) eab
  · have := aput_len bs g z
    have := h.len
    omega
  · rw [aget_put] at e'
    by_cases e2 : g = g'
    · rw [if_pos e2] at e'; cases e'
    · rw [if_neg e2] at e'; exact h.no _ e'
  · have kt : Kt H (L2.upd H bd (.dT (putK (kd enP V.ref bs) (enP g) (.ref z)))) := Kt.upd h.at_ (fun _ z => nomatch z)
    rw [aget_put] at e'
    by_cases e2 : g = g'
    · rw [if_pos e2] at e'
      cases e'
      subst e2
      exact ⟨nz, [], by rw [upd_ne hzb]; exact hz, by rw [h.no g e]; exact RL.nil⟩
    · rw [if_neg e2] at e'
      obtain ⟨n, as, q1, q2⟩ := h.yes g' a e'
      exact ⟨n, as, by rw [upd_ne (ne_of q1 h.at_ (fun z => nomatch z))]; exact q1, q2.keep fun a x h => h.kt kt⟩
theorem BDs.app {a q : Addr} {g p : Pr} {l : Nat} (h : BDs Hb H bd bs es c) (hc : c ≤ 1) (e : aget bs g = some a) (hq : It H q (p, l)) :
    ∃ as, H a = some (.lst (refs as)) ∧ as.length ≤ es.length ∧ BDs Hb (L2.upd H a (.lst (refs as ++ [.ref q]))) bd bs (es ++ [(g, (p, l))]) 0 := by
  obtain ⟨n, as, q1, q2⟩ := h.yes g a e
  have kt : Kt H (L2.upd H a (.lst (refs as ++ [.ref q]))) := Kt.updL q1
  refine ⟨as, q1, by rw [q2.1]; exact bl_len _ _, ⟨by rw [upd_ne (ne_of h.at_ q1 (fun z => nomatch z))]; exact h.at_, h.nd, h.nv, ?_, fun g' e' => ?_, fun g' a' e' => ?_⟩⟩
  · have := h.len
    rw [List.length_append]
    show _ ≤ es.length + 1 + 0
    omega
  · rw [bl_snoc]
    by_cases e2 : g = g'
    · subst e2; rw [e] at e'; cases e'
    · show (if g = g' then _ else _) = _
      rw [if_neg e2]; exact h.no g' e'
  · obtain ⟨n', as', r1, r2⟩ := h.yes g' a' e'
    rw [bl_snoc]
    by_cases e2 : g = g'
    · subst e2
      rw [e] at e'
      cases e'
      show _ ∧ ∃ as, _ ∧ RL It _ as (if g = g then bl es g ++ [(p, l)] else bl es g)
      rw [if_pos rfl]
      refine ⟨n, as ++ [q], by rw [upd_same, refs_snoc], ?_⟩
      exact (q2.app (RL.one hq)).keep fun a x h => h.kt kt
    · have hne : a' ≠ a := fun z => e2 (aget_inj h.nv e (z ▸ e'))
      show _ ∧ ∃ as, _ ∧ RL It _ as (if g = g' then _ else bl es g')
      rw [if_neg e2]
      exact ⟨n', as', by rw [upd_ne hne]; exact r1, r2.keep fun a x h => h.kt kt⟩
/-- the list at a pair, or an empty one -/
theorem BDs.list (h : BDs Hb H bd bs es c) (g : Pr) {z : Addr} (hz : H z = some (.lst [])) : ∃ b as, ((aget bs g).map V.ref).getD (.ref z) = .ref b ∧ H b = some (.lst (refs as)) ∧ RL It H as (bl es g) := by
  cases e : aget bs g with
  | none => exact ⟨z, [], rfl, hz, by rw [h.no g e]; exact RL.nil⟩
  | some a =>
    obtain ⟨n, as, q1, q2⟩ := h.yes g a e
    exact ⟨a, as, rfl, q1, q2⟩
end
end My
/-! list(zip(two lists)). -/
namespace My
open PySem PySem.Spec L2 SX
open PyProof.Rows hiding St
theorem zip_no_len : typeLookup (.type "zip") "__len__" = pure none := am_miss_of_fast (by decide +kernel)
theorem zip_no_hint : typeLookup (.type "zip") "__length_hint__" = pure none := am_miss_of_fast (by decide +kernel)
section
variable {prog : Program} {w : World} {A : Around} {E : Value → Shared → Prop} {s : Shared}
variable {z TI TO i1 i2 S : Addr} {fp1 fp2 : List Addr} {n i : Nat} {P1 P2 : Nat → Value → Prop} {St1 St2 : Nat → Heap → Prop}
def ZS (z TI TO i1 i2 S : Addr) (St1 St2 : Nat → Heap → Prop) (i : Nat) (h : Heap) : Prop := IsTupOf2 h TI (.ref i1) (.ref i2) ∧ St1 i h ∧ St2 i h ∧ ((IsZip h z TI TO .none ∧ ∃ a b, IsTupOf2 h TO a b) ∨ ∃ T f oT, IsZipHeld h z TI TO T f ∧ h.get? T = some oT ∧ T ≠ z ∧ T ≠ i1 ∧ T ≠ i2 ∧ T ≠ S)
theorem ZS.keep (E1 : Draws prog w A i1 fp1 n P1 St1) (E2 : Draws prog w A i2 fp2 n P2 St2) (hz : z ≠ S) (hTI : TI ≠ S) (hTO : TO ≠ S) (h1 : S ∉ fp1) (h2 : S ∉ fp2) {h h' : Heap} (hk : ∀ b o, b ≠ S → h.get? b = some o → h'.get? b = some o) (st : ZS z TI TO i1 i2 S St1 St2 i h) : ZS z TI TO i1 i2 S St1 St2 i h' := by
  obtain ⟨a1, a2, a3, a4⟩ := st
  refine ⟨hk _ _ hTI a1, E1.frame _ _ _ a2 fun b hb o e => hk b o (fun q => h1 (q ▸ hb)) e, E2.frame _ _ _ a3 fun b hb o e => hk b o (fun q => h2 (q ▸ hb)) e, ?_⟩
  rcases a4 with ⟨b1, a, b, b2⟩ | ⟨T, f, oT, b1, b2, r1, r2, r3, r4⟩
  · exact .inl ⟨hk _ _ hz b1, a, b, hk _ _ hTO b2⟩
  · exact .inr ⟨T, f, oT, hk _ _ hz b1, hk _ _ r4 b2, r1, r2, r3, r4⟩
theorem ZS.item {Q : Option Value → Shared → Prop} (Sp : ZipSep2 z TI TO i1 i2 fp1 fp2) (E1 : Draws prog w A.in1 i1 fp1 n P1 St1) (E2 : Draws prog w A.in1 i2 fp2 n P2 St2) (st : ZS z TI TO i1 i2 S St1 St2 i s.heap) (hi : i < n) (hds : S < s.heap.objs.size)
    (hQ : ∀ x1 x2 h' tk, P1 i x1 → P2 i x2 → ZS z TI TO i1 i2 S St1 St2 (i + 1) h' → IsTupOf2 h' s.heap.objs.size x1 x2 → (∀ c o, c ≠ z → c ≠ TO → c ≠ i1 → c ≠ i2 → s.heap.get? c = some o → h'.get? c = some o) → Q (some (.ref s.heap.objs.size)) { s with heap := h', toks := tk }) :
    wpAny (model prog w) A (pyNext (.ref z)) Q E s := by
  obtain ⟨hTI, h1, h2, hz⟩ := st
  have lt : ∀ {c o}, s.heap.get? c = some o → s.heap.objs.size ≠ c := fun e => Nat.ne_of_gt (Heap.lt_size e)
  have m1 : s.heap.objs.size ≠ i1 := let ⟨_, e⟩ := E1.live _ _ h1; lt e
  have m2 : s.heap.objs.size ≠ i2 := let ⟨_, e⟩ := E2.live _ _ h2; lt e
  rcases hz with ⟨hz, a, b, hTO⟩ | ⟨T, f, oT, hz, hT, r1, r2, r3, r4⟩
  · refine wpAny_pyNext_zipD2_item Sp E1 E2 hz hTI hTO h1 h2 hi hi fun x1 x2 h' tk y1 y2 b1 b2 e1 e2 b5 b6 hk => ?_
    exact hQ x1 x2 h' tk y1 y2 ⟨hk _ _ Sp.TIz Sp.TITO Sp.TIi1 Sp.TIi2 hTI, e1, e2, .inr ⟨s.heap.objs.size, false, _, b1, b5, lt hz, m1, m2, Nat.ne_of_gt hds⟩⟩ b5 hk
  · have hTy : s.TypeIs (.ref z) "zip" := ⟨_, hz, rfl⟩
    unfold pyNext
    refine wpAny_bind (wpAny_attempt (wpAny_callSpecial?_slot (name := Str.ofString "__next__") hTy F.slot_zip_next (wpAny_call_entry F.slot_zip_next hTy F.entry_zip_next
      (zipH_item Sp E1 E2 hz hT hTI h1 h2 hi hi fun x1 x2 h' tk y1 y2 b1 e1 e2 b5 b6 hk => wpAny_pure ?_) (F.args_zip_next_1 _))))
    exact hQ x1 x2 h' tk y1 y2 ⟨hk _ _ Sp.TIz Sp.TIi1 Sp.TIi2 hTI, e1, e2, .inr ⟨T, true, oT, b1, hk _ _ r1 r2 r3 hT, r1, r2, r3, r4⟩⟩ b5 fun c o c1 _ c3 c4 e => hk c o c1 c3 c4 e
theorem ZS.stop {Q : Option Value → Shared → Prop} (Sp : ZipSep2 z TI TO i1 i2 fp1 fp2) (E1 : Draws prog w A.in1 i1 fp1 n P1 St1) (E2 : Draws prog w A.in1 i2 fp2 n P2 St2) (st : ZS z TI TO i1 i2 S St1 St2 n s.heap)
    (hQ : ∀ h' tk, (∀ c o, c ≠ z → c ≠ TO → c ≠ i1 → c ≠ i2 → s.heap.get? c = some o → h'.get? c = some o) → Q none { s with heap := h', toks := tk }) :
    wpAny (model prog w) A (pyNext (.ref z)) Q E s := by
  obtain ⟨hTI, h1, h2, hz⟩ := st
  rcases hz with ⟨hz, a, b, hTO⟩ | ⟨T, f, oT, hz, hT, r1, r2, r3, r4⟩
  · exact wpAny_pyNext_zipD2_end Sp E1 E2 hz hTI hTO h1 h2 (Nat.le_refl _) (Nat.le_refl _) (.inl rfl) fun h' tk hk => hQ h' tk hk
  · have hTy : s.TypeIs (.ref z) "zip" := ⟨_, hz, rfl⟩
    unfold pyNext
    refine wpAny_bind (wpAny_attempt (wpAny_callSpecial?_slot (name := Str.ofString "__next__") hTy F.slot_zip_next
      (wpAny_call_entry F.slot_zip_next hTy F.entry_zip_next (zipH_end Sp E1 hz hT hTI h1 fun h' tk e hk he => ?_) (F.args_zip_next_1 _))))
    obtain ⟨o, ho, hc⟩ := he
    refine wpAny_bind (wpAny_isInstance (T := "StopIteration") (b := true) ⟨o, ho, hc⟩ isSubtype_stop ?_)
    exact wpAny_pure (hQ _ _ fun c o c1 _ c3 _ e => hk c o c1 c3 e)
/-- pairs made: at as, told by what was drawn -/
def Made (S0 : Addr) (P1 P2 : Nat → Value → Prop) (h : Heap) (as : List Addr) : Prop := ((∀ a ∈ as, S0 ≤ a) ∧ as.Pairwise (· < ·)) ∧ ∀ (j : Nat) (a : Addr), as[j]? = some a → ∃ x1 x2, P1 j x1 ∧ P2 j x2 ∧ IsTupOf2 h a x1 x2
theorem zip_ext_loop {R : Result → Shared → Prop} {h0 : Heap} {S0 : Addr} (Sp : ZipSep2 z TI TO i1 i2 fp1 fp2) (E1 : Draws prog w A.in1.in1 i1 fp1 n P1 St1) (E2 : Draws prog w A.in1.in1 i2 fp2 n P2 St2) (hz : z ≠ S) (hTI : TI ≠ S) (hTO : TO ≠ S) (f1 : S ∉ fp1) (f2 : S ∉ fp2) (hn : n ≤ sizeLine)
    (hS0 : S < S0 ∧ z < S0 ∧ TO < S0 ∧ i1 < S0 ∧ i2 < S0) (res : Value)
    (hR : ∀ h' tk acc c as, (∀ b o, b ≠ S → b ≠ z → b ≠ TO → b ≠ i1 → b ≠ i2 → h0.get? b = some o → h'.get? b = some o) → h'.get? S = some { cls := .type "list", dict := none, data := .seq acc c, slots := #[] } → acc.toList = as.map Value.ref → as.length = n → Made S0 P1 P2 h' as → R (.ok (.ret res)) { s with heap := h', toks := tk }) :
    ∀ (k i : Nat) (h : Heap) (tk : Nat) (c : Nat) (acc : Array Value) (as : List Addr), n - i = k → i ≤ n → ZS z TI TO i1 i2 S St1 St2 i h → (∀ b o, b ≠ S → b ≠ z → b ≠ TO → b ≠ i1 → b ≠ i2 → h0.get? b = some o → h.get? b = some o) →
      h.get? S = some { cls := .type "list", dict := none, data := .seq acc c, slots := #[] } → acc.toList = as.map Value.ref → as.length = i → Made S0 P1 P2 h as → S0 ≤ h.objs.size →
      codeAny (model prog w) A (.builtin "list.extend.loop" ⟨[.ref S, .ref z, res], []⟩) R { s with heap := h, toks := tk } := by
  have di1 : i1 ≠ S := fun e => f1 (by rw [← e]; exact Sp.mem1)
  have di2 : i2 ≠ S := fun e => f2 (by rw [← e]; exact Sp.mem2)
  intro k
  induction k with
  | zero =>
    intro i h tk c acc as hk hi hst hkeep hS hacc hal hM hsz
    have hin : i = n := by omega
    subst hin
    refine codeAny_builtin PySem.F.entry_extend_loop ?_
    rw [Around.under_plainId PySem.F.plain_extend_loop _]
    show wpAny _ A.in1 (pyNext (.ref z) >>= _) _ _ _
    refine wpAny_bind (ZS.stop (s := { s with heap := h, toks := tk }) Sp E1 E2 hst fun h' tk' he => ?_)
    refine wpAny_pure (hR h' tk' acc c as (fun b o b1 b2 b3 b4 b5 e => he b o b2 b3 b4 b5 (hkeep b o b1 b2 b3 b4 b5 e)) (he S _ hz.symm hTO.symm di1.symm di2.symm hS) hacc hal ⟨hM.1, fun j a hj => ?_⟩)
    obtain ⟨x1, x2, p1, p2, p3⟩ := hM.2 j a hj
    have ha := hM.1.1 a (List.mem_of_getElem? hj)
    exact ⟨x1, x2, p1, p2, he a _ (fun e => by rw [e] at ha; exact absurd hS0.2.1 (Nat.not_lt_of_le ha)) (fun e => by rw [e] at ha; exact absurd hS0.2.2.1 (Nat.not_lt_of_le ha)) (fun e => by rw [e] at ha; exact absurd hS0.2.2.2.1 (Nat.not_lt_of_le ha)) (fun e => by rw [e] at ha; exact absurd hS0.2.2.2.2 (Nat.not_lt_of_le ha)) p3⟩
  | succ k ih =>
    intro i h tk c acc as hk hi hst hkeep hS hacc hal hM hsz
    have hlt : i < n := by omega
    have hacs : acc.size = i := by rw [← Array.length_toList, hacc, List.length_map, hal]
    refine codeAny_builtin PySem.F.entry_extend_loop ?_
    rw [Around.under_plainId PySem.F.plain_extend_loop _]
    show wpAny _ A.in1 (pyNext (.ref z) >>= _) _ _ _
    refine wpAny_bind (ZS.item (s := { s with heap := h, toks := tk }) Sp E1 E2 hst hlt (Heap.lt_size hS) fun x1 x2 h' tk' y1 y2 hst' ht hkp => ?_)
    dsimp only at ht hkp ⊢
    have hS' := hkp S _ hz.symm hTO.symm di1.symm di2.symm hS
    have up : ∀ b o, b ≠ S → h'.get? b = some o → (h'.update S (Obj.mapSeq (·.push (Value.ref h.objs.size)))).get? b = some o := fun b o hb e => (Heap.get?_update_other _ _ (Ne.symm hb)).trans e
    have hSl : S < h.objs.size := Heap.lt_size hS
    show wpAny _ A.in1 (updateSeq S (·.push (Value.ref h.objs.size)) >>= _) _ _ _
    refine wpAny_bind ?_
    refine wpAny_updateSeq hS' rfl (wpAny_pure ⟨plainId_quiet PySem.F.plain_extend_loop _, ih (i + 1) _ tk' _ (acc.push (Value.ref h.objs.size)) (as ++ [h.objs.size]) (by omega) hlt (ZS.keep E1 E2 hz hTI hTO f1 f2 up hst')
      (fun b o b1 b2 b3 b4 b5 e => up b o b1 (hkp b o b2 b3 b4 b5 (hkeep b o b1 b2 b3 b4 b5 e))) (Heap.get?_update_self _ hS' rfl) (by rw [Array.toList_push, hacc, List.map_append]; rfl) (by rw [List.length_append, hal]; rfl) ⟨⟨fun a ha => ?_, List.pairwise_append.mpr ⟨hM.1.2, List.pairwise_singleton _ _, fun a ha b hb => ?_⟩⟩, fun j b hj => ?_⟩ ?_⟩) (by rw [hacs]; omega) (by show (acc.push (Value.ref h.objs.size)).size ≤ sizeLine + 1; rw [Array.size_push, hacs]; omega)
    · rcases List.mem_append.mp ha with ha | ha
      · exact hM.1.1 a ha
      · rw [List.mem_singleton.mp ha]; exact hsz
    · rw [List.mem_singleton.mp hb]
      obtain ⟨j, hj⟩ := List.mem_iff_getElem?.mp ha
      obtain ⟨_, _, _, _, p3⟩ := hM.2 j a hj
      exact Heap.lt_size p3
    · rcases Nat.lt_trichotomy j as.length with h1 | h1 | h1
      · rw [List.getElem?_append_left h1] at hj
        obtain ⟨u1, u2, p1, p2, p3⟩ := hM.2 j b hj
        have hb := hM.1.1 b (List.mem_of_getElem? hj)
        refine ⟨u1, u2, p1, p2, up b _ (fun e => by rw [e] at hb; exact absurd hS0.1 (Nat.not_lt_of_le hb)) (hkp b _ (fun e => by rw [e] at hb; exact absurd hS0.2.1 (Nat.not_lt_of_le hb)) (fun e => by rw [e] at hb; exact absurd hS0.2.2.1 (Nat.not_lt_of_le hb)) (fun e => by rw [e] at hb; exact absurd hS0.2.2.2.1 (Nat.not_lt_of_le hb)) (fun e => by rw [e] at hb; exact absurd hS0.2.2.2.2 (Nat.not_lt_of_le hb)) p3)⟩
      · subst h1
        have hb : h.objs.size = b := by simpa using hj
        subst hb
        exact ⟨x1, x2, by rw [hal]; exact y1, by rw [hal]; exact y2, up _ _ (Nat.ne_of_gt hSl) ht⟩
      · have hnone : (as ++ [h.objs.size])[j]? = none := List.getElem?_eq_none (by rw [List.length_append, List.length_singleton]; omega)
        rw [hnone] at hj; cases hj
    · have e : (h'.update S (Obj.mapSeq (·.push (Value.ref h.objs.size)))).get? h.objs.size = _ := up _ _ (Nat.ne_of_gt hSl) ht
      exact Nat.le_trans hsz (Nat.le_of_lt (Heap.lt_size e))
end
end My
namespace My
open PySem PySem.Spec L2 SX
open PyProof.Rows hiding St
section
variable {prog : Program} {w : World} {A : Around} {E : Value → Shared → Prop} {s : Shared}
variable {z TI TO i1 i2 : Addr} {fp1 fp2 : List Addr} {n : Nat} {P1 P2 : Nat → Value → Prop} {St1 St2 : Nat → Heap → Prop}
theorem call_list_zip {Q : Value → Shared → Prop} (Sp : ZipSep2 z TI TO i1 i2 fp1 fp2) (E1 : ∀ A : Around, A.handled = none → Draws prog w A i1 fp1 n P1 St1) (E2 : ∀ A : Around, A.handled = none → Draws prog w A i2 fp2 n P2 St2) (hh : A.handled = none) (hn : n ≤ sizeLine)
    (hz : IsZip s.heap z TI TO .none) (hTI : IsTupOf2 s.heap TI (.ref i1) (.ref i2)) (hTO : ∃ a b, IsTupOf2 s.heap TO a b) (st1 : St1 0 s.heap) (st2 : St2 0 s.heap) (h1 : ∀ b ∈ fp1, b < s.heap.objs.size) (h2 : ∀ b ∈ fp2, b < s.heap.objs.size)
    (hQ : ∀ h' tk acc c as, (∀ b o, b ≠ z → b ≠ TO → b ≠ i1 → b ≠ i2 → s.heap.get? b = some o → h'.get? b = some o) → h'.get? s.heap.objs.size = some { cls := .type "list", dict := none, data := .seq acc c, slots := #[] } → acc.toList = as.map Value.ref → as.length = n → Made (s.heap.objs.size + 1) P1 P2 h' as → Q (.ref s.heap.objs.size) { s with heap := h', toks := tk }) :
    wpAny (model prog w) A (call (.type "list") [.ref z]) Q E s := by
  have lz : z < s.heap.objs.size := Heap.lt_size hz
  have lTI : TI < s.heap.objs.size := Heap.lt_size hTI
  have lTO : TO < s.heap.objs.size := let ⟨_, _, e⟩ := hTO; Heap.lt_size e
  have li1 : i1 < s.heap.objs.size := h1 _ Sp.mem1
  have li2 : i2 < s.heap.objs.size := h2 _ Sp.mem2
  refine callType_codes (Q₁ := fun obj s₁ => obj = .ref s.heap.objs.size ∧ s₁ = { s with heap := s.heap.push { cls := .type "list", data := .seq #[] } }) PySem.F.called_list (PySem.F.typeCall_list_1 _) PySem.F.entry_list_init
    (code_list_new _ ⟨rfl, rfl⟩) fun obj s₁ h₁ => ?_
  obtain ⟨rfl, rfl⟩ := h₁
  generalize hSS : s.heap.objs.size = S at *
  have hS : (s.heap.push { cls := .type "list", data := .seq #[] }).get? S = some { cls := .type "list", data := .seq #[] } := by rw [← hSS]; exact Heap.get?_push_size _ rfl
  have hps : (s.heap.push { cls := .type "list", data := .seq #[] }).objs.size = S + 1 := by rw [Heap.size_push, hSS]
  have fz : z ≠ S := Nat.ne_of_lt lz
  have fTI : TI ≠ S := Nat.ne_of_lt lTI
  have fTO : TO ≠ S := Nat.ne_of_lt lTO
  have f1 : S ∉ fp1 := fun hm => Nat.lt_irrefl _ (h1 _ hm)
  have f2 : S ∉ fp2 := fun hm => Nat.lt_irrefl _ (h2 _ hm)
  refine ⟨⟨_, hS, rfl⟩, PySem.F.args_list_init_2 _ _, ?_⟩
  have D1 := E1 A.in1.in1.in1 hh
  have D2 := E2 A.in1.in1.in1 hh
  have Z0 : ZS z TI TO i1 i2 S St1 St2 0 s.heap := ⟨hTI, st1, st2, .inl ⟨hz, hTO⟩⟩
  have Z1 : ZS z TI TO i1 i2 S St1 St2 0 (s.heap.push { cls := .type "list", data := .seq #[] }) := Z0.keep D1 D2 fz fTI fTO f1 f2 fun b o _ e => Heap.get?_push_of_some _ e
  have old : ∀ b o, s.heap.get? b = some o → b ≠ S := fun b o e => by rw [← hSS]; exact Nat.ne_of_lt (Heap.lt_size e)
  show wpAny _ _ (do let old ← Builtin.List.listItems (.ref S); Builtin.List.listUpdate (.ref S) (fun _ => #[]); letGo old.toList.reverse; Builtin.List.listExtendWith (.ref S) (.ref z) .none) _ _ _
  refine wpAny_bind ?_
  unfold Builtin.List.listItems
  refine wpAny_bind (wpAny_seqItems hS rfl (wpAny_pure ?_))
  show wpAny _ _ (updateSeq S (fun _ => #[]) >>= fun _ => letGo (#[] : Array Value).toList.reverse >>= fun _ => Builtin.List.listExtendWith (.ref S) (.ref z) .none) _ _ _
  refine wpAny_bind (wpAny_updateSeq hS rfl ?_)
  have hS2 := Heap.get?_update_self (Obj.mapSeq (fun _ => (#[] : Array Value))) hS rfl
  have oth : ∀ b o, b ≠ S → (s.heap.push { cls := .type "list", data := .seq #[] }).get? b = some o → ((s.heap.push { cls := .type "list", data := .seq #[] }).update S (Obj.mapSeq (fun _ => (#[] : Array Value)))).get? b = some o := fun b o hb e => (Heap.get?_update_other _ _ (Ne.symm hb)).trans e
  have Z2 := Z1.keep D1 D2 fz fTI fTO f1 f2 oth
  have up2 : ∀ b o, s.heap.get? b = some o → ((s.heap.push { cls := .type "list", data := .seq #[] }).update S (Obj.mapSeq (fun _ => (#[] : Array Value)))).get? b = some o := fun b o e => oth b o (old b o e) (Heap.get?_push_of_some _ e)
  have sz2 : ((s.heap.push { cls := .type "list", data := .seq #[] }).update S (Obj.mapSeq (fun _ => (#[] : Array Value)))).objs.size = S + 1 := by rw [Heap.size_update, hps]
  generalize ((s.heap.push { cls := .type "list", data := .seq #[] }).update S (Obj.mapSeq (fun _ => (#[] : Array Value)))) = h2' at *
  refine wpAny_bind (wpAny_letGo ?_)
  unfold Builtin.List.listExtendWith
  have hz2 : IsZip h2' z TI TO .none := up2 _ _ hz
  have hTz : Shared.TypeIs { s with heap := h2' } (.ref z) "zip" := ⟨_, hz2, rfl⟩
  refine wpAny_bind (wpAny_typeOf hTz ?_)
  have e1 : Builtin.List.listSameRef (.ref S) (.ref z) = false := by simp [Builtin.List.listSameRef, fz.symm]
  have e2 : (Value.type "zip" == Value.type "list") = false := by decide
  have e3 : (Value.type "zip" == Value.type "tuple") = false := by decide
  simp only [e1, e2, e3, Bool.or_false, Bool.false_eq_true, if_false]
  refine wpAny_bind (wpAny_pyIter_zip hz2 ?_)
  refine wpAny_bind (wpAny_holding ?_)
  unfold Builtin.List.listLengthHint
  refine wpAny_bind (wpAny_specialOf hTz zip_no_len ?_)
  show wpAny _ _ (specialOf (Value.ref z) (Str.ofString "__length_hint__") >>= _) _ _ _
  refine wpAny_bind (wpAny_specialOf hTz zip_no_hint ?_)
  refine wpAny_pure ?_
  show wpAny _ _ (rule "list.extend.makes-room" >>= fun _ => Builtin.List.listTouch (.ref S) >>= fun _ => again (.builtin "list.extend.loop" ⟨[.ref S, .ref z, .none], []⟩)) _ _ _
  refine wpAny_bind (wpAny_rule ?_)
  refine wpAny_bind ?_
  show wpAny _ _ (updateSeq S (·.push .none) >>= fun _ => updateSeq S (·.pop)) _ _ _
  refine wpAny_bind (wpAny_updateSeq hS2 rfl ?_)
  have hS3 := Heap.get?_update_self (Obj.mapSeq (·.push Value.none)) hS2 rfl
  refine wpAny_updateSeq (hz := by seq_fits) hS3 rfl ?_
  have hS4 := Heap.get?_update_self (Obj.mapSeq (·.pop)) hS3 rfl
  have oth4 : ∀ b o, b ≠ S → h2'.get? b = some o → ((h2'.update S (Obj.mapSeq (·.push Value.none))).update S (Obj.mapSeq (·.pop))).get? b = some o := fun b o hb e => (Heap.get?_update_other _ _ (Ne.symm hb)).trans ((Heap.get?_update_other _ _ (Ne.symm hb)).trans e)
  have Z4 := Z2.keep D1 D2 fz fTI fTO f1 f2 oth4
  have sz4 : ((h2'.update S (Obj.mapSeq (·.push Value.none))).update S (Obj.mapSeq (·.pop))).objs.size = S + 1 := by rw [Heap.size_update, Heap.size_update, sz2]
  refine wpAny_pure ⟨plainId_quiet PySem.F.plain_extend_loop _, ?_⟩
  have DD1 := E1 A.in1.in1.in1 hh
  refine zip_ext_loop (A := A.in1) (S0 := S + 1) (h0 := s.heap) (s := s) Sp (E1 _ hh) (E2 _ hh) fz fTI fTO f1 f2 hn ⟨Nat.lt_succ_self _, Nat.lt_succ_of_lt lz, Nat.lt_succ_of_lt lTO, Nat.lt_succ_of_lt li1, Nat.lt_succ_of_lt li2⟩ .none
    (fun h' tk acc c as hk hS' hacc hal hM => ⟨rfl, hQ h' tk acc c as (fun b o b1 b2 b3 b4 e => hk b o (old b o e) b1 b2 b3 b4 e) hS' hacc hal hM⟩)
    n 0 _ _ _ #[] [] (Nat.sub_zero _) (Nat.zero_le _) Z4 (fun b o b1 _ _ _ _ e => oth4 b o b1 (up2 b o e)) hS4 rfl rfl ⟨⟨(fun a h => nomatch h), .nil⟩, fun j a hj => by simp at hj⟩ (by rw [sz4]; exact Nat.le_refl _)
end
end My
namespace My
open PySem PySem.Spec L2 SX
open PyProof.Rows hiding St
/-- the tuples tracked at their addresses -/
def putZ : Hp → List Addr → List (V × V) → Hp
  | H, a :: as, p :: ps => putZ (L2.upd H a (.tup [p.1, p.2])) as ps
  | H, _, _ => H
theorem putZ_off {b : Addr} : ∀ (as : List Addr) (ps : List (V × V)) (H : Hp), b ∉ as → putZ H as ps b = H b
  | [], _, _, _ => rfl
  | _ :: _, [], _, _ => rfl
  | a :: as, p :: ps, H, h => by
    show putZ (L2.upd H a (.tup [p.1, p.2])) as ps b = H b
    rw [putZ_off as ps _ (fun z => h (List.mem_cons_of_mem _ z)), upd_ne (fun z => h (by rw [z]; exact List.mem_cons_self))]
theorem putZ_at : ∀ (as : List Addr) (ps : List (V × V)) (H : Hp), as.length = ps.length → as.Nodup → ∀ (i : Nat) (a : Addr) (p : V × V), as[i]? = some a → ps[i]? = some p → putZ H as ps a = some (.tup [p.1, p.2])
  | [], _, _, _, _, i, a, p, h, _ => by simp at h
  | _ :: _, [], _, h, _, _, _, _, _, _ => by cases h
  | a :: as, p :: ps, H, h, hn, 0, b, q, e1, e2 => by
    cases e1
    cases e2
    show putZ (L2.upd H a (.tup [p.1, p.2])) as ps a = _
    rw [putZ_off as ps _ (List.nodup_cons.mp hn).1, upd_same]
  | a :: as, p :: ps, H, h, hn, i + 1, b, q, e1, e2 => putZ_at as ps _ (Nat.succ.inj h) (List.nodup_cons.mp hn).2 i b q e1 e2
def tListZ (K : PySem.W.Frag) (te te2 : TE) : TE := fun σ H Q => te σ H fun x H0 => te2 σ H0 fun y H1 => ∃ (a b : Addr) (xs ys : List V), x = .ref a ∧ y = .ref b ∧ SqL K H1 a xs ∧ SqL K H1 b ys ∧ xs.length = ys.length ∧ xs.length ≤ 100000 ∧
  ∀ (p : Addr) (ts : List Addr) (H2 : Hp), Same H1 H2 → H1 p = none → (∀ t ∈ ts, H1 t = none) → p ∉ ts → H2 p = some (.lst (refs ts)) → RL (fun H t (q : V × V) => H t = some (.tup [q.1, q.2])) H2 ts (xs.zip ys) → Q (.ref p) H2
section
variable {X : Cx} {e e2 : Expr} {te te2 : TE} {p1 p2 pos1 pos2 : Pos}
theorem zip_laid {pins : List (Addr × Obj)} {σ : L2.St} {H : Hp} {s : Shared} {h' : Heap} {tk : Nat} {xs ys : List V} {us vs : List Value} {acc : Array Value} {c : Nat} {as : List Addr} {S : Addr} (I : Inv X pins σ H s) (hz : as.length ≤ sizeLine) (rx : Vals xs us) (ry : Vals ys vs) (hlx : as.length = xs.length) (hly : as.length = ys.length)
    (hk : ∀ b o, s.heap.get? b = some o → h'.get? b = some o) (hSs : s.heap.objs.size ≤ S) (hS : h'.get? S = some { cls := .type "list", dict := none, data := .seq acc c, slots := #[] }) (hM : Made (S + 1) (fun i v => us[i]? = some v) (fun i v => vs[i]? = some v) h' as) (hacc : acc.toList = as.map Value.ref) :
    ∃ H' : Hp, Same H H' ∧ H S = none ∧ (∀ t ∈ as, H t = none) ∧ S ∉ as ∧ H' S = some (.lst (refs as)) ∧ RL (fun H t (q : V × V) => H t = some (.tup [q.1, q.2])) H' as (xs.zip ys) ∧ Inv X pins σ H' { s with heap := h', toks := tk } := by
  have hSn : S ∉ as := fun z => absurd (hM.1.1 _ z) (Nat.not_succ_le_self _)
  have nd : as.Nodup := List.Pairwise.imp (fun {a b} (h : a < b) => Nat.ne_of_lt h) hM.1.2
  have ge : ∀ t ∈ as, s.heap.objs.size ≤ t := fun t ht => Nat.le_trans hSs (Nat.le_of_succ_le (hM.1.1 t ht))
  have new : ∀ t ∈ as, H t = none := fun t ht => I.hok.fresh (ge t ht)
  have newS : H S = none := I.hok.fresh hSs
  have zl : as.length = (xs.zip ys).length := by rw [List.length_zip]; omega
  have atP := putZ_at as (xs.zip ys) (L2.upd H S (.lst (refs as))) zl nd
  have off : ∀ b, b ∉ as → b ≠ S → putZ (L2.upd H S (.lst (refs as))) as (xs.zip ys) b = H b := fun b h1 h2 => by rw [putZ_off as _ _ h1, upd_ne h2]
  have low : ∀ b o, s.heap.get? b = some o → b ∉ as ∧ b ≠ S := fun b o e => ⟨fun z => absurd (Heap.lt_size e) (Nat.not_lt.mpr (ge b z)), fun z => by rw [z] at e; exact absurd (Heap.lt_size e) (Nat.not_lt.mpr hSs)⟩
  have kp : ∀ b u, H b = some u → (putZ (L2.upd H S (.lst (refs as))) as (xs.zip ys)) b = some u := fun b u e => by
    rw [off b (fun z => by rw [new b z] at e; cases e) (fun z => by rw [z, newS] at e; cases e)]
    exact e
  have eS : putZ (L2.upd H S (.lst (refs as))) as (xs.zip ys) S = some (.lst (refs as)) := by rw [putZ_off as _ _ hSn, upd_same]
  refine ⟨putZ (L2.upd H S (.lst (refs as))) as (xs.zip ys), kp, newS, new, hSn, eS, ⟨zl, fun i a q e1 e2 => atP i a q e1 e2⟩, ?_⟩
  refine I.call' (ch := []) rfl ⟨fun b o q _ _ _ => hk b o q, fun b o q _ _ _ => ⟨o.slots, hk b o q⟩, fun b o q n _ => ?_, fun b o q _ => ⟨o, hk b o q⟩, fun b xs q => kp b _ q, fun b o u q => kp b _ q, fun b ps q => ⟨#[], by rw [kp b _ q]; simp⟩⟩ (fun b u q => ?_) I.bare fun b z => by simp at z
  · obtain ⟨z1, z2⟩ := low b o q
    rw [off b z1 z2]
    exact n
  · by_cases hb : b ∈ as
    · obtain ⟨j, e1⟩ := List.mem_iff_getElem?.mp hb
      have hj : j < as.length := (List.getElem?_eq_some_iff.mp e1).1
      have hx : xs[j]? = some xs[j] := List.getElem?_eq_getElem (by omega)
      have hy : ys[j]? = some ys[j] := List.getElem?_eq_getElem (by omega)
      have e2 : (xs.zip ys)[j]? = some (xs[j], ys[j]) := by rw [List.getElem?_zip_eq_some]; exact ⟨hx, hy⟩
      rw [atP j b _ e1 e2] at q
      cases q
      obtain ⟨x1, x2, f1, f2, f3⟩ := hM.2 j b e1
      obtain ⟨u1, g1, g2⟩ := rx.get hx
      obtain ⟨u2, g3, g4⟩ := ry.get hy
      rw [f1] at g1
      cases g1
      rw [f2] at g3
      cases g3
      exact ⟨by show 2 ≤ sizeLine; decide, [x1, x2], .cons g2 (.cons g4 .nil), ⟨_, f3, rfl, _, rfl⟩⟩
    · by_cases hb2 : b = S
      · rw [hb2] at q ⊢
        rw [eS] at q
        cases q
        refine ⟨by rw [refs_len]; exact hz, acc.toList, c, by rw [hacc]; exact LiI.vals_refs as, ?_⟩
        rw [Array.toArray_toList]
        exact hS
      · rw [off b hb hb2] at q
        exact (I.hok b u q).stay (fun d v _ y => hk d v y) (fun d y => kp d _ y) fun d xs y => kp d _ y
theorem pe_listZip (hc : X.calm = true) (hgd : Gl X "list") (hmd : X.mg "list" = none) (hgz : Gl X "zip") (hmz : X.mg "zip" = none) (he : PE X e te) (he2 : PE X e2 te2)
    (n1 : starEach [.Call (.Name "zip" p2) [e, e2] [] pos2] X.env = (false, eval (.Call (.Name "zip" p2) [e, e2] [] pos2) X.env) :: starEach [] X.env := by rfl)
    (n2 : starEach [e, e2] X.env = (false, eval e X.env) :: starEach [e2] X.env := by rfl) (n3 : starEach [e2] X.env = (false, eval e2 X.env) :: starEach [] X.env := by rfl) (np : (backTo pos2 (starEach [e2] X.env)).any (·.1) = false := by rfl) :
    PE X (.Call (.Name "list" p1) [.Call (.Name "zip" p2) [e, e2] [] pos2] [] pos1) (tListZ X.K te te2) := by
  refine ⟨fun pins s σ H Q I h => ?_⟩
  refine Call_ (ld_blt I hgd hmd boot_list (PyProof.Rows.callWith_type1 (args_cons (Call_ (ld_blt I hgz hmz boot_zip (PyProof.Rows.callWith_type1 (args_cons (thn (he.run pins s σ H _ I h) fun v s1 ⟨x, H1, I1, r1, q1⟩ => ?_) n2) n2 np))) n1) n1))
  refine args_cons (thn (he2.run pins s1 σ H1 _ I1 q1) fun v2 s2 ⟨y, H2, I2, r2, q2⟩ => args_nil ?_) n3
  obtain ⟨a, b, xs, ys, rfl, rfl, hx, hy, hl, hz, q⟩ := q2
  obtain rfl : v = Value.ref a := r1
  obtain rfl : v2 = Value.ref b := r2
  obtain ⟨us, ru, pa, _⟩ := I2.list hx
  obtain ⟨ws, rw', pb, _⟩ := I2.list hy
  have hlu : us.length = xs.length := ru.length.symm
  have hlw : ws.length = xs.length := rw'.length.symm.trans hl.symm
  have lta : a < s2.heap.objs.size := pa.lt
  have ltb : b < s2.heap.objs.size := pb.lt
  refine zip_begins2 (begins_list a us.toArray) (begins_list b ws.toArray) pa.isList pb.isList fun h' g1 g2 g3 g4 g5 g6 g7 => args_nil ?_
  have nb : ∀ {c : Addr}, c < s2.heap.objs.size → ∀ k, s2.heap.objs.size + k ≠ c := fun {c} hc k z => by
    rw [← z] at hc
    exact absurd hc (Nat.not_lt_of_le (Nat.le_add_right _ _))
  have Sp : ZipSep2 (s2.heap.objs.size + 4) (s2.heap.objs.size + 2) (s2.heap.objs.size + 3) s2.heap.objs.size (s2.heap.objs.size + 1) [s2.heap.objs.size, a] [s2.heap.objs.size + 1, b] := by
    refine zip_sep2 (fp1 := [a]) (fp2 := [b]) (fun c hc => ?_) (fun c hc => ?_)
    · rw [List.mem_singleton.mp hc]; exact lta
    · rw [List.mem_singleton.mp hc]; exact ltb
  have hh : X.A.handled = none := I2.ok.hd hc
  have D1 : ∀ A : Around, A.handled = none → Draws X.prog X.w A s2.heap.objs.size [s2.heap.objs.size, a] xs.length (fun i v => us[i]? = some v) _ := fun A hA => by
    have := Draws.list (prog := X.prog) (w := X.w) hA s2.heap.objs.size a (Ne.symm (nb lta 0)) us.toArray
    have ez : us.toArray.size = xs.length := by simp [hlu]
    rw [ez] at this
    simpa using this
  have D2 : ∀ A : Around, A.handled = none → Draws X.prog X.w A (s2.heap.objs.size + 1) [s2.heap.objs.size + 1, b] xs.length (fun i v => ws[i]? = some v) _ := fun A hA => by
    have := Draws.list (prog := X.prog) (w := X.w) hA (s2.heap.objs.size + 1) b (Ne.symm (nb ltb 1)) ws.toArray
    have ez : ws.toArray.size = xs.length := by simp [hlw]
    rw [ez] at this
    simpa using this
  have I3 : Inv X pins σ H2 { s2 with heap := h' } := I2.kept (t' := s2.toks) g7
  refine call_list_zip (s := { s2 with heap := h' }) Sp D1 D2 hh (sz hz) g1 g2 ⟨_, _, g3⟩ ⟨⟨_, g4, rfl, rfl⟩, pa.isList.at fun o e => g7 _ _ e⟩ ⟨⟨_, g5, rfl, rfl⟩, pb.isList.at fun o e => g7 _ _ e⟩ (fun c hc => ?_) (fun c hc => ?_) fun h2 tk acc c as hk hS hacc hal hM => ?_
  · rw [g6]
    rcases List.mem_cons.mp hc with z | z
    · rw [z]; exact Nat.lt_add_of_pos_right (by decide)
    · rw [List.mem_singleton.mp z]; exact Nat.lt_of_lt_of_le lta (Nat.le_add_right _ _)
  · rw [g6]
    rcases List.mem_cons.mp hc with z | z
    · rw [z]; exact Nat.add_lt_add_left (by decide) _
    · rw [List.mem_singleton.mp z]; exact Nat.lt_of_lt_of_le ltb (Nat.le_add_right _ _)
  have hk2 : ∀ b o, s2.heap.get? b = some o → h2.get? b = some o := fun b o e => by
    have lb : b < s2.heap.objs.size := Heap.lt_size e
    exact hk b o (fun z => nb lb 4 z.symm) (fun z => nb lb 3 z.symm) (fun z => nb lb 0 z.symm) (fun z => nb lb 1 z.symm) (g7 b o e)
  have hS5 : s2.heap.objs.size ≤ h'.objs.size := by rw [g6]; exact Nat.le_add_right _ _
  obtain ⟨H', k1, k2, k3, k4, k5, k6, J⟩ := zip_laid (tk := tk) (h' := h2) I2 (by rw [hal]; exact sz hz) ru rw' hal (by rw [hal]; exact hl) hk2 hS5 hS hM hacc
  exact ⟨.ref _, H', J, rfl, q _ as H' k1 k2 k3 k4 k5 k6⟩
end
end My
/-! tuple * int, once too. -/
namespace My
open PySem PySem.Spec L2 SX
open PyProof.Rows hiding St
theorem tuple_mul1 (l : Addr) (items : Array Value) (n : Nat) (dd : Option Addr) (sl : Array (Option Value)) (u : Tok) (hi : items.isEmpty = false) :
    Meets (Builtin.«tuple.__mul__» ⟨[.ref l, .int 1 u], []⟩) (fun _ R s => s.heap.get? l = some { cls := .type "tuple", dict := dd, data := .seq items n, slots := sl } ∧ R (.ok (.ret (Value.ref l))) s) :=
  .of_wp fun prog w A R s h => by
    obtain ⟨hp, g, d, tk, os⟩ := s
    obtain ⟨hl, h⟩ := h
    have f1 := AutoSeq1.idx_int
    have c1 : (items.isEmpty || (1 : Int) == 1) = true := by rw [hi]; rfl
    wp_walk using wpAny_loadPart' hl
    repeat (first
      | (refine wpAny_ite_false (decide_eq_false (by decide)) ?_; wp_walk using wpAny_loadPart' hl)
      | (refine wpAny_ite_true (decide_eq_true c1) ?_; wp_walk using wpAny_loadPart' hl)
      | (refine wpAny_ite_true c1 ?_; wp_walk using wpAny_loadPart' hl))
    exact ⟨_, rfl, h⟩
def rRepTA (K : PySem.W.Frag) : R2 := fun x y H Q => ∃ l k xs, x = .ref l ∧ y = .int k ∧ SqT K H l xs ∧ xs ≠ [] ∧ xs.length ≤ 1000 ∧ ((k = 1 ∧ Q (.ref l) H) ∨ (2 ≤ k ∧ k ≤ 1000 ∧ ∀ p, H p = none → Q (.ref p) (L2.upd H p (.tup (List.replicate k.toNat xs).flatten))))
theorem op_repTA {X : Cx} : OpR X (binaryOp .Mult) (rRepTA X.K) := by
  intro pins s σ H x y v u Q I rx ry h
  obtain ⟨l, k, xs, rfl, rfl, hT, hne, hz, h⟩ := h
  rcases h with ⟨rfl, q⟩ | ⟨h1, h2, q⟩
  · cases rx
    obtain ⟨t, rfl⟩ := ry
    obtain ⟨its, r, ⟨⟨cls, dd, data, sl⟩, ho, hc, n, hd⟩, hs⟩ := I.tuple hT
    simp only at hc hd
    subst hc hd
    have hle : its.length = xs.length := r.length.symm
    have hi : its.toArray.isEmpty = false := by
      cases its with
      | nil => exact absurd (List.eq_nil_of_length_eq_zero hle.symm) hne
      | cons a b => rfl
    refine wpAny_binaryOp_repeat_ref (T := "tuple") (U := "int") (by decide) ⟨_, ho, rfl⟩ (fun s' => typeIs_int s' 1 t) noFill_tuple_mul PySem.F.fills_int_mul PySem.F.slot_int_rmul repeat_tuple PySem.F.slot_int_index.lookup
      (call_meets PySem.F.slot_int_rmul (typeIs_int s 1 t) PySem.F.entry_int_rmul (PySem.F.args_int_rmul_2 _ _) (int_rmul_tuple 1 t l its.toArray n dd sl)
        ⟨ho, rfl, ⟨_, ho, rfl⟩, call_meets PySem.F.slot_tuple_mul ⟨_, ho, rfl⟩ PySem.F.entry_tuple_mul (PySem.F.args_tuple_mul_2 _ _) (tuple_mul1 l its.toArray n dd sl t hi) ⟨ho, ?_⟩⟩)
    exact ⟨.ref l, H, I, rfl, q⟩
  · exact op_repT pins s σ H _ _ v u Q I rx ry ⟨l, k, xs, rfl, rfl, hT, hne, h1, h2, hz, q⟩
theorem flat_one {α : Type} (v : α) : ∀ n : Nat, (List.replicate n [v]).flatten = List.replicate n v
  | 0 => rfl
  | n + 1 => by rw [List.replicate_succ, List.flatten_cons, flat_one v n]; rfl
theorem rd_repTA {K : PySem.W.Frag} {H : Hp} {Q : VK} {l : Addr} {v : V} {n : Nat} (h : H l = some (.tup [v])) (h1 : 1 ≤ n) (h2 : n ≤ 1000) (q : ∀ p H', Same H H' → H' p = some (.tup (List.replicate n v)) → Q (.ref p) H') : rRepTA K (.ref l) (.int (n : Nat)) H Q := by
  refine ⟨l, _, [v], rfl, rfl, SqT.of h, (fun z => by cases z), by simp, ?_⟩
  by_cases e : n = 1
  · subst e
    exact .inl ⟨rfl, q l H (Same.refl _) h⟩
  · refine .inr ⟨by omega, by omega, fun p np => q p _ (Same.new np) ?_⟩
    rw [upd_same, show ((n : Nat) : Int).toNat = n by omega, flat_one]
/-- l.index(x) inside a comprehension -/
theorem mt_indexDK {X : Cx} (K : PySem.W.Frag) (hK : X.K = K) (hu : X.A.units + 65 < cLine) : MtR X "list.index" (rIndexD K) := by subst hK; exact mt_indexD hu
theorem op_catAK {X : Cx} (K : PySem.W.Frag) (hK : X.K = K) : OpR X (binaryOp .Add) (rCatA K) := by subst hK; exact op_catA
theorem op_repTAK {X : Cx} (K : PySem.W.Frag) (hK : X.K = K) : OpR X (binaryOp .Mult) (rRepTA K) := by subst hK; exact op_repTA
theorem rd_catT1 {K : PySem.W.Frag} {H : Hp} {Q : VK} {a b : Addr} {v : V} {ys : List V} (ha : H a = some (.tup [v])) (hb : H b = some (.tup ys)) (hn : ys ≠ []) (hl : ys.length ≤ 90000) (q : ∀ p, H p = none → Q (.ref p) (L2.upd H p (.tup (v :: ys)))) : rCatA K (.ref a) (.ref b) H Q :=
  ⟨a, b, [v], ys, rfl, rfl, SqT.of ha, SqT.of hb, sz (by rw [List.length_singleton]; omega), (fun z => by cases z), fun _ z => absurd z hn, fun _ _ p np => q p np⟩
end My
/-! A tuple of one, many times (more than 1000). -/
namespace My
open PySem PySem.Spec L2 SX
open PyProof.Rows hiding St
def rRepTB (K : PySem.W.Frag) : R2 := fun x y H Q => rRepTA K x y H Q ∨ ∃ l k v, x = .ref l ∧ y = .int k ∧ SqT K H l [v] ∧ 2 ≤ k ∧ k ≤ 100000 ∧ ∀ p, H p = none → Q (.ref p) (L2.upd H p (.tup (List.replicate k.toNat [v]).flatten))
theorem op_repTB {X : Cx} : OpR X (binaryOp .Mult) (rRepTB X.K) := by
  intro pins s σ H x y v u Q I rx ry h
  rcases h with h | ⟨l, k, w, rfl, rfl, hT, h1, h2, q⟩
  · exact op_repTA pins s σ H x y v u Q I rx ry h
  · cases rx
    obtain ⟨t, rfl⟩ := ry
    obtain ⟨its, r, ⟨⟨cls, dd, data, sl⟩, ho, hc, n, hd⟩, hs⟩ := I.tuple hT
    simp only at hc hd
    subst hc hd
    have hl1 : its.length = 1 := r.length.symm
    have hsz : its.toArray.size = 1 := by rw [List.size_toArray, hl1]
    have hi : its.toArray.isEmpty = false := by
      match its, hl1 with
      | [_], _ => rfl
    have hflat : (List.replicate k.toNat its).flatten.length = k.toNat := by rw [PyProof.Rows.lm_len_rep_flat, hl1, Nat.mul_one]
    have hbig : (100000 : Nat) ≤ sizeLine := by decide
    have e1 : ((its.toArray.size : Nat) : Int) * k = k := by rw [hsz]; omega
    refine wpAny_binaryOp_repeat_ref (T := "tuple") (U := "int") (by decide) ⟨_, ho, rfl⟩ (fun s' => typeIs_int s' k t) noFill_tuple_mul PySem.F.fills_int_mul PySem.F.slot_int_rmul repeat_tuple PySem.F.slot_int_index.lookup
      (call_meets PySem.F.slot_int_rmul (typeIs_int s k t) PySem.F.entry_int_rmul (PySem.F.args_int_rmul_2 _ _) (int_rmul_tuple k t l its.toArray n dd sl)
        ⟨ho, rfl, ⟨_, ho, rfl⟩, call_meets PySem.F.slot_tuple_mul ⟨_, ho, rfl⟩ PySem.F.entry_tuple_mul (PySem.F.args_tuple_mul_2 _ _) (tuple_mulW l its.toArray n dd sl k t ?_ ?_ ?_ ?_ ?_ ?_) ⟨ho, ?_⟩⟩)
    · rw [decide_eq_false (by omega), decide_eq_false (by omega)]; rfl
    · rw [hi, Bool.false_or]; exact beq_eq_false_iff_ne.mpr (by omega)
    · rw [hi, Bool.or_false]; exact decide_eq_false (by omega)
    · rw [e1]; omega
    · rw [e1]
      unfold Builtin.Tuple.tupleTooMany
      rw [sizeLine_eq]
      exact decide_eq_false (by omega)
    · rw [size_rep, List.size_toArray, hflat]; omega
    · rw [size_rep]
      refine ⟨.ref s.heap.objs.size, _, I.laid (t' := s.toks) (o := .tup (List.replicate k.toNat [w]).flatten) (fun b ob q => Heap.get?_push_of_some _ q) (Nat.le_refl _) ?_, rfl, q _ (I.hok.fresh (Nat.le_refl _))⟩
      exact ⟨by rw [PyProof.Rows.lm_len_rep_flat, List.length_singleton, Nat.mul_one]; omega, _, r.rep k.toNat, IsTup.new _ _⟩
theorem rd_repTB {K : PySem.W.Frag} {H : Hp} {Q : VK} {l : Addr} {v : V} {n : Nat} (h : H l = some (.tup [v])) (h1 : 1 ≤ n) (h2 : n ≤ 100000) (q : ∀ p H', Same H H' → H' p = some (.tup (List.replicate n v)) → Q (.ref p) H') : rRepTB K (.ref l) (.int (n : Nat)) H Q := by
  by_cases e : n ≤ 1000
  · exact .inl (rd_repTA h h1 e q)
  · refine .inr ⟨l, _, v, rfl, rfl, SqT.of h, by omega, by omega, fun p np => q p _ (Same.new np) ?_⟩
    rw [upd_same, show ((n : Nat) : Int).toNat = n by omega, flat_one]
/-- deep == inside a comprehension -/
theorem op_eqDK {X : Cx} (K : PySem.W.Frag) (hK : X.K = K) (hu : X.A.units + 64 < cLine) : OpR X (compareOp .Eq) (rEqD K) := by subst hK; exact op_eqD hu
theorem op_neDK {X : Cx} (K : PySem.W.Frag) (hK : X.K = K) (hu : X.A.units + 64 < cLine) : OpR X (compareOp .NotEq) (rNeD K) := by subst hK; exact op_neD hu
end My
/-! sorted(a dict with ints as keys), any number of them. -/
namespace My
open PySem PySem.Spec L2 SX
open PyProof.Rows hiding St
def rSortDI : List V → Hp → VK → Prop := fun xs H Q => ∃ (a : Addr) (kvs : List (Key × V)) (ks : List Int), xs = [.ref a] ∧ H a = some (.dK kvs) ∧ kvs.map (·.1) = ks.map Sum.inl ∧
  ∀ (ys : List Int) (p : Addr), ys.Perm ks → ys.Pairwise (· ≤ ·) → H p = none → Q (.ref p) (L2.upd H p (.lst (ys.map V.int)))
theorem cr_sortDI {X : Cx} (hcalm : X.calm = true) : CallR X (.builtin "sorted") rSortDI := by
  intro pins s σ H xs us Q I r q
  obtain ⟨a, kvs, ks, ex, hd, hks, q⟩ := q
  subst ex
  obtain ⟨u, eu, rx⟩ := vals1 r
  subst eu
  cases rx
  obtain ⟨z, lo, vs, rel, dd⟩ := dk_rd I.hok (.inl hd)
  obtain ⟨ep, hat⟩ := dd.dictAt
  have hkeys : vs.map (·.1) = ks.map Sum.inl := rel.keys.symm.trans hks
  have hl : vs.length = ks.length := by
    have e := congrArg List.length hkeys
    rw [List.length_map, List.length_map] at e
    exact e
  have hlk : kvs.length = vs.length := rel.length
  have h16 : vs.length ≤ sizeLine := by rw [← hlk]; exact z
  refine Calls.call_function_entry PyProof.Rows.kind_sorted PyProof.Rows.plain_sorted PyProof.Rows.entry_sorted (PyProof.Rows.args_sorted1 _) ?_
  unfold Builtin.«sorted»
  refine wpAny_bind (m := checkCount "sorted" 1 1 _) (wpAny_pure ?_)
  refine wpAny_bind (PySem.W.kdu_collect (A := X.A.in1) (PySem.W.kdl_dict (knd := mixKind X.prog X.w) (kvs := vs) (ep := ep) lo) (I.ok.hd hcalm) hat h16 fun h' tk acc hk hacc => ?_)
  have hal : acc.toList.length = ks.length := by rw [Array.length_toList, hacc.1, hl]
  have hS : IntsAre acc.toList ks := ints_each hal fun j v e => by
    obtain ⟨k, x, e1, e2⟩ := hacc.2 j v (by rw [← Array.getElem?_toList]; exact e)
    have e3 : (vs.map (·.1))[j]? = some k := by rw [List.getElem?_map, e1]; all_goals rfl
    rw [hkeys, List.getElem?_map] at e3
    cases e4 : ks[j]? with
    | none => rw [e4] at e3; cases e3
    | some y =>
      rw [e4] at e3
      have e5 : Sum.inl y = k := Option.some.inj e3
      subst e5
      rcases keyIs_shape (show keyIs (Sum.inl y) v = true from e2) with ⟨i, t, ek, ev⟩ | ⟨z, t, ek, ev⟩
      · cases ek
        exact ⟨y, t, rfl, ev⟩
      · cases ek
  have I1 : Inv X pins σ H { s with heap := h', toks := tk } := I.kept hk
  have hasz : acc.toList.length ≤ sizeLine := by rw [hal, ← hl]; exact h16
  refine wpAny_bind (wpAny_newList ?_ hasz)
  have hoL : (h'.push (seqObj "list" acc.toList.toArray 0)).get? h'.objs.size = some (seqObj "list" acc.toList.toArray 0) := Heap.get?_push_size _ rfl
  show wpAny _ _ _ _ _ { s with heap := h'.push (seqObj "list" acc.toList.toArray 0), toks := tk }
  refine wpAny_bind (wpAny_holding (wpAny_call_entry PyProof.Rows.slot_list_sort ⟨_, hoL, rfl⟩ PyProof.Rows.entry_list_sort
    (SrtO.list_sort_ord (s := { s with heap := h'.push (seqObj "list" acc.toList.toArray 0), toks := tk }) SrtO.swo_int hoL hasz (fun h2 => SrtO.ints_sortable hS h2) fun out g1 g2 => ⟨_, rfl, ?_⟩)
    (PyProof.Rows.args_list_sort _)))
  obtain ⟨k1, k2, k3⟩ := SrtO.ints_out hS g1 g2
  obtain ⟨e', he'⟩ := PyProof.Rows.sortedHeap_at (vs := acc.toList) (out := out.toArray) hoL
  have hlen : ((out.map SrtO.iv).map V.int).length ≤ sizeLine := by
    rw [List.length_map, k2.length_eq, ← hl]; exact h16
  refine wpAny_pure ⟨_, rfl, .ref h'.objs.size, L2.upd H h'.objs.size (.lst ((out.map SrtO.iv).map V.int)), I1.laid (t' := tk) (fun b u e => ?_) (Nat.le_refl _)
    (show ObjOk X.prog X.w _ _ _ (.lst ((out.map SrtO.iv).map V.int)) from ⟨hlen, out, e', vals_of_ints k1, he'⟩), rfl, q _ _ k2 k3 (I1.hok.fresh (Nat.le_refl _))⟩
  have hb : b < h'.objs.size := Heap.lt_size e
  rw [PyProof.Rows.sortedHeap_old (Nat.ne_of_lt hb) (by rw [size_push']; exact Nat.lt_succ_of_lt hb)]
  exact Heap.get?_push_of_some _ e
theorem rd_sortDI {H : Hp} {Q : VK} {a : Addr} {kvs : List (Key × V)} {ks ys : List Int} (h : H a = some (.dK kvs)) (hk : kvs.map (·.1) = ks.map Sum.inl) (pm : ys.Perm ks) (so : ys.Pairwise (· ≤ ·)) (q : ∀ p, H p = none → Q (.ref p) (L2.upd H p (.lst (ys.map V.int)))) : rSortDI [.ref a] H Q :=
  ⟨a, kvs, ks, rfl, h, hk, fun zs p p2 s2 np => by
    have e : zs = ys := sorted_one (p2.trans pm.symm) s2 so
    rw [e]; exact q p np⟩
end My
/-! list(zip(a, b)), a and b lists or tuples; readings that may go two ways. -/
namespace My
open PySem PySem.Spec L2 SX
open PyProof.Rows hiding St
section
variable {X : Cx} {e e2 : Expr} {te te2 : TE} {p1 p2 pos1 pos2 : Pos}
theorem src_of {pins : List (Addr × Obj)} {σ : L2.St} {H : Hp} {s : Shared} {a : Addr} {xs : List V} (I : Inv X pins σ H s) (h : SqL X.K H a xs ∨ SqT X.K H a xs) :
    ∃ (us : List Value) (o1 : Obj) (B : Heap → Prop) (St : Addr → Nat → Heap → Prop), Vals xs us ∧ a < s.heap.objs.size ∧ Begins (.ref a) o1 B ∧ B s.heap ∧
      (∀ i1, a ≠ i1 → ∀ A : Around, A.handled = none → Draws X.prog X.w A i1 [i1, a] xs.length (fun i v => us[i]? = some v) (St i1)) ∧ (∀ i1 h', h'.get? i1 = some o1 → (∀ b o, s.heap.get? b = some o → h'.get? b = some o) → St i1 0 h') := by
  rcases h with h | h
  · obtain ⟨us, ru, pa, _⟩ := I.list h
    have hlu : us.length = xs.length := ru.length.symm
    refine ⟨us, _, _, fun i1 i h => h.IsListIter i1 a i ∧ h.IsList a us.toArray, ru, pa.lt, begins_list a us.toArray, pa.isList, fun i1 ne A hA => ?_, fun i1 h' g k => ⟨⟨_, g, rfl, rfl⟩, pa.isList.at fun o e => k _ _ e⟩⟩
    have := Draws.list (prog := X.prog) (w := X.w) hA i1 a ne us.toArray
    have ez : us.toArray.size = xs.length := by simp [hlu]
    rw [ez] at this
    simpa using this
  · obtain ⟨us, ru, pa, _⟩ := I.tuple h
    have hlu : us.length = xs.length := ru.length.symm
    have ht : s.heap.IsTuple a us.toArray := by obtain ⟨o, e, c, n, d⟩ := pa; exact ⟨o, e, c, n, d⟩
    have hlt : a < s.heap.objs.size := by obtain ⟨o, e, _⟩ := ht; exact Heap.lt_size e
    refine ⟨us, _, _, fun i1 i h => h.IsTupleIter i1 a i ∧ h.IsTuple a us.toArray, ru, hlt, begins_tuple a us.toArray, ht, fun i1 ne A hA => ?_, fun i1 h' g k => ⟨⟨_, g, rfl, rfl⟩, ht.at fun o e => k _ _ e⟩⟩
    have := Draws.tuple (prog := X.prog) (w := X.w) hA i1 a ne us.toArray
    have ez : us.toArray.size = xs.length := by simp [hlu]
    rw [ez] at this
    simpa using this
def tListZA (K : PySem.W.Frag) (te te2 : TE) : TE := fun σ H Q => te σ H fun x H0 => te2 σ H0 fun y H1 => ∃ (a b : Addr) (xs ys : List V), x = .ref a ∧ y = .ref b ∧ (SqL K H1 a xs ∨ SqT K H1 a xs) ∧ (SqL K H1 b ys ∨ SqT K H1 b ys) ∧ xs.length = ys.length ∧ xs.length ≤ 100000 ∧
  ∀ (p : Addr) (ts : List Addr) (H2 : Hp), Same H1 H2 → H1 p = none → (∀ t ∈ ts, H1 t = none) → p ∉ ts → H2 p = some (.lst (refs ts)) → RL (fun H t (q : V × V) => H t = some (.tup [q.1, q.2])) H2 ts (xs.zip ys) → Q (.ref p) H2
theorem rd_listZA {K : PySem.W.Frag} {σ : L2.St} {H : Hp} {Q : VK} (h : te σ H fun x H0 => te2 σ H0 fun y H1 => ∃ (a b : Addr) (xs ys : List V), x = .ref a ∧ y = .ref b ∧ (SqL K H1 a xs ∨ SqT K H1 a xs) ∧ (SqL K H1 b ys ∨ SqT K H1 b ys) ∧ xs.length = ys.length ∧ xs.length ≤ 100000 ∧
  ∀ (p : Addr) (ts : List Addr) (H2 : Hp), Same H1 H2 → H1 p = none → (∀ t ∈ ts, H1 t = none) → p ∉ ts → H2 p = some (.lst (refs ts)) → RL (fun H t (q : V × V) => H t = some (.tup [q.1, q.2])) H2 ts (xs.zip ys) → Q (.ref p) H2) : tListZA K te te2 σ H Q := h
theorem pe_listZipA (hc : X.calm = true) (hgd : Gl X "list") (hmd : X.mg "list" = none) (hgz : Gl X "zip") (hmz : X.mg "zip" = none) (he : PE X e te) (he2 : PE X e2 te2)
    (n1 : starEach [.Call (.Name "zip" p2) [e, e2] [] pos2] X.env = (false, eval (.Call (.Name "zip" p2) [e, e2] [] pos2) X.env) :: starEach [] X.env := by rfl)
    (n2 : starEach [e, e2] X.env = (false, eval e X.env) :: starEach [e2] X.env := by rfl) (n3 : starEach [e2] X.env = (false, eval e2 X.env) :: starEach [] X.env := by rfl) (np : (backTo pos2 (starEach [e2] X.env)).any (·.1) = false := by rfl) :
    PE X (.Call (.Name "list" p1) [.Call (.Name "zip" p2) [e, e2] [] pos2] [] pos1) (tListZA X.K te te2) := by
  refine ⟨fun pins s σ H Q I h => ?_⟩
  refine Call_ (ld_blt I hgd hmd boot_list (PyProof.Rows.callWith_type1 (args_cons (Call_ (ld_blt I hgz hmz boot_zip (PyProof.Rows.callWith_type1 (args_cons (thn (he.run pins s σ H _ I h) fun v s1 ⟨x, H1, I1, r1, q1⟩ => ?_) n2) n2 np))) n1) n1))
  refine args_cons (thn (he2.run pins s1 σ H1 _ I1 q1) fun v2 s2 ⟨y, H2, I2, r2, q2⟩ => args_nil ?_) n3
  obtain ⟨a, b, xs, ys, rfl, rfl, hx, hy, hl, hz, q⟩ := q2
  obtain rfl : v = Value.ref a := r1
  obtain rfl : v2 = Value.ref b := r2
  obtain ⟨us, o1, B1, St1, ru, lta, bg1, hb1, D1, St10⟩ := src_of I2 hx
  obtain ⟨ws, o2, B2, St2, rw', ltb, bg2, hb2, D2, St20⟩ := src_of I2 hy
  rw [← hl] at D2
  refine zip_begins2 bg1 bg2 hb1 hb2 fun h' g1 g2 g3 g4 g5 g6 g7 => args_nil ?_
  have nb : ∀ {c : Addr}, c < s2.heap.objs.size → ∀ k, s2.heap.objs.size + k ≠ c := fun {c} hc k z => by
    rw [← z] at hc
    exact absurd hc (Nat.not_lt_of_le (Nat.le_add_right _ _))
  have Sp : ZipSep2 (s2.heap.objs.size + 4) (s2.heap.objs.size + 2) (s2.heap.objs.size + 3) s2.heap.objs.size (s2.heap.objs.size + 1) [s2.heap.objs.size, a] [s2.heap.objs.size + 1, b] := by
    refine zip_sep2 (fp1 := [a]) (fp2 := [b]) (fun c hc => ?_) (fun c hc => ?_)
    · rw [List.mem_singleton.mp hc]; exact lta
    · rw [List.mem_singleton.mp hc]; exact ltb
  have hh : X.A.handled = none := I2.ok.hd hc
  refine call_list_zip (s := { s2 with heap := h' }) Sp (D1 _ (Ne.symm (nb lta 0))) (D2 _ (Ne.symm (nb ltb 1))) hh (sz hz) g1 g2 ⟨_, _, g3⟩ (St10 _ _ g4 g7) (St20 _ _ g5 g7) (fun c hc => ?_) (fun c hc => ?_) fun h2 tk acc c as hk hS hacc hal hM => ?_
  · rw [g6]
    rcases List.mem_cons.mp hc with z | z
    · rw [z]; exact Nat.lt_add_of_pos_right (by decide)
    · rw [List.mem_singleton.mp z]; exact Nat.lt_of_lt_of_le lta (Nat.le_add_right _ _)
  · rw [g6]
    rcases List.mem_cons.mp hc with z | z
    · rw [z]; exact Nat.add_lt_add_left (by decide) _
    · rw [List.mem_singleton.mp z]; exact Nat.lt_of_lt_of_le ltb (Nat.le_add_right _ _)
  have hk2 : ∀ b o, s2.heap.get? b = some o → h2.get? b = some o := fun b o e => by
    have lb : b < s2.heap.objs.size := Heap.lt_size e
    exact hk b o (fun z => nb lb 4 z.symm) (fun z => nb lb 3 z.symm) (fun z => nb lb 0 z.symm) (fun z => nb lb 1 z.symm) (g7 b o e)
  have hS5 : s2.heap.objs.size ≤ h'.objs.size := by rw [g6]; exact Nat.le_add_right _ _
  obtain ⟨H', k1, k2, k3, k4, k5, k6, J⟩ := zip_laid (tk := tk) (h' := h2) I2 (by rw [hal]; exact sz hz) ru rw' hal (by rw [hal]; exact hl) hk2 hS5 hS hM hacc
  exact ⟨.ref _, H', J, rfl, q _ as H' k1 k2 k3 k4 k5 k6⟩
end
/-! ### two ways -/
def iOr (I1 I2 : L2.TI) : L2.TI := fun σ H R => I1 σ H R ∨ I2 σ H R
theorem pi_or {X : Cx} {tg e : Expr} {I1 I2 : L2.TI} (h1 : PI X tg e I1) (h2 : PI X tg e I2) : PI X tg e (iOr I1 I2) :=
  ⟨fun pins s σ H R I h => h.elim (h1.run pins s σ H R I) (h2.run pins s σ H R I)⟩
theorem rd_ior1 {I1 I2 : L2.TI} {σ : L2.St} {H : Hp} {R : L2.It → Hp → Prop} (h : I1 σ H R) : iOr I1 I2 σ H R := .inl h
theorem rd_ior2 {I1 I2 : L2.TI} {σ : L2.St} {H : Hp} {R : L2.It → Hp → Prop} (h : I2 σ H R) : iOr I1 I2 σ H R := .inr h
/-- a list or a tuple, looked at by place -/
def rIxA (K : PySem.W.Frag) : R2 := fun x y H Q => rIxL K x y H Q ∨ rIxT K x y H Q
theorem ix_anyK {X : Cx} (K : PySem.W.Frag) (hK : X.K = K) : IxR X (rIxA K) := by
  subst hK
  intro value slice pins s σ H x y v u Q I rx ry h hs
  rcases h with h | h
  · exact ix_list value slice pins s σ H x y v u Q I rx ry h hs
  · exact ix_tup value slice pins s σ H x y v u Q I rx ry h hs
theorem rd_ixA {K : PySem.W.Frag} {H : Hp} {Q : VK} {b : Bool} {p : Addr} {xs : List V} {i : Int} {v : V} (h : H p = some (Bx b xs)) (a : atI xs i = some v) (q : Q v H) : rIxA K (.ref p) (.int i) H Q := by
  cases b with
  | true => exact .inr (rd_ixT (SqT.of h) a q)
  | false => exact .inl (rd_ixL (SqL.of h) a q)
theorem seqA {K : PySem.W.Frag} {H : Hp} {b : Bool} {p : Addr} {xs : List V} (h : H p = some (Bx b xs)) : SqL K H p xs ∨ SqT K H p xs := by
  cases b with
  | true => exact .inr (SqT.of h)
  | false => exact .inl (SqL.of h)
theorem rd_lenA {K : PySem.W.Frag} {H : Hp} {Q : VK} {b : Bool} {p : Addr} {xs : List V} (h : H p = some (Bx b xs)) (q : Q (.int (xs.length : Nat)) H) : qLen K [V.ref p] H Q := ⟨p, xs, rfl, seqA h, q⟩
def tupA {K : PySem.W.Frag} {H : Hp} {Q : VK} {b : Bool} {p : Addr} {xs : List V} (h : H p = some (Bx b xs)) (q1 : b = true → Q (.ref p) H) (q2 : b = false → ∀ r, H r = none → Q (.ref r) (L2.upd H r (.tup xs))) : kTup K (.ref p) H Q := by
  cases b with
  | true => exact rd_kTupT (SqT.of h) (q1 rfl)
  | false => exact rd_kTupL (SqL.of h) (q2 rfl)
section
variable {σ σ2 : L2.St} {H : Hp} {Q : VK} {te : TE} {tt : TT} {vs : List Nat} {K : PySem.W.Frag} {tl : TE} {nx : L2.St → Hp → Prop} {rt : VK} {bk ct : L2.St → Hp → Prop} {tb : TS}
theorem lcAny {α : Type} {b : Bool} (ls : List α) (e : α → V) {p : Addr} (h : H p = some (Bx b (ls.map e))) (ht0 : ∀ R : VK, R (.ref p) H → tl σ H R) {j : Nat} (yes : α → Bool) (f : α → V) (hn : ls.length ≤ 50000)
    (hw : ∀ x, wipe ((wipe σ2 vs).set j (some x)) vs = wipe σ2 vs)
    (ht : ∀ y ∈ ls, PT0 tt ((wipe σ2 vs).set j (some (e y))) H (yes y)) (he : ∀ y ∈ ls, yes y = true → PE0 te ((wipe σ2 vs).set j (some (e y))) H (f y))
    (q : ∀ D H', H D = none → Same H H' → H' D = some (.lst ((ls.filter yes).map f)) → Q (.ref D) H') : iOr (iList K tl) (iTup K tl) σ H fun J H1 => LcG J (gName j) tt te vs σ2 Q H1 := by
  cases b with
  | true => exact .inr (ht0 _ ⟨p, rfl, ⟨_, SqT.of h⟩, lcT (K := K) ls e (SqT.of h) yes f hn hw ht he q⟩)
  | false => exact .inl (ht0 _ ⟨p, rfl, ⟨_, SqL.of h⟩, lcL (K := K) ls e (SqL.of h) yes f hn hw ht he q⟩)
theorem forEnAny {b : Bool} {xs : List V} {p : Addr} {i1 i2 n : Nat} (hl : xs.length = n) (h : H p = some (Bx b xs)) (ht0 : ∀ R : VK, R (.ref p) H → tl σ H R) (Pv : Nat → L2.St → Hp → Prop) (h0 : Pv 0 σ2 H) (hG : ∀ i σ H, i ≤ n → Pv i σ H → H p = some (Bx b xs))
    (hs : ∀ i σ H T y, i < n → Pv i σ H → H T = none → xs[i]? = some y → tb ⟨Pv (i + 1), rt, nx, Pv (i + 1)⟩ ((σ.set i1 (some (.int ((i : Nat) : Int)))).set i2 (some y)) (L2.upd H T (.tup [.int ((i : Nat) : Int), y]))) (hd : ∀ σ H, Pv n σ H → nx σ H) :
    iOr (iEnum K (tCons tl tNil)) (iEnT K (tCons tl tNil)) σ H fun J H1 => ForG J (gp2 K i1 i2) tb ⟨nx, rt, bk, ct⟩ σ2 H1 := by
  subst hl
  cases b with
  | true =>
    refine .inr (ht0 _ ⟨p, xs, rfl, SqT.of h, ?_⟩)
    refine forP (walk_enT (K := K) (a := p) (ys := xs)) Pv h0 (fun i σ H hi pv => SqT.of (hG i σ H hi pv)) (fun i σ H T x y hi pv nT hx hy => ?_) hd
    cases hx
    exact hs i σ H T y hi pv nT hy
  | false =>
    refine .inl (ht0 _ ⟨p, xs, rfl, SqL.of h, ?_⟩)
    refine forP (walk_enum (K := K) (a := p) (xs := xs)) Pv h0 (fun i σ H hi pv => SqL.of (hG i σ H hi pv)) (fun i σ H T x y hi pv nT hx hy => ?_) hd
    cases hx
    exact hs i σ H T y hi pv nT hy
end
/-! unpacking a list of two -/
theorem pg_unl2 {X : Cx} {i j k : Nat} {x y : Str} {p q pos : Pos} (K : PySem.W.Frag) (hK : X.K = K) (hc : X.calm = true) (hN : X.N.Nodup) (hi : X.N[i]? = some x) (hx : Loc X.env.scope x) (hj : X.N[j]? = some y) (hy : Loc X.env.scope y)
    (h1 : X.fn x = true ∨ X.env.scope.names.lookup x = some .local := by first | exact .inl rfl | exact .inr rfl | assumption)
    (h2 : X.fn y = true ∨ X.env.scope.names.lookup y = some .local := by first | exact .inl rfl | exact .inr rfl | assumption) :
    PG X (.Tuple [.Name x p, .Name y q] k pos) (gUnl K 2 (gCons (gName i) (gCons (gName j) gNil))) := by
  subst hK
  exact pg_unl hc (pgs_cons (pg_name hN hi hx h1) (pgs_cons (pg_name hN hj hy h2) pgs_nil))
theorem rd_unl2 {K : PySem.W.Frag} {σ : L2.St} {H : Hp} {a : Addr} {u v : V} {i j : Nat} {R : L2.St → Hp → Prop} (h : SqL K H a [u, v]) (q : R ((σ.set i (some u)).set j (some v)) H) : gUnl K 2 (gCons (gName i) (gCons (gName j) gNil)) (.ref a) σ H R :=
  ⟨a, _, rfl, h, rfl, _, _, rfl, _, _, rfl, rfl, q⟩
end My
/-! Pairs and words as data: sorted, compared, shown; hashes of pairs. -/
namespace My
open PySem PySem.Spec L2 SX LamX Mon Rs
open PyProof.Rows hiding St
def dP (p : Pr) : PyData := .tuple [.int (p.1 : Nat), .int (p.2 : Nat)]
def dW (x : List Nat × Pr) : PyData := .tuple [.str (S x.1), dP x.2]
def dN (w : List Nat) : PyData := .tuple [.int (w.length : Nat), .str (S w)]
def Nt (H : Hp) (a : Addr) (w : List Nat) : Prop := H a = some (.tup [vI w.length, .str (S w)])
section
variable {K : PySem.W.Frag} {H : Hp} {α : Type}
theorem dpP {a : Addr} {p : Pr} (h : Pi H a p) : Dp K H (.ref a) (dP p) := .tup (SqT.of h) (.cons (.int _) (.cons (.int _) .nil))
theorem dpW {a : Addr} {x : List Nat × Pr} (h : Wt H a x) : Dp K H (.ref a) (dW x) := let ⟨t, h1, h2⟩ := h; .tup (SqT.of h1) (.cons (.str _) (.cons (dpP h2) .nil))
theorem dpN {a : Addr} {w : List Nat} (h : Nt H a w) : Dp K H (.ref a) (dN w) := .tup (SqT.of h) (.cons (.int _) (.cons (.str _) .nil))
theorem dpAll_of {P : Hp → Addr → α → Prop} {d : α → PyData} (hd : ∀ a x, P H a x → Dp K H (.ref a) (d x)) : ∀ {as : List Addr} {xs : List α}, RL P H as xs → DpAll K H (refs as) (xs.map d)
  | [], [], _ => .nil
  | [], _ :: _, h => by have := h.1; simp at this
  | _ :: _, [], h => by have := h.1; simp at this
  | a :: as, x :: xs, h => .cons (hd a x (h.2 0 a x rfl rfl)) (dpAll_of hd ⟨by simpa using h.1, fun i b y e1 e2 => h.2 (i + 1) b y e1 e2⟩)
theorem dp_list {P : Hp → Addr → α → Prop} {d : α → PyData} (hd : ∀ a x, P H a x → Dp K H (.ref a) (d x)) {as : List Addr} {xs : List α} {q : Addr} (hq : H q = some (.lst (refs as))) (h : RL P H as xs) : Dp K H (.ref q) (.list (xs.map d)) := .lst (SqL.of hq) (dpAll_of hd h)
theorem depAll_le {d : α → PyData} {n : Nat} (hd : ∀ x, (d x).depth ≤ n) : ∀ xs : List α, PyData.depthAll (xs.map d) ≤ n
  | [] => Nat.zero_le _
  | x :: xs => by
    show max (d x).depth (PyData.depthAll (xs.map d)) ≤ n
    have h1 := depAll_le hd xs
    have h2 := hd x
    omega
theorem layAll {d : α → PyData} : ∀ xs : List α, (∀ x ∈ xs, (d x).canLay0 = true) → PyData.canLayAll0 (xs.map d) = true
  | [], _ => rfl
  | x :: xs, h => by
    show ((d x).canLay0 && PyData.canLayAll0 (xs.map d)) = true
    rw [h x List.mem_cons_self, layAll xs fun y hy => h y (List.mem_cons_of_mem _ hy)]; rfl
theorem shaped_of {d : α → PyData} (xs : List α) (h1 : ∀ x ∈ xs, (d x).canLay0 = true) (h2 : ∀ x, (d x).depth ≤ 10) : SeqAt.shaped (.list (xs.map d)) = true := by
  have e2 : PyData.depth (.list (xs.map d)) ≤ 64 := by
    show PyData.depthAll (xs.map d) + 1 ≤ 64
    have := depAll_le h2 xs
    omega
  show (PyData.canLayAll0 (xs.map d) && decide (PyData.depth (.list (xs.map d)) ≤ 64)) = true
  rw [layAll xs h1, decide_eq_true e2]; rfl
theorem dP_lay (p : Pr) : (dP p).canLay0 = true := rfl
theorem dP_depth (p : Pr) : (dP p).depth = 1 := rfl
theorem dW_lay {x : List Nat × Pr} (h : OkW x.1) : (dW x).canLay0 = true := by
  show (PyData.canLay0 (.str (S x.1)) && ((dP x.2).canLay0 && true)) = true
  rw [canStr h]; rfl
theorem dW_depth (x : List Nat × Pr) : (dW x).depth = 2 := rfl
theorem dN_depth (w : List Nat) : (dN w).depth = 1 := rfl
theorem eqP (p q : Pr) : PyData.eqv (dP p) (dP q) = decide (p = q) := by
  obtain ⟨a, b⟩ := p
  obtain ⟨c, d⟩ := q
  show (((a : Int) == (c : Int)) && (((b : Int) == (d : Int)) && true)) = _
  by_cases h1 : a = c <;> by_cases h2 : b = d <;> simp [h1, h2] <;> omega
theorem eqPs : ∀ ps qs : List Pr, PyData.eqvAll (ps.map dP) (qs.map dP) = decide (ps = qs)
  | [], [] => rfl
  | [], _ :: _ => rfl
  | _ :: _, [] => rfl
  | p :: ps, q :: qs => by
    show (PyData.eqv (dP p) (dP q) && PyData.eqvAll (ps.map dP) (qs.map dP)) = _
    rw [eqP, eqPs ps qs]
    by_cases h1 : p = q <;> by_cases h2 : ps = qs <;> simp [h1, h2]
theorem rd_nePs {p r : Addr} {as bs : List Addr} {vs ws : List Pr} {Q : VK} (h1 : H p = some (.lst (refs as))) (r1 : RL Pi H as vs) (h2 : H r = some (.lst (refs bs))) (r2 : RL Pi H bs ws) (q : Q (.bl (!decide (vs = ws))) H) : rNeD K (.ref p) (.ref r) H Q :=
  rd_neD (dp_list (fun _ _ h => dpP h) h1 r1) (dp_list (fun _ _ h => dpP h) h2 r2) (shaped_of _ (fun x _ => dP_lay x) fun x => by rw [dP_depth]; decide) (shaped_of _ (fun x _ => dP_lay x) fun x => by rw [dP_depth]; decide)
    (by rw [show PyData.eqv (.list (vs.map dP)) (.list (ws.map dP)) = decide (vs = ws) from eqPs vs ws]; exact q)
/-- is the list of words with pairs empty -/
theorem rd_neW0 {p r : Addr} {as : List Addr} {xs : List (List Nat × Pr)} {Q : VK} (h1 : H p = some (.lst (refs as))) (r1 : RL Wt H as xs) (ok : ∀ x ∈ xs, OkW x.1) (h2 : H r = some (.lst [])) (q : Q (.bl (!decide (xs = []))) H) : rNeD K (.ref p) (.ref r) H Q :=
  rd_neD (dp_list (fun _ _ h => dpW h) h1 r1) (.lst (SqL.of h2) .nil) (shaped_of _ (fun x hx => dW_lay (ok x hx)) fun x => by rw [dW_depth]; decide) rfl
    (by
      have e : PyData.eqv (.list (xs.map dW)) (.list []) = decide (xs = []) := by cases xs <;> rfl
      rw [e]; exact q)
/-! ### sorted -/
theorem pick {β : Type} (g : α → β) (zs : List α) : ∀ L : List β, (∀ y ∈ L, ∃ z ∈ zs, y = g z) → ∃ ys : List α, L = ys.map g ∧ ∀ z ∈ ys, z ∈ zs
  | [], _ => ⟨[], rfl, fun z h => by cases h⟩
  | y :: L, h => by
    obtain ⟨z, hz, rfl⟩ := h y List.mem_cons_self
    obtain ⟨ys, rfl, h2⟩ := pick g zs L fun y hy => h y (List.mem_cons_of_mem _ hy)
    refine ⟨z :: ys, rfl, fun w hw => ?_⟩
    rcases List.mem_cons.mp hw with h | h
    · rw [h]; exact hz
    · exact h2 w h
theorem rd_sortRL {P : Hp → Addr → α → Prop} {d : α → PyData} (hd : ∀ a x, P H a x → Dp K H (.ref a) (d x)) (hk : ∀ {H'}, Kt H H' → ∀ a x, P H a x → P H' a x) (inj : ∀ x y, d x = d y → x = y) (al : ∀ x y, PySem.W.alike (d x) (d y) = true) (so : ∀ x, ∃ y r, d x = .tuple (y :: r)) (dp : ∀ x, (d x).depth ≤ 10)
    {a : Addr} {as : List Addr} {xs : List α} {Q : VK} (ha : H a = some (.lst (refs as))) (hR : RL P H as xs) (hl : xs.length ≤ 100000)
    (q : ∀ (q : Addr) (bs : List Addr) (ys : List α), H q = none → RL P (L2.upd H q (.lst (refs bs))) bs ys → (∀ y, y ∈ ys ↔ y ∈ xs) → ys.length = xs.length → ys.Pairwise (fun x y => PySem.W.dataLe false d x y = true) → Q (.ref q) (L2.upd H q (.lst (refs bs)))) : qSortD K [.ref a] H Q := by
  have hlen := hR.1
  have e1 : ((as.zip xs).map fun z : Addr × α => ((V.ref z.1, d z.2) : VD)).map (·.1) = refs as := by
    rw [List.map_map]
    show (as.zip xs).map (fun z => V.ref z.1) = _
    have : (as.zip xs).map (fun z => V.ref z.1) = ((as.zip xs).map Prod.fst).map V.ref := by rw [List.map_map]; rfl
    rw [this, List.map_fst_zip (by omega)]; rfl
  have e2 : ((as.zip xs).map fun z : Addr × α => ((V.ref z.1, d z.2) : VD)).map (·.2) = xs.map d := by
    rw [List.map_map]
    show (as.zip xs).map (fun z => d z.2) = _
    have : (as.zip xs).map (fun z => d z.2) = ((as.zip xs).map Prod.snd).map d := by rw [List.map_map]; rfl
    rw [this, List.map_snd_zip (by omega)]
  have hz : ∀ z ∈ as.zip xs, P H z.1 z.2 := fun z hz => by
    obtain ⟨i, hi⟩ := List.mem_iff_getElem?.mp hz
    rw [List.getElem?_zip_eq_some] at hi
    exact hR.2 i z.1 z.2 hi.1 hi.2
  refine ⟨a, (as.zip xs).map fun z : Addr × α => ((V.ref z.1, d z.2) : VD), rfl, SqL.of (by rw [e1]; exact ha), fun p hp => ?_, ?_, ?_, fun p hp => ?_, by rw [List.length_map, List.length_zip]; omega, fun q0 nq => ?_⟩
  · obtain ⟨z, h1, rfl⟩ := List.mem_map.mp hp
    exact hd _ _ (hz z h1)
  · rw [e2]
    intro u hu v hv
    obtain ⟨x, _, rfl⟩ := List.mem_map.mp hu
    obtain ⟨y, _, rfl⟩ := List.mem_map.mp hv
    exact al x y
  · rw [e2]
    refine .inl fun u hu => ?_
    obtain ⟨x, _, rfl⟩ := List.mem_map.mp hu
    exact so x
  · obtain ⟨z, h1, rfl⟩ := List.mem_map.mp hp
    exact dp _
  · generalize hps : ((as.zip xs).map fun z : Addr × α => ((V.ref z.1, d z.2) : VD)) = ps at *
    have hperm := sortD_perm ps
    obtain ⟨zs, hzs, hsub⟩ := pick (fun z : Addr × α => ((V.ref z.1, d z.2) : VD)) (as.zip xs) (sortD ps) fun y hy => by
      have h1 := hperm.mem_iff.mp hy
      rw [← hps] at h1
      obtain ⟨z, h2, h3⟩ := List.mem_map.mp h1
      exact ⟨z, h2, h3.symm⟩
    have hzl : zs.length = xs.length := by
      have h1 := hperm.length_eq
      rw [hzs, List.length_map, ← hps, List.length_map, List.length_zip] at h1
      omega
    have ev : (sortD ps).map (·.1) = refs (zs.map (·.1)) := by
      rw [hzs, List.map_map]
      unfold refs
      rw [List.map_map]; rfl
    rw [ev]
    refine q q0 (zs.map (·.1)) (zs.map (·.2)) nq ⟨by simp, fun i b y g1 g2 => ?_⟩ (fun y => ?_) (by rw [List.length_map]; exact hzl) ?_
    · rw [List.getElem?_map] at g1 g2
      cases hzi : zs[i]? with
      | none => rw [hzi] at g1; cases g1
      | some z =>
        rw [hzi] at g1 g2
        cases g1
        cases g2
        exact hk (Kt.of (Same.new nq)) _ _ (hz z (hsub z (List.mem_of_getElem? hzi)))
    · refine ⟨fun h => ?_, fun h => ?_⟩
      · obtain ⟨z, h1, rfl⟩ := List.mem_map.mp h
        exact (List.of_mem_zip (hsub z h1)).2
      · have h1 : d y ∈ ps.map (·.2) := by rw [e2]; exact List.mem_map.mpr ⟨y, h, rfl⟩
        have h2 : d y ∈ (sortD ps).map (·.2) := (hperm.map _).mem_iff.mpr h1
        rw [hzs, List.map_map] at h2
        obtain ⟨z, h3, h4⟩ := List.mem_map.mp h2
        exact List.mem_map.mpr ⟨z, h3, inj _ _ h4⟩
    · have T := PySem.W.sortLe_total (PyProof.Rows.listOrd itemOrd) false (fun p : VD => PySem.W.keyToks p.2)
      have hpw : (sortD ps).Pairwise (fun x y => PySem.W.dataLe false (fun p : VD => p.2) x y = true) := List.pairwise_mergeSort (fun a b c => T.trans a b c) (fun a b => by rcases T.total a b with h | h <;> simp [PySem.W.dataLe, h]) ps
      rw [hzs, List.pairwise_map] at hpw
      rw [List.pairwise_map]
      exact hpw
theorem dW_inj (x y : List Nat × Pr) (h : dW x = dW y) : x = y := by
  obtain ⟨w, a, b⟩ := x
  obtain ⟨v, c, d⟩ := y
  unfold dW dP at h
  simp only [PyData.tuple.injEq, List.cons.injEq, PyData.str.injEq, PyData.int.injEq, and_true] at h
  obtain ⟨h1, h2, h3⟩ := h
  have e1 := S_inj h1
  have e2 : a = c := by omega
  have e3 : b = d := by omega
  rw [e1, e2, e3]
theorem dN_inj (w v : List Nat) (h : dN w = dN v) : w = v := by
  unfold dN at h
  simp only [PyData.tuple.injEq, List.cons.injEq, PyData.str.injEq, PyData.int.injEq, and_true] at h
  exact S_inj h.2
theorem rd_sortW {a : Addr} {as : List Addr} {xs : List (List Nat × Pr)} {Q : VK} (ha : H a = some (.lst (refs as))) (hR : RL Wt H as xs) (hl : xs.length ≤ 100000)
    (q : ∀ (q : Addr) (bs : List Addr) (ys : List (List Nat × Pr)), H q = none → RL Wt (L2.upd H q (.lst (refs bs))) bs ys → (∀ y, y ∈ ys ↔ y ∈ xs) → ys.length = xs.length → Q (.ref q) (L2.upd H q (.lst (refs bs)))) : qSortD K [.ref a] H Q :=
  rd_sortRL (fun _ _ h => dpW h) (fun k _ _ h => h.kt k) dW_inj (fun _ _ => rfl) (fun x => ⟨_, _, rfl⟩) (fun x => by rw [dW_depth]; decide) ha hR hl fun q0 bs ys n r m l _ => q q0 bs ys n r m l
theorem slt_tri (u v : List Nat) : u = v ∨ slt u v ∨ slt v u := by
  by_cases h : u = v
  · exact .inl h
  · by_cases h1 : u.length < v.length
    · exact .inr (.inl (.inl h1))
    · by_cases h2 : v.length < u.length
      · exact .inr (.inr (.inl h2))
      · have e : u.length = v.length := by omega
        by_cases h3 : u < v
        · exact .inr (.inl (.inr ⟨e, h3⟩))
        · exact .inr (.inr (.inr ⟨e.symm, by
            rcases List.le_iff_lt_or_eq.mp (List.not_lt.mp h3) with h4 | h4
            · exact h4
            · exact absurd h4.symm h⟩))
theorem dN_lt {u v : List Nat} (h : slt u v) : PyProof.Rows.lexLt itemOrd (PySem.W.keyToks (dN u)) (PySem.W.keyToks (dN v)) = true := by
  have e : ∀ w : List Nat, PySem.W.keyToks (dN w) = [.inl 1, .inl ((w.length : Nat) : Int), .inl 1, .inr w, .inl 0] := fun w => by
    show [Sum.inl 1, .inl ((w.length : Nat) : Int), .inl 1, .inr (S w).cps.toList, .inl 0] = _
    rw [show (S w).cps.toList = w by simp]
  rw [e, e]
  refine PyProof.Rows.lex_true.mpr (.inr ⟨by decide, ?_⟩)
  rcases h with h | ⟨h1, h2⟩
  · exact PyProof.Rows.lex_true.mpr (.inl (decide_eq_true (by omega)))
  · refine PyProof.Rows.lex_true.mpr (.inr ⟨decide_eq_false (by omega), ?_⟩)
    refine PyProof.Rows.lex_true.mpr (.inr ⟨by decide, ?_⟩)
    exact PyProof.Rows.lex_true.mpr (.inl (decide_eq_true h2))
theorem rd_sortN {a : Addr} {as : List Addr} {xs : List (List Nat)} {Q : VK} (ha : H a = some (.lst (refs as))) (hR : RL Nt H as xs) (hl : xs.length ≤ 100000)
    (q : ∀ (q : Addr) (bs : List Addr) (ys : List (List Nat)), H q = none → RL Nt (L2.upd H q (.lst (refs bs))) bs ys → (∀ y, y ∈ ys ↔ y ∈ xs) → ys.length = xs.length → (∀ w r, ys = w :: r → ∀ y ∈ ys, y = w ∨ slt w y) → Q (.ref q) (L2.upd H q (.lst (refs bs)))) : qSortD K [.ref a] H Q :=
  rd_sortRL (fun _ _ h => dpN h) (fun k _ _ h => k _ _ h) dN_inj (fun _ _ => rfl) (fun x => ⟨_, _, rfl⟩) (fun x => by rw [dN_depth]; decide) ha hR hl fun q0 bs ys n r m l p => q q0 bs ys n r m l fun w t e y hy => by
    rw [e] at p hy
    rw [List.pairwise_cons] at p
    rcases List.mem_cons.mp hy with h | h
    · exact .inl h
    · have h1 := p.1 y h
      rcases slt_tri y w with h2 | h2 | h2
      · exact .inl h2
      · have h3 := dN_lt h2
        have h4 : (!PyProof.Rows.lexLt itemOrd (PySem.W.keyToks (dN y)) (PySem.W.keyToks (dN w))) = true := h1
        rw [h3] at h4; cases h4
      · exact .inr h2
end
/-! ### hashes of pairs of small numbers -/
def hP (i j : Nat) : Int := reduceHash (Builtin.Tuple.tupleHashOf [hashInt (i : Nat), hashInt (j : Nat)])
def hL : List Int := (List.range 36).map fun x => hP (x / 6) (x % 6)
def hLit : List Int := [-8458139203682520985, -1950498447580522560, 7204814214171964562, -4734289103435588629, 1773351652666409796, -3119722376306286570, -5164621852614943976, 8389048192121911274, -3550055125485641917, -1440771752368011620, -6333845781340707986, 173794974761290439, 4685526799349444076, 6794810172467074373, 1901736143494378007, 8409376899596376432, 3516302870623680066, -8422800446983873125, 2248468952609198383, 8756109708711196808, 3863035679738500442, 5972319052856130739, 1079245023883434373, 7586885779985432798, -6348126469135965181, 159514286966033244, -9131917124991031250, -2624276368889032825, 3883364387212965600, -1009709641759730766, -3054609118068388172, 3453031638033610253, -5838399773923454241, 669240982178544184, -4223833046794152182, 2283807709307846243]
theorem hL_eq : hL = hLit := by decide +kernel
theorem hLit_nd : hLit.Nodup := by decide +kernel
theorem hP_ne {x y : Nat} (h : x < y) (hy : y < 36) : hP (x / 6) (x % 6) ≠ hP (y / 6) (y % 6) := by
  have nd : hL.Nodup := hL_eq ▸ hLit_nd
  have h2 := List.pairwise_iff_getElem.mp nd x y (by unfold hL; simp; omega) (by unfold hL; simp; omega) h
  unfold hL at h2
  rw [List.getElem_map, List.getElem_map, List.getElem_range, List.getElem_range] at h2
  exact h2
theorem hP_inj {i j a b : Nat} (hi : i < 6) (hj : j < 6) (ha : a < 6) (hb : b < 6) (h : hP i j = hP a b) : i = a ∧ j = b := by
  have e1 : hP i j = hP ((i * 6 + j) / 6) ((i * 6 + j) % 6) := by rw [show (i * 6 + j) / 6 = i by omega, show (i * 6 + j) % 6 = j by omega]
  have e2 : hP a b = hP ((a * 6 + b) / 6) ((a * 6 + b) % 6) := by rw [show (a * 6 + b) / 6 = a by omega, show (a * 6 + b) % 6 = b by omega]
  rw [e1, e2] at h
  by_cases h1 : i * 6 + j < a * 6 + b
  · exact absurd h (hP_ne h1 (by omega))
  · by_cases h2 : a * 6 + b < i * 6 + j
    · exact absurd h.symm (hP_ne h2 (by omega))
    · omega
theorem hash_en {prog : Program} {w : World} (p : Pr) : (tupleKind (mixKind prog w)).hash (enP p) = hP p.1 p.2 := by
  have e1 : (tupleKind (mixKind prog w)).hash (enP p) = reduceHash (Builtin.Tuple.tupleHashOf ((enP p).map (mixKind prog w).hash)) := by
    show tupleKeyHash (mixKind prog w) (enP p) = _
    unfold tupleKeyHash
    rfl
  have e2 : (enP p).map (mixKind prog w).hash = [hashInt (p.1 : Nat), hashInt (p.2 : Nat)] := by
    show [keyH w (kI p.1), keyH w (kI p.2)] = _
    unfold keyH kI
    rfl
  rw [e1, e2]
  unfold hP
  rfl
theorem hash_nd0 {h : List Key → Int} (hh : ∀ p : Pr, h (enP p) = hP p.1 p.2) {β : Type} {f : β → V} {fd : List (Pr × β)} (nd : (fd.map (·.1)).Nodup) (hlt : ∀ p ∈ fd, p.1.1 < 6 ∧ p.1.2 < 6) : ((kd enP f fd).map fun p => h p.1).Nodup := by
  have e0 : ((kd enP f fd).map fun p => h p.1) = fd.map fun p => hP p.1.1 p.1.2 := by
    unfold kd
    rw [List.map_map]
    exact List.map_congr_left fun p _ => hh p.1
  rw [e0]
  clear e0
  induction fd with
  | nil => exact .nil
  | cons q fd ih =>
    rw [List.map_cons, List.nodup_cons] at nd
    rw [List.map_cons, List.nodup_cons]
    refine ⟨fun hm => ?_, ih nd.2 fun p hp => hlt p (List.mem_cons_of_mem _ hp)⟩
    obtain ⟨p, hp, e2⟩ := List.mem_map.mp hm
    have h1 := hlt p (List.mem_cons_of_mem _ hp)
    have h2 := hlt q List.mem_cons_self
    obtain ⟨e3, e4⟩ := hP_inj h1.1 h1.2 h2.1 h2.2 e2
    exact nd.1 (List.mem_map.mpr ⟨p, hp, Prod.ext e3 e4⟩)
theorem hash_nd (prog : Program) (w : World) {β : Type} {f : β → V} {fd : List (Pr × β)} (nd : (fd.map (·.1)).Nodup) (hlt : ∀ p ∈ fd, p.1.1 < 6 ∧ p.1.2 < 6) : ((kd enP f fd).map fun p => (tupleKind (mixKind prog w)).hash p.1).Nodup :=
  hash_nd0 (fun p => hash_en p) nd hlt
def qSetdT (a : Addr) (y z : V) (H3 : Hp) (Q : VK) : Prop := ∃ (kvs : List (List Key × V)) (k : List Key) (b : Addr), H3 a = some (.dT kvs) ∧ y = .ref b ∧ H3 b = some (.tup (k.map kV)) ∧ kvs.length < sizeLine ∧ (∀ v, valV kvs k = some v → Q v H3) ∧ (valV kvs k = none → Q z (L2.upd H3 a (.dT (putK kvs k z))))
theorem rd_qSetdT {a b : Addr} {z : V} {H3 : Hp} {Q : VK} {kvs : List (List Key × V)} (k : List Key) (h1 : H3 a = some (.dT kvs)) (h2 : H3 b = some (.tup (k.map kV))) (hl : kvs.length < sizeLine) (G : V → Hp → Prop) (g1 : ∀ v, valV kvs k = some v → G v H3) (g2 : valV kvs k = none → G z (L2.upd H3 a (.dT (putK kvs k z)))) (h : ∀ v H', G v H' → Q v H') : qSetdT a (.ref b) z H3 Q :=
  ⟨kvs, k, b, h1, rfl, h2, hl, fun v e => h v _ (g1 v e), fun e => h _ _ (g2 e)⟩
theorem rd_dsetdT' {td ty tx : TE} {σ : L2.St} {H : Hp} {Q : VK} (h : td σ H fun x H1 => qDG0 x H1 fun a => ty σ H1 fun y H2 => tx σ H2 fun z H3 => qSetdT a y z H3 Q) : tDSetdT td ty tx σ H Q := h
def qDG2 (a : Addr) (y z : V) (H3 : Hp) (Q : VK) : Prop := ∃ o, DGet H3 a y o ∧ Q (o.getD z) H3
theorem rd_dget2' {td ty tx : TE} {σ : L2.St} {H : Hp} {Q : VK} (h : td σ H fun x H1 => qDG0 x H1 fun a => ty σ H1 fun y H2 => tx σ H2 fun z H3 => qDG2 a y z H3 Q) : tDGet2 td ty tx σ H Q := h
theorem rd_dg2T {a b : Addr} {H : Hp} {Q : VK} {kvs : List (List Key × V)} {z : V} (k : List Key) (h : H a = some (.dT kvs)) (e : H b = some (.tup (k.map kV))) (q : Q ((valV kvs k).getD z) H) : qDG2 a (.ref b) z H Q := ⟨_, DGet.t h e, q⟩
theorem ExB.bk {h D : Addr} {H H' : Hp} (e : ExB h H H') (n : H' D = none) (hD : D ≠ h) : H D = none := by
  cases q : H D with
  | none => rfl
  | some o => rw [e _ _ hD q] at n; cases n
section
variable {σ : L2.St} {H : Hp} {Q : VK}
theorem rd_dnewT (h : ∀ p, H p = none → Q (.ref p) (L2.upd H p (.dT []))) : tDNewT σ H Q := h
/-- the keys of a dict with tuples as keys, kept -/
theorem rd_iKeys {td : TE} {R : L2.It → Hp → Prop} (h : td σ H fun x H1 => ∃ d o, x = .ref d ∧ ((∃ kvs, H1 d = some (.frz o (.dK kvs)) ∧ R (Itk d o kvs) H1) ∨ ∃ kvs, H1 d = some (.frz o (.dT kvs)) ∧ R (Itkt d o kvs) H1)) : iKeys td σ H R := h
end
theorem tyDT {K : PySem.W.Frag} {H : Hp} {p : Addr} {kvs : List (List Key × V)} (h : H p = some (.dT kvs)) : tyV K "dict" (.ref p) H := .inr (.inr (.inl ⟨rfl, .inr ⟨kvs, h⟩⟩))
/-- d[k] of a kept dict -/
theorem rd_qGetTf {a b : Addr} {H : Hp} {Q : VK} {o : Obj} {v : V} {kvs : List (List Key × V)} (k : List Key) (h : H a = some (.frz o (.dT kvs))) (eb : H b = some (.tup (k.map kV))) (e : valV kvs k = some v) (q : Q v H) : qDGet (.ref a) (.ref b) H Q := ⟨a, v, rfl, .inr ⟨kvs, k, b, .inr ⟨o, h⟩, rfl, eb, e.symm⟩, q⟩
/-- a dict is kept while its keys are gone through -/
theorem rd_qLock {t : TS} {D : Ends} {σ : L2.St} {H : Hp} {d : Addr} {kvs : List (List Key × V)} (h : H d = some (.dT kvs)) (q : ∀ od, t ⟨fun σ' H' => H' d = some (.frz od (.dT kvs)) ∧ D.nx σ' (L2.upd H' d (.dT kvs)), fun v H' => H' d = some (.frz od (.dT kvs)) ∧ D.rt v (L2.upd H' d (.dT kvs)), fun σ' H' => H' d = some (.frz od (.dT kvs)) ∧ D.bk σ' (L2.upd H' d (.dT kvs)), fun σ' H' => H' d = some (.frz od (.dT kvs)) ∧ D.ct σ' (L2.upd H' d (.dT kvs))⟩ σ (L2.upd H d (.frz od (.dT kvs)))) : tLock t D σ H := ⟨d, _, h, trivial, q⟩
theorem BDs.exN {Hb H H' : Hp} {bd x : Addr} {bs : List (Pr × Addr)} {es : List En} {c : Nat} (h : BDs Hb H bd bs es c) (e : ExB x H H') (hxb : x ≠ bd) (ha : ∀ g a, aget bs g = some a → a ≠ x) (ht : ∀ xs, H x ≠ some (.tup xs)) : BDs Hb H' bd bs es c := by
  have kt : Kt H H' := fun a xs q => e a _ (fun z => ht xs (z ▸ q)) q
  refine ⟨e _ _ hxb.symm h.at_, h.nd, h.nv, h.len, h.no, fun g a q => ?_⟩
  obtain ⟨n, as, q1, q2⟩ := h.yes g a q
  exact ⟨n, as, e _ _ (ha g a q) q1, q2.keep fun a x h => h.kt kt⟩
theorem BDs.ne {Hb H : Hp} {bd x : Addr} {bs : List (Pr × Addr)} {es : List En} {c : Nat} (h : BDs Hb H bd bs es c) (n : H x = none) : ∀ g a, aget bs g = some a → a ≠ x := fun g a e => by
  obtain ⟨_, as, h1, _⟩ := h.yes g a e
  exact ne_of_none h1 n
theorem RL.filt {α : Type} {P : Hp → Addr → α → Prop} {H : Hp} {as : List Addr} {xs : List α} (h : RL P H as xs) (f : α → Bool) : RL P H (((as.zip xs).filter fun z => f z.2).map (·.1)) (xs.filter f) := by
  have hl := h.1
  have e : xs.filter f = ((as.zip xs).filter fun z => f z.2).map (·.2) := by
    have e1 : xs = (as.zip xs).map (·.2) := (List.map_snd_zip (by omega)).symm
    conv => lhs; rw [e1]
    rw [List.filter_map]; rfl
  rw [e]
  refine ⟨by simp, fun i a x g1 g2 => ?_⟩
  rw [List.getElem?_map] at g1 g2
  cases hz : ((as.zip xs).filter fun z => f z.2)[i]? with
  | none => rw [hz] at g1; cases g1
  | some z =>
    rw [hz] at g1 g2
    cases g1
    cases g2
    have hm := (List.mem_filter.mp (List.mem_of_getElem? hz)).1
    obtain ⟨j, hj⟩ := List.mem_iff_getElem?.mp hm
    rw [List.getElem?_zip_eq_some] at hj
    exact h.2 j _ _ hj.1 hj.2
/-- a comprehension over numbers with an if, whose parts may change things -/
theorem lcR_invF {σ : L2.St} {H : Hp} {Q : VK} {tt : TT} {te : TE} {vs : List Nat} {lo : Int} {n : Nat} {j : Nat} (Pv : Addr → Nat → List V → Hp → Prop) (hn : n ≤ 50000) (hw : ∀ x, wipe ((wipe σ vs).set j (some x)) vs = wipe σ vs)
    (h0 : ∀ D, H D = none → Pv D 0 [] (L2.upd H D (.lst [])))
    (hs : ∀ (D : Addr) (i : Nat) (acc : List V) (H' : Hp), i < n → H D = none → acc.length ≤ i → Pv D i acc H' → H' D = some (.lst acc) → ∀ (N : Hp → Prop) (Q : VK), (∀ H2, H2 D = some (.lst acc) → Pv D (i + 1) acc H2 → N H2) →
      (∀ y H2, H2 D = some (.lst acc) → Pv D (i + 1) (acc ++ [y]) (L2.upd H2 D (.lst (acc ++ [y]))) → Q y H2) → tt ((wipe σ vs).set j (some (.int (lo + (i : Nat))))) H' fun b H2 => if b = true then te ((wipe σ vs).set j (some (.int (lo + (i : Nat))))) H2 Q else N H2)
    (q : ∀ (D : Addr) (acc : List V) (H' : Hp), H D = none → acc.length ≤ n → Pv D n acc H' → H' D = some (.lst acc) → Q (.ref D) H') : LcG (Itr lo n) (gName j) tt te vs σ Q H := by
  intro D hD
  refine lc_it (walk_range (lo := lo) (n := n)) (fun i H' => ∃ acc : List V, H' D = some (.lst acc) ∧ acc.length ≤ i ∧ Pv D i acc H') ⟨[], upd_same, Nat.le_refl _, h0 D hD⟩ (fun _ _ _ _ => trivial) ?_ ?_
  · rintro i x H1 H1' hi ⟨acc, ha, hl, p⟩ ⟨rfl, rfl⟩
    refine ⟨hw _, ?_⟩
    refine hs D i acc _ hi hD hl p ha _ _ (fun H2 h2 p2 => ⟨acc, h2, by omega, p2⟩) fun y H2 h2 p2 => ⟨acc, h2, szlt (by omega), acc ++ [y], upd_same, by rw [List.length_append]; show acc.length + 1 ≤ i + 1; omega, p2⟩
  · rintro H1 ⟨acc, ha, hl, p⟩
    exact q D acc H1 hD hl p ha
/-- a comprehension over the keys of a kept dict, with an if -/
theorem lcKT_invF {σ : L2.St} {H : Hp} {Q : VK} {tt : TT} {te : TE} {vs : List Nat} {d : Addr} {o : Obj} {kvs : List (List Key × V)} {j : Nat} (Pv : Addr → Nat → List V → Hp → Prop) (hn : kvs.length ≤ 50000) (hw : ∀ x, wipe ((wipe σ vs).set j (some x)) vs = wipe σ vs)
    (hG : ∀ D i acc H', Pv D i acc H' → H' d = some (.frz o (.dT kvs))) (h0 : ∀ D, H D = none → Pv D 0 [] (L2.upd H D (.lst [])))
    (hs : ∀ (D : Addr) (i : Nat) (k : List Key) (v : V) (q : Addr) (acc : List V) (H' : Hp), kvs[i]? = some (k, v) → H' q = some (.tup (k.map kV)) → H D = none → acc.length ≤ i → Pv D i acc H' → H' D = some (.lst acc) → ∀ (N : Hp → Prop) (Q : VK), (∀ H2, H2 D = some (.lst acc) → Pv D (i + 1) acc H2 → N H2) →
      (∀ y H2, H2 D = some (.lst acc) → Pv D (i + 1) (acc ++ [y]) (L2.upd H2 D (.lst (acc ++ [y]))) → Q y H2) → tt ((wipe σ vs).set j (some (.ref q))) H' fun b H2 => if b = true then te ((wipe σ vs).set j (some (.ref q))) H2 Q else N H2)
    (q : ∀ (D : Addr) (acc : List V) (H' : Hp), H D = none → acc.length ≤ kvs.length → Pv D kvs.length acc H' → H' D = some (.lst acc) → Q (.ref D) H') : LcG (Itkt d o kvs) (gName j) tt te vs σ Q H := by
  intro D hD
  refine lc_it (walk_keysT (d := d) (o := o) (kvs := kvs)) (fun i H' => ∃ acc : List V, H' D = some (.lst acc) ∧ acc.length ≤ i ∧ Pv D i acc H') ⟨[], upd_same, Nat.le_refl _, h0 D hD⟩ (fun i H' _ ⟨acc, _, _, p⟩ => hG D i acc H' p) ?_ ?_
  · rintro i x H1 H1' hi ⟨acc, ha, hl, p⟩ ⟨rfl, k, v, qq, hkv, rfl, hq⟩
    refine ⟨hw _, ?_⟩
    refine hs D i k v qq acc _ hkv hq hD hl p ha _ _ (fun H2 h2 p2 => ⟨acc, h2, by omega, p2⟩) fun y H2 h2 p2 => ⟨acc, h2, szlt (by omega), acc ++ [y], upd_same, by rw [List.length_append]; show acc.length + 1 ≤ i + 1; omega, p2⟩
  · rintro H1 ⟨acc, ha, hl, p⟩
    exact q D acc H1 hD hl p ha
theorem rd_qLockE {t : TE} {σ : L2.St} {H : Hp} {Q : VK} {d : Addr} {kvs : List (List Key × V)} (h : H d = some (.dT kvs)) (q : ∀ od, t σ (L2.upd H d (.frz od (.dT kvs))) fun v H' => H' d = some (.frz od (.dT kvs)) ∧ Q v (L2.upd H' d (.dT kvs))) : tLockE t σ H Q := ⟨d, _, h, trivial, q⟩
end My
/-! Lists of things by addresses: a filter and a new thing for each; a for over the keys of a locked dict; a look into a locked dict. -/
namespace My
open PySem PySem.Spec L2 SX
open PyProof.Rows hiding St
theorem cq_listOfK {X : Cx} (K : PySem.W.Frag) (hK : X.K = K) : CallR X (.type "list") (qListOf K) := by subst hK; exact cq_listOf
theorem rd_qInTF {H : Hp} {Q : VK} {neg : Bool} {a b : Addr} {od : Obj} {kvs : List (List Key × V)} (k : List Key) (h : H a = some (.frz od (.dT kvs))) (e : H b = some (.tup (k.map kV))) (q : Q (.bl (if neg then !(valV kvs k).isSome else (valV kvs k).isSome)) H) : qDIn neg (.ref b) (.ref a) H Q := ⟨a, _, rfl, .inr ⟨kvs, k, b, .inr ⟨od, h⟩, rfl, e, rfl⟩, q⟩
section
variable {σ : L2.St} {H : Hp} {Q : VK} {te : TE} {tt : TT} {vs : List Nat} {K : PySem.W.Frag} {tb : TS} {nx : L2.St → Hp → Prop} {rt : VK} {bk ct : L2.St → Hp → Prop}
theorem lcRL1 {α β : Type} {P : Hp → Addr → α → Prop} {P2 : Hp → Addr → β → Prop} (kP : ∀ {H H'}, Same H H' → ∀ a x, P H a x → P H' a x) (kP2 : ∀ {H H'}, Kt H H' → ∀ a x, P2 H a x → P2 H' a x) {as : List Addr} {xs : List α} {p : Addr} {j : Nat} (yes : α → Bool) (f : α → β)
    (hp : H p = some (.lst (refs as))) (hR : RL P H as xs) (hn : as.length ≤ 50000) (hw : ∀ x, wipe ((wipe σ vs).set j (some x)) vs = wipe σ vs)
    (ht : ∀ (T : Addr) (x : α) (H' : Hp), x ∈ xs → Same H H' → P H' T x → ∀ R : Bool → Hp → Prop, (∀ H2, Same H' H2 → R (yes x) H2) → tt ((wipe σ vs).set j (some (.ref T))) H' R)
    (hs : ∀ (T : Addr) (x : α) (H' : Hp), x ∈ xs → yes x = true → Same H H' → P H' T x → ∀ Q : VK, (∀ q H2, Same H' H2 → P2 H2 q (f x) → Q (.ref q) H2) → te ((wipe σ vs).set j (some (.ref T))) H' Q)
    (q : ∀ (D : Addr) (bs : List Addr) (H' : Hp), H D = none → Same H H' → H' D = some (.lst (refs bs)) → RL P2 H' bs ((xs.filter yes).map f) → Q (.ref D) H') : LcG (Itl K p) (gName j) tt te vs σ Q H := by
  intro D nD
  have w := walk_list (K := K) (a := p) (xs := refs as)
  refine lc_it w (fun i H' => Same H H' ∧ ∃ bs : List Addr, H' D = some (.lst (refs bs)) ∧ RL P2 H' bs (((xs.take i).filter yes).map f) ∧ bs.length ≤ i) ⟨Same.new nD, [], upd_same, RL.nil, Nat.le_refl _⟩ (fun i H' _ h => SqL.of (h.1 _ _ hp)) ?_ ?_
  · rintro i v H1 H1' hi ⟨s, bs, hD, hb, hbl⟩ ⟨rfl, hv⟩
    refine ⟨hw _, ?_⟩
    obtain ⟨T, hT, rfl⟩ := refs_get hv
    obtain ⟨x, hx, hPx⟩ := hR.get hT
    have hxm := List.mem_of_getElem? hx
    have et : xs.take (i + 1) = xs.take i ++ [x] := by rw [List.take_add_one, hx]; rfl
    have hT2 := kP s _ _ hPx
    refine ht T x _ hxm s hT2 _ fun H2 s2 => ?_
    by_cases hy : yes x = true
    · rw [if_pos hy]
      refine hs T x H2 hxm hy (s.trans s2) (kP s2 _ _ hT2) _ fun q2 H3 s3 hq => ?_
      have hD3 := s3 _ _ (s2 _ _ hD)
      rw [refs_len] at hi
      refine ⟨refs bs, hD3, szlt (by rw [refs_len]; omega), Same.updN ((s.trans s2).trans s3) nD, bs ++ [q2], by rw [upd_same, ← refs_snoc], ?_, by rw [List.length_append]; show bs.length + 1 ≤ i + 1; omega⟩
      rw [et, List.filter_append, List.map_append, List.filter_cons, if_pos hy]
      exact ((hb.keep fun a x h => kP2 (Kt.of (s2.trans s3)) _ _ h).app (RL.one hq)).keep fun a x h => kP2 (Kt.updL hD3) _ _ h
    · rw [if_neg hy]
      refine ⟨s.trans s2, bs, s2 _ _ hD, ?_, by omega⟩
      rw [et, List.filter_append, List.filter_cons, if_neg hy, List.filter_nil, List.append_nil]
      exact hb.keep fun a x h => kP2 (Kt.of s2) _ _ h
  · rintro H1 ⟨s, bs, hD, hb, _⟩
    refine q D bs H1 nD s hD ?_
    rw [refs_len, hR.1, List.take_length] at hb
    exact hb
theorem forKT2 {a b : Nat} {d : Addr} {o : Obj} {kvs : List (List Key × V)} (Pv : Nat → L2.St → Hp → Prop) (h0 : Pv 0 σ H) (hG : ∀ i σ H, i ≤ kvs.length → Pv i σ H → H d = some (.frz o (.dT kvs)))
    (hs : ∀ i σ H (k : List Key) (v : V) (q : Addr), kvs[i]? = some (k, v) → Pv i σ H → H q = some (.tup (k.map kV)) → ∃ x y, k.map kV = [x, y] ∧ tb ⟨Pv (i + 1), rt, nx, Pv (i + 1)⟩ ((σ.set a (some x)).set b (some y)) H) (hd : ∀ σ H, Pv kvs.length σ H → nx σ H) : ForG (Itkt d o kvs) (gp2 K a b) tb ⟨nx, rt, bk, ct⟩ σ H :=
  for_it (walk_keysT (d := d) (o := o) (kvs := kvs)) Pv h0 hG (fun i v σ H H' hi pv y => by
    obtain ⟨rfl, k, v, q, hkv, rfl, hq⟩ := y
    obtain ⟨x, y, e, h⟩ := hs i σ _ k v q hkv pv hq
    rw [e] at hq
    exact rd_g2 (SqT.of hq) h) hd
end
end My
/-! Over lists of things by addresses: a value for each, a copy of each; numbers in tuples and lists; unpacking three. -/
namespace My
open PySem PySem.Spec L2 SX
open PyProof.Rows hiding St
section
variable {σ : L2.St} {H : Hp} {Q : VK} {te : TE} {tt : TT} {vs : List Nat} {K : PySem.W.Frag}
theorem zipV_refs {α : Type} : ∀ {as : List Addr} {xs : List α}, as.length = xs.length → (as.zip xs).map (fun z => V.ref z.1) = refs as
  | [], [], _ => rfl
  | a :: as, x :: xs, h => by
    show V.ref a :: (as.zip xs).map (fun z => V.ref z.1) = V.ref a :: refs as
    rw [zipV_refs (Nat.succ.inj h)]
theorem zipV_vals {α β : Type} (f : α → β) : ∀ {as : List Addr} {xs : List α}, as.length = xs.length → (as.zip xs).map (fun z => f z.2) = xs.map f
  | [], [], _ => rfl
  | a :: as, x :: xs, h => by
    show f x :: (as.zip xs).map (fun z => f z.2) = f x :: xs.map f
    rw [zipV_vals f (Nat.succ.inj h)]
/-- a value for each -/
theorem lcRLv {α : Type} {P : Hp → Addr → α → Prop} {as : List Addr} {xs : List α} {p : Addr} {j : Nat} (f : α → V) (hp : H p = some (.lst (refs as))) (hR : RL P H as xs) (hn : as.length ≤ 50000) (hw : ∀ x, wipe ((wipe σ vs).set j (some x)) vs = wipe σ vs)
    (he : ∀ T x, x ∈ xs → P H T x → PE0 te ((wipe σ vs).set j (some (.ref T))) H (f x))
    (q : ∀ D H', H D = none → Same H H' → H' D = some (.lst (xs.map f)) → Q (.ref D) H') : LcG (Itl K p) (gName j) tYes te vs σ Q H := by
  refine lcL (as.zip xs) (fun z => V.ref z.1) (SqL.of (by rw [zipV_refs hR.1]; exact hp)) (fun _ => true) (fun z => f z.2) (by rw [List.length_zip]; omega) hw (fun y hy => pt_yes) (fun y hy _ => ?_) fun D H' nD s hD => ?_
  · obtain ⟨i, hi⟩ := List.mem_iff_getElem?.mp hy
    rw [List.getElem?_zip_eq_some] at hi
    exact he y.1 y.2 (List.mem_of_getElem? hi.2) (hR.2 i _ _ hi.1 hi.2)
  · rw [filter_yes, zipV_vals f hR.1] at hD
    exact q D H' nD s hD
/-- a new list for each -/
theorem lcRLl {α : Type} {P : Hp → Addr → α → Prop} (kP : ∀ {H H'}, Same H H' → ∀ a x, P H a x → P H' a x) {as : List Addr} {xs : List α} {p : Addr} {j : Nat} (f : α → List V)
    (hp : H p = some (.lst (refs as))) (hR : RL P H as xs) (hn : as.length ≤ 50000) (hw : ∀ x, wipe ((wipe σ vs).set j (some x)) vs = wipe σ vs)
    (hs : ∀ (T : Addr) (x : α) (H' : Hp), x ∈ xs → Same H H' → P H' T x → ∀ Q : VK, (∀ q H2, Same H' H2 → H' q = none → H2 q = some (.lst (f x)) → Q (.ref q) H2) → te ((wipe σ vs).set j (some (.ref T))) H' Q)
    (q : ∀ (D : Addr) (bs : List Addr) (H' : Hp), H D = none → Same H H' → H' D = some (.lst (refs bs)) → RL (fun H a x => H a = some (.lst (f x))) H' bs xs → Q (.ref D) H') : LcG (Itl K p) (gName j) tYes te vs σ Q H := by
  have w := walk_list (K := K) (a := p) (xs := refs as)
  refine lc_inv w (fun D i acc H' => Same H H' ∧ ∃ bs : List Addr, acc = refs bs ∧ RL (fun H a x => H a = some (.lst (f x))) H' bs (xs.take i) ∧ ∀ b ∈ bs, b ≠ D) (by rw [refs_len]; exact hn) hw (fun D i acc H' h => SqL.of (h.1 _ _ hp)) (fun D nD => ⟨Same.new nD, [], rfl, RL.nil, fun b h => by cases h⟩) ?_ ?_
  · rintro D i v acc H1 Q1 hv nD hacc ⟨s, bs, rfl, hb, hbl⟩ hD k
    obtain ⟨T, hT, rfl⟩ := refs_get hv
    obtain ⟨x, hx, hPx⟩ := hR.get hT
    have hxm := List.mem_of_getElem? hx
    have et : xs.take (i + 1) = xs.take i ++ [x] := by rw [List.take_add_one, hx]; rfl
    refine hs T x H1 hxm s (kP s _ _ hPx) _ fun q2 H2 s2 nq hq => ?_
    have hD2 := s2 _ _ hD
    have hqD : q2 ≠ D := fun e => by rw [e, hD] at nq; cases nq
    refine k _ _ hD2 ⟨Same.updN (s.trans s2) nD, bs ++ [q2], refs_snoc.symm, ?_, ?_⟩
    · rw [et]
      refine RL.app ⟨hb.1, fun i a x e1 e2 => ?_⟩ (RL.one ?_)
      · show (L2.upd H2 D _) a = _
        rw [upd_ne (hbl a (List.mem_of_getElem? e1))]
        exact s2 _ _ (hb.2 i a x e1 e2)
      · show (L2.upd H2 D _) q2 = _
        rw [upd_ne hqD]; exact hq
    · intro b hb
      rcases List.mem_append.mp hb with h | h
      · exact hbl b h
      · rw [List.mem_singleton.mp h]; exact hqD
  · rintro D acc H1 nD hacc ⟨s, bs, rfl, hb, hbl⟩ hD
    refine q D bs H1 nD s hD ?_
    rw [refs_len, hR.1, List.take_length] at hb
    exact hb
end
section
variable {σ : L2.St} {H : Hp} {Q : VK} {K : PySem.W.Frag}
theorem mem_cast {y : Nat} {s : List Nat} : decide (((y : Nat) : Int) ∈ s.map fun n : Nat => (n : Int)) = decide (y ∈ s) := by
  rw [decide_eq_decide]
  constructor
  · intro h
    obtain ⟨z, hz, e⟩ := List.mem_map.mp h
    have : z = y := by omega
    exact this ▸ hz
  · intro h; exact List.mem_map.mpr ⟨y, h, rfl⟩
theorem row_ints (s : List Nat) : rowV s = (s.map fun n : Nat => (n : Int)).map V.int := by unfold rowV; rw [List.map_map]; rfl
theorem rgV_row (n : Nat) : rgV 0 (n : Nat) = rowV (List.range n) := by
  unfold rgV rowV
  have e : (((n : Nat) : Int) - 0).toNat = n := by omega
  rw [e]
  refine List.map_congr_left fun i _ => ?_
  show V.int (0 + (i : Nat)) = V.int (i : Nat)
  rw [Int.zero_add]
theorem rd_inTN {p : Addr} {y : Nat} {s : List Nat} (h : H p = some (.tup (rowV s))) (q : Q (.bl (decide (y ∈ s))) H) : rIn K false (vI y) (.ref p) H Q :=
  ⟨p, (s.map fun n : Nat => (n : Int)).map V.int, rfl, .inr (SqT.of (by rw [← row_ints]; exact h)), rfl, flat_ints _, by rw [if_neg Bool.false_ne_true, show inV (vI y) _ = decide (y ∈ s) by rw [show vI y = V.int ((y : Nat) : Int) from rfl, inV_int, mem_cast]]; exact q⟩
theorem rd_g3 {T : Addr} {u v z : V} {i j l : Nat} {R : L2.St → Hp → Prop} (h : SqT K H T [u, v, z]) (q : R (((σ.set i (some u)).set j (some v)).set l (some z)) H) : gTup K 3 (gCons (gName i) (gCons (gName j) (gCons (gName l) gNil))) (.ref T) σ H R :=
  ⟨T, _, rfl, h, rfl, _, _, rfl, _, _, rfl, _, _, rfl, rfl, q⟩
end
end My
/-! Parts of numbers told by their least ones; forests of parents. -/
namespace Cgr
open Mon
/-! ### forests -/
structure Vd (N : Nat) (p : List Nat) : Prop where
  len : p.length = N
  le : ∀ i, i < N → p.getD i 0 ≤ i
def rt (p : List Nat) (i : Nat) : Nat := if h : p.getD i 0 < i then rt p (p.getD i 0) else i
termination_by i
theorem rt_dn {p : List Nat} {i : Nat} (h : p.getD i 0 < i) : rt p i = rt p (p.getD i 0) := by rw [rt, dif_pos h]
theorem rt_st {p : List Nat} {i : Nat} (h : ¬ p.getD i 0 < i) : rt p i = i := by rw [rt, dif_neg h]
section
variable {N : Nat} {p : List Nat}
theorem rt_le (p : List Nat) : ∀ i, rt p i ≤ i := fun i => by
  induction i using Nat.strongRecOn with
  | _ i ih =>
    by_cases h : p.getD i 0 < i
    · rw [rt_dn h]; exact Nat.le_trans (ih _ h) (Nat.le_of_lt h)
    · rw [rt_st h]; exact Nat.le_refl _
theorem rt_out (p : List Nat) : ∀ i, ¬ p.getD (rt p i) 0 < rt p i := fun i => by
  induction i using Nat.strongRecOn with
  | _ i ih =>
    by_cases h : p.getD i 0 < i
    · rw [rt_dn h]; exact ih _ h
    · rw [rt_st h]; exact h
theorem rt_rt (p : List Nat) (i : Nat) : rt p (rt p i) = rt p i := rt_st (rt_out p i)
theorem Vd.root (v : Vd N p) {i : Nat} (h : i < N) : p.getD (rt p i) 0 = rt p i := by
  have h1 := rt_out p i
  have h2 := v.le (rt p i) (Nat.lt_of_le_of_lt (rt_le p i) h)
  omega
theorem rt_par (p : List Nat) (i : Nat) : rt p (p.getD i 0) = rt p i ∨ ¬ p.getD i 0 ≤ i := by
  by_cases h : p.getD i 0 < i
  · exact .inl (rt_dn h).symm
  · by_cases e : p.getD i 0 = i
    · rw [e]; exact .inl rfl
    · exact .inr (by omega)
theorem Vd.par (v : Vd N p) {i : Nat} (h : i < N) : rt p (p.getD i 0) = rt p i := (rt_par p i).resolve_right (fun z => z (v.le i h))
theorem getD_set {p : List Nat} {i j x : Nat} (h : i < p.length) : (p.set i x).getD j 0 = if j = i then x else p.getD j 0 := by
  rw [List.getD_eq_getElem?_getD, List.getElem?_set]
  by_cases e : i = j
  · subst e
    rw [if_pos rfl, if_pos h, if_pos rfl]; rfl
  · rw [if_neg e, if_neg (fun z => e z.symm), ← List.getD_eq_getElem?_getD]
/-- a shorter way -/
theorem Vd.half (v : Vd N p) {i : Nat} (h : i < N) : Vd N (p.set i (p.getD (p.getD i 0) 0)) ∧ ∀ j, rt (p.set i (p.getD (p.getD i 0) 0)) j = rt p j := by
  have h1 := v.le i h
  have h2 := v.le (p.getD i 0) (by omega)
  have hi : i < p.length := by rw [v.len]; exact h
  refine ⟨⟨by rw [List.length_set]; exact v.len, fun j hj => ?_⟩, fun j => ?_⟩
  · rw [getD_set hi]
    by_cases e : j = i
    · rw [if_pos e]; omega
    · rw [if_neg e]; exact v.le j hj
  · induction j using Nat.strongRecOn with
    | _ j ih =>
      by_cases e : j = i
      · subst e
        have e2 : (p.set j (p.getD (p.getD j 0) 0)).getD j 0 = p.getD (p.getD j 0) 0 := by rw [getD_set hi, if_pos rfl]
        by_cases hd : p.getD (p.getD j 0) 0 < j
        · rw [rt_dn (by rw [e2]; exact hd), e2, ih _ hd, v.par (by omega), v.par h]
        · rw [rt_st (by rw [e2]; exact hd), rt_st (by omega)]
      · have e2 : (p.set i (p.getD (p.getD i 0) 0)).getD j 0 = p.getD j 0 := by rw [getD_set hi, if_neg e]
        by_cases hd : p.getD j 0 < j
        · rw [rt_dn (by rw [e2]; exact hd), e2, ih _ hd, rt_dn hd]
        · rw [rt_st (by rw [e2]; exact hd), rt_st hd]
/-- one root more under another one -/
theorem Vd.link (v : Vd N p) {lo hi : Nat} (h1 : lo < hi) (h2 : hi < N) (r1 : rt p lo = lo) (r2 : rt p hi = hi) : Vd N (p.set hi lo) ∧ ∀ j, rt (p.set hi lo) j = if rt p j = hi then lo else rt p j := by
  have hl : hi < p.length := by rw [v.len]; exact h2
  refine ⟨⟨by rw [List.length_set]; exact v.len, fun j hj => ?_⟩, fun j => ?_⟩
  · rw [getD_set hl]
    by_cases e : j = hi
    · rw [if_pos e]; omega
    · rw [if_neg e]; exact v.le j hj
  · induction j using Nat.strongRecOn with
    | _ j ih =>
      by_cases e : j = hi
      · subst e
        have e2 : (p.set j lo).getD j 0 = lo := by rw [getD_set hl, if_pos rfl]
        rw [rt_dn (by rw [e2]; exact h1), e2, ih lo h1, r1, r2, if_pos rfl, if_neg (by omega)]
      · have e2 : (p.set hi lo).getD j 0 = p.getD j 0 := by rw [getD_set hl, if_neg e]
        by_cases hd : p.getD j 0 < j
        · rw [rt_dn (by rw [e2]; exact hd), e2, ih _ hd, rt_dn hd]
        · rw [rt_st (by rw [e2]; exact hd), rt_st hd, if_neg e]
end
/-- how many roots -/
def roots (p : List Nat) (N : Nat) : Nat := ((List.range N).filter fun j => decide (rt p j = j)).length
theorem roots_le (p : List Nat) (N : Nat) : roots p N ≤ N := by
  have := List.length_filter_le (fun j => decide (rt p j = j)) (List.range N)
  rw [List.length_range] at this; exact this
theorem roots_congr {p q : List Nat} {N : Nat} (h : ∀ j, rt q j = rt p j) : roots q N = roots p N := by
  unfold roots
  congr 1
  refine List.filter_congr fun j _ => ?_
  rw [h j]
theorem filter_lt {f g : Nat → Bool} {x : Nat} : ∀ {l : List Nat}, x ∈ l → f x = false → g x = true → (∀ y, f y = true → g y = true) → (l.filter f).length < (l.filter g).length
  | y :: l, hx, h1, h2, h3 => by
    have hle : ∀ l : List Nat, (l.filter f).length ≤ (l.filter g).length := fun l => by
      induction l with
      | nil => exact Nat.le_refl _
      | cons a l ih =>
        rw [List.filter_cons, List.filter_cons]
        by_cases e : f a = true
        · rw [if_pos e, if_pos (h3 a e)]; exact Nat.succ_le_succ ih
        · rw [if_neg e]
          by_cases e2 : g a = true
          · rw [if_pos e2]; exact Nat.le_succ_of_le ih
          · rw [if_neg e2]; exact ih
    rw [List.filter_cons, List.filter_cons]
    rcases List.mem_cons.mp hx with e | hm
    · subst e
      rw [if_neg (by rw [h1]; exact Bool.false_ne_true), if_pos h2]
      exact Nat.lt_succ_of_le (hle l)
    · have ih := filter_lt hm h1 h2 h3
      by_cases e : f y = true
      · rw [if_pos e, if_pos (h3 y e)]; exact Nat.succ_lt_succ ih
      · rw [if_neg e]
        by_cases e2 : g y = true
        · rw [if_pos e2]; exact Nat.lt_succ_of_lt ih
        · rw [if_neg e2]; exact ih
theorem roots_link {p q : List Nat} {N lo hi : Nat} (h1 : lo < hi) (h2 : hi < N) (r2 : rt p hi = hi) (h : ∀ j, rt q j = if rt p j = hi then lo else rt p j) : roots q N < roots p N := by
  unfold roots
  refine filter_lt (x := hi) (List.mem_range.mpr h2) ?_ (decide_eq_true r2) fun y hy => ?_
  · rw [h hi, r2, if_pos rfl]; exact decide_eq_false (by omega)
  · have hy := of_decide_eq_true hy
    rw [h y] at hy
    refine decide_eq_true ?_
    by_cases e : rt p y = hi
    · rw [if_pos e] at hy
      have := rt_le p y
      omega
    · rw [if_neg e] at hy; exact hy
/-! ### parts told by their least ones -/
structure IsCls (R : Nat → Nat → Prop) (N : Nat) (c : List Nat) : Prop where
  len : c.length = N
  rel : ∀ n, n < N → R n (c.getD n 0)
  lt : ∀ n, n < N → c.getD n 0 < N
  le : ∀ n, n < N → ∀ m, m < N → R n m → c.getD n 0 ≤ m
structure Eqv (R : Nat → Nat → Prop) : Prop where
  rfl' : ∀ a, R a a
  sym : ∀ {a b}, R a b → R b a
  tr : ∀ {a b d}, R a b → R b d → R a d
section
variable {R S : Nat → Nat → Prop} {N : Nat} {c d : List Nat}
theorem getD_ext {c d : List Nat} (h : c.length = d.length) (k : ∀ n, n < c.length → c.getD n 0 = d.getD n 0) : c = d := list_ext0 h k
theorem IsCls.le_self (h : IsCls R N c) (e : Eqv R) {n : Nat} (hn : n < N) : c.getD n 0 ≤ n := h.le n hn n hn (e.rfl' n)
theorem IsCls.uniq (h : IsCls R N c) (k : IsCls S N d) (e : ∀ a b, a < N → b < N → (R a b ↔ S a b)) : c = d := by
  refine getD_ext (by rw [h.len, k.len]) fun n hn => ?_
  rw [h.len] at hn
  have h1 := h.le n hn _ (k.lt n hn) ((e n _ hn (k.lt n hn)).mpr (k.rel n hn))
  have h2 := k.le n hn _ (h.lt n hn) ((e n _ hn (h.lt n hn)).mp (h.rel n hn))
  omega
theorem IsCls.same (h : IsCls R N c) (e : Eqv R) {a b : Nat} (ha : a < N) (hb : b < N) : c.getD a 0 = c.getD b 0 ↔ R a b := by
  constructor
  · intro z
    have h1 := h.rel a ha
    have h2 := h.rel b hb
    rw [z] at h1
    exact e.tr h1 (e.sym h2)
  · intro z
    have h1 := h.le a ha _ (h.lt b hb) (e.tr z (h.rel b hb))
    have h2 := h.le b hb _ (h.lt a ha) (e.tr (e.sym z) (h.rel a ha))
    omega
theorem IsCls.idem (h : IsCls R N c) (e : Eqv R) {n : Nat} (hn : n < N) : c.getD (c.getD n 0) 0 = c.getD n 0 := (h.same e (h.lt n hn) hn).mpr (e.sym (h.rel n hn))
theorem IsCls.congr (h : IsCls R N c) (e : ∀ a b, a < N → b < N → (R a b ↔ S a b)) : IsCls S N c :=
  ⟨h.len, fun n hn => (e _ _ hn (h.lt n hn)).mp (h.rel n hn), h.lt, fun n hn m hm r => h.le n hn m hm ((e _ _ hn hm).mpr r)⟩
/-- the same lists: the same parts -/
theorem IsCls.eq_iff (h : IsCls R N c) (k : IsCls S N d) (e : Eqv R) (f : Eqv S) : c = d ↔ ∀ a b, a < N → b < N → (R a b ↔ S a b) :=
  ⟨fun z a b ha hb => by rw [← h.same e ha hb, ← k.same f ha hb, z], h.uniq k⟩
/-- what a forest tells -/
theorem Vd.cls {p : List Nat} (v : Vd N p) : IsCls (fun a b => rt p a = rt p b) N ((List.range N).map (rt p)) := by
  have g : ∀ n, n < N → ((List.range N).map (rt p)).getD n 0 = rt p n := fun n hn => by
    rw [List.getD_eq_getElem?_getD, List.getElem?_map, List.getElem?_range hn]; rfl
  refine ⟨by simp, fun n hn => ?_, fun n hn => ?_, fun n hn m hm r => ?_⟩
  · rw [g n hn]; exact (rt_rt p n).symm
  · rw [g n hn]; exact Nat.lt_of_le_of_lt (rt_le p n) hn
  · rw [g n hn]
    show rt p n ≤ m
    rw [show rt p n = rt p m from r]; exact rt_le p m
theorem eqv_of {α : Type} (f : Nat → α) : Eqv fun a b => f a = f b := ⟨fun _ => rfl, fun h => h.symm, fun h k => h.trans k⟩
end
end Cgr
/-! Congruences of a table of steps: the least one with given pairs, joins, the greatest one within parts. -/
namespace Cgr
open Mon
abbrev Pq := Nat × Nat
inductive Gen (S : Nat → Nat → Prop) : Nat → Nat → Prop
  | base {a b : Nat} (h : S a b) : Gen S a b
  | refl (a : Nat) : Gen S a a
  | symm {a b : Nat} (h : Gen S a b) : Gen S b a
  | trans {a b c : Nat} (h : Gen S a b) (k : Gen S b c) : Gen S a c
theorem Gen.eqv (S : Nat → Nat → Prop) : Eqv (Gen S) := ⟨.refl, .symm, .trans⟩
theorem Gen.least {S R : Nat → Nat → Prop} (e : Eqv R) (h : ∀ a b, S a b → R a b) {a b : Nat} (g : Gen S a b) : R a b := by
  induction g with
  | base h1 => exact h _ _ h1
  | refl a => exact e.rfl' a
  | symm _ ih => exact e.sym ih
  | trans _ _ ih1 ih2 => exact e.tr ih1 ih2
/-- what holds within, and equality -/
def lift (N : Nat) (R : Nat → Nat → Prop) (a b : Nat) : Prop := (a < N ∧ b < N ∧ R a b) ∨ a = b
theorem lift_eqv {N : Nat} {R : Nat → Nat → Prop} (e : Eqv R) : Eqv (lift N R) :=
  ⟨fun a => .inr rfl, fun h => h.elim (fun ⟨h1, h2, h3⟩ => .inl ⟨h2, h1, e.sym h3⟩) fun h => .inr h.symm, fun h k => by
    rcases h with ⟨h1, h2, h3⟩ | h
    · rcases k with ⟨k1, k2, k3⟩ | k
      · exact .inl ⟨h1, k2, e.tr h3 k3⟩
      · exact k ▸ .inl ⟨h1, h2, h3⟩
    · exact h ▸ k⟩
theorem lift_in {N : Nat} {R : Nat → Nat → Prop} (e : Eqv R) {a b : Nat} (h : lift N R a b) : R a b := h.elim (fun h => h.2.2) fun h => h ▸ e.rfl' a
inductive Cl (U : Tab) (w : Nat) (ps : List Pq) : Nat → Nat → Prop
  | base {a b : Nat} (h : (a, b) ∈ ps) : Cl U w ps a b
  | refl (a : Nat) : Cl U w ps a a
  | symm {a b : Nat} (h : Cl U w ps a b) : Cl U w ps b a
  | trans {a b c : Nat} (h : Cl U w ps a b) (k : Cl U w ps b c) : Cl U w ps a c
  | step {a b j : Nat} (h : Cl U w ps a b) (hj : j < w) : Cl U w ps (at2 U a j) (at2 U b j)
theorem Cl.eqv (U : Tab) (w : Nat) (ps : List Pq) : Eqv (Cl U w ps) := ⟨.refl, .symm, .trans⟩
/-- closed under steps, within -/
def Cld (U : Tab) (N w : Nat) (R : Nat → Nat → Prop) : Prop := ∀ a b j, a < N → b < N → R a b → j < w → R (at2 U a j) (at2 U b j)
def Stay (U : Tab) (N w : Nat) : Prop := ∀ a j, a < N → j < w → at2 U a j < N
theorem Cl.cld {U : Tab} {N w : Nat} {ps : List Pq} : Cld U N w (Cl U w ps) := fun _ _ _ _ _ h hj => h.step hj
theorem Cl.least {U : Tab} {N w : Nat} {ps : List Pq} {R : Nat → Nat → Prop} (hU : Stay U N w) (e : Eqv R) (c : Cld U N w R) (hp : ∀ q ∈ ps, q.1 < N ∧ q.2 < N ∧ R q.1 q.2) {a b : Nat} (g : Cl U w ps a b) : R a b := by
  refine lift_in (N := N) e ?_
  have el := lift_eqv (N := N) e
  induction g with
  | base h => exact .inl (hp _ h)
  | refl a => exact .inr rfl
  | symm _ ih => exact el.sym ih
  | trans _ _ ih1 ih2 => exact el.tr ih1 ih2
  | step _ hj ih =>
    rcases ih with ⟨h1, h2, h3⟩ | h
    · exact .inl ⟨hU _ _ h1 hj, hU _ _ h2 hj, c _ _ _ h1 h2 h3 hj⟩
    · exact h ▸ .inr rfl
/-! ### two are made one -/
structure Jd (f f' : Nat → Nat) (x y : Nat) : Prop where
  mono : ∀ a b, f a = f b → f' a = f' b
  eq : f' x = f' y
  inv : ∀ a b, f' a = f' b → f a = f b ∨ (f a = f x ∧ f b = f y) ∨ (f a = f y ∧ f b = f x)
theorem Jd.of {f f' : Nat → Nat} {x y lo hi : Nat} (h : (lo = f x ∧ hi = f y) ∨ (lo = f y ∧ hi = f x)) (k : ∀ j, f' j = if f j = hi then lo else f j) : Jd f f' x y := by
  have key : ∀ a b, f' a = f' b → f a = f b ∨ (f a = hi ∧ f b = lo) ∨ (f a = lo ∧ f b = hi) := fun a b e => by
    rw [k a, k b] at e
    by_cases h1 : f a = hi
    · rw [if_pos h1] at e
      by_cases h2 : f b = hi
      · exact .inl (h1.trans h2.symm)
      · rw [if_neg h2] at e; exact .inr (.inl ⟨h1, e.symm⟩)
    · rw [if_neg h1] at e
      by_cases h2 : f b = hi
      · rw [if_pos h2] at e; exact .inr (.inr ⟨e, h2⟩)
      · rw [if_neg h2] at e; exact .inl e
  refine ⟨fun a b e => by rw [k a, k b, e], ?_, fun a b e => ?_⟩
  · rw [k x, k y]
    rcases h with ⟨h1, h2⟩ | ⟨h1, h2⟩
    · rw [if_pos h2.symm]
      by_cases e : f x = hi
      · rw [if_pos e]
      · rw [if_neg e]; exact h1.symm
    · rw [if_pos h2.symm]
      by_cases e : f y = hi
      · rw [if_pos e]
      · rw [if_neg e]; exact h1
  · rcases h with ⟨h1, h2⟩ | ⟨h1, h2⟩
    · rcases key a b e with g | ⟨g1, g2⟩ | ⟨g1, g2⟩
      · exact .inl g
      · exact .inr (.inr ⟨g1.trans h2, g2.trans h1⟩)
      · exact .inr (.inl ⟨g1.trans h1, g2.trans h2⟩)
    · rcases key a b e with g | ⟨g1, g2⟩ | ⟨g1, g2⟩
      · exact .inl g
      · exact .inr (.inl ⟨g1.trans h2, g2.trans h1⟩)
      · exact .inr (.inr ⟨g1.trans h1, g2.trans h2⟩)
/-! ### the search -/
section
variable {U : Tab} {N w : Nat} {ps : List Pq}
abbrev GG (f : Nat → Nat) (rest : List Pq) : Nat → Nat → Prop := Gen fun a b => f a = f b ∨ (a, b) ∈ rest
structure Iv (U : Tab) (N w : Nat) (ps : List Pq) (f : Nat → Nat) (rest : List Pq) : Prop where
  lt : ∀ q ∈ rest, q.1 < N ∧ q.2 < N
  sub : ∀ a b, a < N → b < N → f a = f b → Cl U w ps a b
  rsub : ∀ q ∈ rest, Cl U w ps q.1 q.2
  pin : ∀ q ∈ ps, GG f rest q.1 q.2
  st : ∀ a b j, a < N → b < N → f a = f b → j < w → GG f rest (at2 U a j) (at2 U b j)
theorem Iv.start {f : Nat → Nat} (hf : ∀ i, i < N → f i = i) (hp : ∀ q ∈ ps, q.1 < N ∧ q.2 < N) : Iv U N w ps f ps :=
  ⟨hp, fun a b ha hb e => by rw [hf a ha, hf b hb] at e; exact e ▸ .refl a, fun q hq => .base hq, fun q hq => .base (.inr hq), fun a b j ha hb e _ => by rw [hf a ha, hf b hb] at e; exact e ▸ .refl _⟩
theorem Iv.congr {f g : Nat → Nat} {rest : List Pq} (h : Iv U N w ps f rest) (e : ∀ j, g j = f j) : Iv U N w ps g rest := by
  have : g = f := funext e
  rw [this]; exact h
theorem Iv.pop {f : Nat → Nat} {r : List Pq} {x y : Nat} (h : Iv U N w ps f (r ++ [(x, y)])) (e : f x = f y) : Iv U N w ps f r := by
  have key : ∀ a b, GG f (r ++ [(x, y)]) a b → GG f r a b := fun a b g => g.least (Gen.eqv _) fun a b hab => by
    rcases hab with hab | hab
    · exact .base (.inl hab)
    · rcases List.mem_append.mp hab with h2 | h2
      · exact .base (.inr h2)
      · have := List.mem_singleton.mp h2
        cases this
        exact .base (.inl e)
  exact ⟨fun q hq => h.lt q (List.mem_append_left _ hq), h.sub, fun q hq => h.rsub q (List.mem_append_left _ hq), fun q hq => key _ _ (h.pin q hq), fun a b j ha hb hab hj => key _ _ (h.st a b j ha hb hab hj)⟩
theorem Iv.join {f f' : Nat → Nat} {r : List Pq} {x y : Nat} (hU : Stay U N w) (h : Iv U N w ps f (r ++ [(x, y)])) (J : Jd f f' x y) : Iv U N w ps f' (r ++ (List.range w).map fun j => (at2 U x j, at2 U y j)) := by
  obtain ⟨hx, hy⟩ := h.lt (x, y) (by simp)
  have hxy : Cl U w ps x y := h.rsub (x, y) (by simp)
  have key : ∀ a b, GG f (r ++ [(x, y)]) a b → GG f' (r ++ (List.range w).map fun j => (at2 U x j, at2 U y j)) a b := fun a b g => g.least (Gen.eqv _) fun a b hab => by
    rcases hab with hab | hab
    · exact .base (.inl (J.mono _ _ hab))
    · rcases List.mem_append.mp hab with h2 | h2
      · exact .base (.inr (List.mem_append_left _ h2))
      · have := List.mem_singleton.mp h2
        cases this
        exact .base (.inl J.eq)
  have ng : ∀ j, j < w → GG f' (r ++ (List.range w).map fun j => (at2 U x j, at2 U y j)) (at2 U x j) (at2 U y j) := fun j hj => .base (.inr (List.mem_append_right _ (List.mem_map.mpr ⟨j, List.mem_range.mpr hj, rfl⟩)))
  refine ⟨fun q hq => ?_, fun a b ha hb e => ?_, fun q hq => ?_, fun q hq => key _ _ (h.pin q hq), fun a b j ha hb e hj => ?_⟩
  · rcases List.mem_append.mp hq with h2 | h2
    · exact h.lt q (List.mem_append_left _ h2)
    · obtain ⟨j, hj, rfl⟩ := List.mem_map.mp h2
      have hj := List.mem_range.mp hj
      exact ⟨hU _ _ hx hj, hU _ _ hy hj⟩
  · rcases J.inv a b e with g | ⟨g1, g2⟩ | ⟨g1, g2⟩
    · exact h.sub a b ha hb g
    · exact ((h.sub a x ha hx g1).trans hxy).trans (h.sub y b hy hb g2.symm)
    · exact ((h.sub a y ha hy g1).trans hxy.symm).trans (h.sub x b hx hb g2.symm)
  · rcases List.mem_append.mp hq with h2 | h2
    · exact h.rsub q (List.mem_append_left _ h2)
    · obtain ⟨j, hj, rfl⟩ := List.mem_map.mp h2
      exact hxy.step (List.mem_range.mp hj)
  · rcases J.inv a b e with g | ⟨g1, g2⟩ | ⟨g1, g2⟩
    · exact key _ _ (h.st a b j ha hb g hj)
    · exact ((key _ _ (h.st a x j ha hx g1 hj)).trans (ng j hj)).trans (key _ _ (h.st y b j hy hb g2.symm hj))
    · exact ((key _ _ (h.st a y j ha hy g1 hj)).trans (ng j hj).symm).trans (key _ _ (h.st x b j hx hb g2.symm hj))
theorem Iv.done {p : List Nat} (hU : Stay U N w) (hps : ∀ q ∈ ps, q.1 < N ∧ q.2 < N) (v : Vd N p) (h : Iv U N w ps (rt p) []) : IsCls (Cl U w ps) N ((List.range N).map (rt p)) := by
  have e : Eqv fun a b => rt p a = rt p b := eqv_of (rt p)
  have key : ∀ a b, GG (rt p) [] a b → rt p a = rt p b := fun a b g => g.least e fun a b hab => hab.elim id fun z => by cases z
  refine v.cls.congr fun a b ha hb => ⟨h.sub a b ha hb, fun g => g.least hU e (fun a b j ha hb r hj => key _ _ (h.st a b j ha hb r hj)) fun q hq => ⟨(hps q hq).1, (hps q hq).2, key _ _ (h.pin q hq)⟩⟩
end
/-! ### joins -/
def Jn (N : Nat) (R S : Nat → Nat → Prop) : Nat → Nat → Prop := Gen fun a b => a < N ∧ b < N ∧ (R a b ∨ S a b)
theorem Jn.eqv (N : Nat) (R S : Nat → Nat → Prop) : Eqv (Jn N R S) := Gen.eqv _
/-- f joins what the first ones tell -/
structure Jv (N : Nat) (R S : Nat → Nat → Prop) (f : Nat → Nat) (D : List Pq) : Prop where
  sub : ∀ a b, a < N → b < N → f a = f b → Jn N R S a b
  pin : ∀ q ∈ D, f q.1 = f q.2
section
variable {N : Nat} {R S : Nat → Nat → Prop} {f f' : Nat → Nat} {D : List Pq}
theorem Jv.start (hf : ∀ i, i < N → f i = i) : Jv N R S f [] := ⟨fun a b ha hb e => by rw [hf a ha, hf b hb] at e; exact e ▸ .refl a, fun q hq => by cases hq⟩
theorem Jv.congr (h : Jv N R S f D) (e : ∀ j, f' j = f j) : Jv N R S f' D := by rw [show f' = f from funext e]; exact h
theorem Jv.skip (h : Jv N R S f D) {x y : Nat} (e : f x = f y) : Jv N R S f (D ++ [(x, y)]) := ⟨h.sub, fun q hq => by
  rcases List.mem_append.mp hq with h2 | h2
  · exact h.pin q h2
  · rw [List.mem_singleton.mp h2]; exact e⟩
theorem Jv.join (h : Jv N R S f D) {x y : Nat} (hx : x < N) (hy : y < N) (r : R x y ∨ S x y) (J : Jd f f' x y) : Jv N R S f' (D ++ [(x, y)]) := by
  have g : Jn N R S x y := .base ⟨hx, hy, r⟩
  refine ⟨fun a b ha hb e => ?_, fun q hq => ?_⟩
  · rcases J.inv a b e with k | ⟨k1, k2⟩ | ⟨k1, k2⟩
    · exact h.sub a b ha hb k
    · exact ((h.sub a x ha hx k1).trans g).trans (h.sub y b hy hb k2.symm)
    · exact ((h.sub a y ha hy k1).trans g.symm).trans (h.sub x b hx hb k2.symm)
  · rcases List.mem_append.mp hq with h2 | h2
    · exact J.mono _ _ (h.pin q h2)
    · rw [List.mem_singleton.mp h2]; exact J.eq
theorem Jv.done {p c d : List Nat} (v : Vd N p) (eR : Eqv R) (eS : Eqv S) (hc : IsCls R N c) (hd : IsCls S N d) (h : Jv N R S (rt p) D) (h1 : ∀ n, n < N → (n, c.getD n 0) ∈ D) (h2 : ∀ n, n < N → (n, d.getD n 0) ∈ D) : IsCls (Jn N R S) N ((List.range N).map (rt p)) := by
  have e : Eqv fun a b => rt p a = rt p b := eqv_of (rt p)
  refine v.cls.congr fun a b ha hb => ⟨h.sub a b ha hb, fun g => g.least e fun a b ⟨ha, hb, hab⟩ => ?_⟩
  rcases hab with hab | hab
  · have g1 := h.pin _ (h1 a ha)
    have g2 := h.pin _ (h1 b hb)
    have g3 := (hc.same eR ha hb).mpr hab
    dsimp only at g1 g2
    rw [g1, g2, g3]
  · have g1 := h.pin _ (h2 a ha)
    have g2 := h.pin _ (h2 b hb)
    have g3 := (hd.same eS ha hb).mpr hab
    dsimp only at g1 g2
    rw [g1, g2, g3]
/-- joined with a coarser one -/
theorem Jn.coarser (eS : Eqv S) : (∀ a b, a < N → b < N → (Jn N R S a b ↔ S a b)) ↔ ∀ a b, a < N → b < N → R a b → S a b :=
  ⟨fun h a b ha hb r => (h a b ha hb).mp (.base ⟨ha, hb, .inl r⟩), fun h a b ha hb => ⟨fun g => g.least eS fun a b ⟨ha, hb, k⟩ => k.elim (h a b ha hb) id, fun s => .base ⟨ha, hb, .inr s⟩⟩⟩
end
/-! ### the greatest one within parts -/
def go (U : Tab) (a : Nat) (js : List Nat) : Nat := js.foldl (at2 U) a
section
variable {U : Tab} {N w : Nat} {P : Nat → Int}
theorem go_snoc (a : Nat) (js : List Nat) (j : Nat) : go U a (js ++ [j]) = at2 U (go U a js) j := by unfold go; rw [List.foldl_append]; rfl
theorem go_cons (a j : Nat) (js : List Nat) : go U a (j :: js) = go U (at2 U a j) js := rfl
theorem go_lt (hU : Stay U N w) {a : Nat} (ha : a < N) : ∀ {js : List Nat}, (∀ j ∈ js, j < w) → go U a js < N := by
  intro js
  induction js generalizing a with
  | nil => intro _; exact ha
  | cons j js ih => intro h; exact ih (hU _ _ ha (h j List.mem_cons_self)) fun k hk => h k (List.mem_cons_of_mem _ hk)
def GR (U : Tab) (w : Nat) (P : Nat → Int) (a b : Nat) : Prop := ∀ js : List Nat, (∀ j ∈ js, j < w) → P (go U a js) = P (go U b js)
theorem GR.eqv (U : Tab) (w : Nat) (P : Nat → Int) : Eqv (GR U w P) := ⟨fun a js _ => rfl, fun h js hj => (h js hj).symm, fun h k js hj => (h js hj).trans (k js hj)⟩
theorem GR.cld : Cld U N w (GR U w P) := fun a b j _ _ h hj js hjs => by
  have := h (j :: js) fun k hk => (List.mem_cons.mp hk).elim (fun e => e ▸ hj) (hjs k)
  rw [go_cons, go_cons] at this; exact this
theorem GR.in {a b : Nat} (h : GR U w P a b) : P a = P b := h [] fun j hj => by cases hj
theorem GR.most {R : Nat → Nat → Prop} (hU : Stay U N w) (c : Cld U N w R) (hp : ∀ a b, a < N → b < N → R a b → P a = P b) {a b : Nat} (ha : a < N) (hb : b < N) (h : R a b) : GR U w P a b := fun js hj => by
  have key : ∀ js : List Nat, (∀ j ∈ js, j < w) → ∀ a b, a < N → b < N → R a b → P (go U a js) = P (go U b js) := by
    intro js
    induction js with
    | nil => intro _ a b ha hb h; exact hp a b ha hb h
    | cons j js ih =>
      intro hj a b ha hb h
      have hj0 := hj j List.mem_cons_self
      rw [go_cons, go_cons]
      exact ih (fun k hk => hj k (List.mem_cons_of_mem _ hk)) _ _ (hU _ _ ha hj0) (hU _ _ hb hj0) (c _ _ _ ha hb h hj0)
  exact key js hj a b ha hb h
/-- one turn more -/
def finer (U : Tab) (w : Nat) (R : Nat → Nat → Prop) (a b : Nat) : Prop := R a b ∧ ∀ j, j < w → R (at2 U a j) (at2 U b j)
theorem finer_eqv {R : Nat → Nat → Prop} (e : Eqv R) : Eqv (finer U w R) := ⟨fun a => ⟨e.rfl' a, fun j _ => e.rfl' _⟩, fun h => ⟨e.sym h.1, fun j hj => e.sym (h.2 j hj)⟩, fun h k => ⟨e.tr h.1 k.1, fun j hj => e.tr (h.2 j hj) (k.2 j hj)⟩⟩
/-- the turns: between the greatest and the parts -/
structure Rv (U : Tab) (N w : Nat) (P : Nat → Int) (R : Nat → Nat → Prop) : Prop where
  eqv : Eqv R
  big : ∀ a b, a < N → b < N → GR U w P a b → R a b
  inP : ∀ a b, a < N → b < N → R a b → P a = P b
theorem Rv.start : Rv U N w P fun a b => P a = P b := ⟨eqv_of P, fun a b _ _ h => h.in, fun a b _ _ h => h⟩
theorem Rv.next {R : Nat → Nat → Prop} (hU : Stay U N w) (h : Rv U N w P R) : Rv U N w P (finer U w R) :=
  ⟨finer_eqv h.eqv, fun a b ha hb g => ⟨h.big a b ha hb g, fun j hj => h.big _ _ (hU _ _ ha hj) (hU _ _ hb hj) (GR.cld a b j ha hb g hj)⟩, fun a b ha hb g => h.inP a b ha hb g.1⟩
theorem Rv.done {R : Nat → Nat → Prop} {c d : List Nat} (hU : Stay U N w) (h : Rv U N w P R) (hc : IsCls R N c) (hd : IsCls (finer U w R) N d) (e : d = c) : IsCls (GR U w P) N c := by
  have k := (hd.eq_iff hc (finer_eqv h.eqv) h.eqv).mp e
  exact hc.congr fun a b ha hb => ⟨fun r => GR.most hU (fun a b j ha hb r hj => ((k a b ha hb).mpr r).2 j hj) h.inP ha hb r, h.big a b ha hb⟩
theorem sum_le_of : ∀ {c d : List Nat}, c.length = d.length → (∀ n, n < c.length → c.getD n 0 ≤ d.getD n 0) → c.sum ≤ d.sum
  | [], [], _, _ => Nat.le_refl _
  | x :: c, y :: d, hl, h => by
    have h0 : x ≤ y := h 0 (by simp)
    have h1 := sum_le_of (c := c) (d := d) (Nat.succ.inj hl) fun n hn => h (n + 1) (by simp; omega)
    rw [List.sum_cons, List.sum_cons]; omega
theorem sum_lt_of : ∀ {c d : List Nat}, c.length = d.length → (∀ n, n < c.length → c.getD n 0 ≤ d.getD n 0) → c ≠ d → c.sum < d.sum
  | [], [], _, _, h => absurd rfl h
  | x :: c, y :: d, hl, h, hne => by
    have h0 : x ≤ y := h 0 (by simp)
    have ht : ∀ n, n < c.length → c.getD n 0 ≤ d.getD n 0 := fun n hn => h (n + 1) (by simp; omega)
    rw [List.sum_cons, List.sum_cons]
    by_cases e : c = d
    · have : x ≠ y := fun z => hne (by rw [z, e])
      rw [e]; omega
    · have h1 := sum_lt_of (Nat.succ.inj hl) ht e
      omega
theorem sum_bound : ∀ {c : List Nat} {N : Nat}, (∀ x ∈ c, x < N) → c.sum ≤ c.length * N
  | [], N, _ => by simp
  | x :: c, N, h => by
    have h1 := sum_bound fun y hy => h y (List.mem_cons_of_mem _ hy)
    have h2 := h x List.mem_cons_self
    rw [List.sum_cons, List.length_cons, Nat.succ_mul]; omega
theorem Rv.grow {R : Nat → Nat → Prop} {c d : List Nat} (h : Rv U N w P R) (hc : IsCls R N c) (hd : IsCls (finer U w R) N d) (e : d ≠ c) : c.sum < d.sum := by
  refine sum_lt_of (by rw [hc.len, hd.len]) (fun n hn => ?_) fun z => e z.symm
  rw [hc.len] at hn
  exact hc.le n hn _ (hd.lt n hn) (hd.rel n hn).1
theorem IsCls.sum_le {R : Nat → Nat → Prop} {c : List Nat} (h : IsCls R N c) : c.sum ≤ N * N := by
  have := sum_bound (c := c) (N := N) fun x hx => by
    obtain ⟨i, hi, rfl⟩ := List.mem_iff_getElem.mp hx
    have := h.lt i (by rw [← h.len]; exact hi)
    rw [List.getD_eq_getElem?_getD, List.getElem?_eq_getElem hi] at this; exact this
  rw [h.len] at this; exact this
end
end Cgr
/-! The steps of a monoid; what is alike on both sides; chains. -/
namespace Cgr
open Mon
section
variable {T : Tab} {m N : Nat}
/-- right steps, then left ones -/
def stp (T : Tab) (m N : Nat) : Tab := (List.range N).map fun n => T.getD n [] ++ Lf T m N n
theorem stp_row {n : Nat} (h : n < N) : (stp T m N).getD n [] = T.getD n [] ++ Lf T m N n := by
  unfold stp
  rw [List.getD_eq_getElem?_getD, List.getElem?_map, List.getElem?_range h]; rfl
theorem stp_len (g : Good T m N) {n : Nat} (h : n < N) : ((stp T m N).getD n []).length = 2 * m := by
  rw [stp_row h, List.length_append, g.row n h, g.Lf_len n h]; omega
theorem stp_r (g : Good T m N) {n j : Nat} (h : n < N) (hj : j < m) : at2 (stp T m N) n j = at2 T n j := by
  unfold at2
  rw [stp_row h, List.getD_eq_getElem?_getD, List.getElem?_append_left (by rw [g.row n h]; exact hj), ← List.getD_eq_getElem?_getD]
theorem stp_l (g : Good T m N) {n j : Nat} (h : n < N) : at2 (stp T m N) n (m + j) = (Lf T m N n).getD j 0 := by
  unfold at2
  rw [stp_row h, List.getD_eq_getElem?_getD, List.getElem?_append_right (by rw [g.row n h]; omega), g.row n h, show m + j - m = j by omega, ← List.getD_eq_getElem?_getD]
theorem stp_stay (g : Good T m N) : Stay (stp T m N) N (2 * m) := fun a j ha hj => by
  by_cases h : j < m
  · rw [stp_r g ha h]; exact g.lt a j ha h
  · obtain ⟨i, rfl⟩ : ∃ i, j = m + i := ⟨j - m, by omega⟩
    rw [stp_l g ha]
    have hi : i < (Lf T m N a).length := by rw [g.Lf_len a ha]; omega
    refine g.Lf_lt ha _ ?_
    rw [List.getD_eq_getElem?_getD, List.getElem?_eq_getElem hi]
    exact List.getElem_mem hi
/-- products by words -/
def mulT (T : Tab) (m N n k : Nat) : Nat := run T n (W T m N k)
theorem Lt_app {u v : List Nat} (hu : Lt m u) (hv : Lt m v) : Lt m (u ++ v) := fun c hc => (List.mem_append.mp hc).elim (hu c) (hv c)
theorem lcong (g : Good T m N) (p : Prod T m N) {v v' : List Nat} (hv : Lt m v) (hv' : Lt m v') (e : run T 0 v = run T 0 v') : ∀ u, Lt m u → run T 0 (u ++ v) = run T 0 (u ++ v')
  | [], _ => e
  | c :: u, h => by
    have hc := h c List.mem_cons_self
    have hu : Lt m u := fun x hx => h x (List.mem_cons_of_mem _ hx)
    obtain ⟨a, rfl⟩ : ∃ a, c = 97 + a := ⟨c - 97, by omega⟩
    have ha : a < m := by omega
    show run T 0 ((97 + a) :: (u ++ v)) = run T 0 ((97 + a) :: (u ++ v'))
    rw [g.cong p ha _ (Lt_app hu hv), g.cong p ha _ (Lt_app hu hv'), lcong g p hv hv' e u hu]
theorem go_word (g : Good T m N) (p : Prod T m N) (js : List Nat) : (∀ j ∈ js, j < 2 * m) → ∃ u v, Lt m u ∧ Lt m v ∧ ∀ a, a < N → go (stp T m N) a js = run T 0 (u ++ W T m N a ++ v) := by
  refine rev_ind (P := fun js => (∀ j ∈ js, j < 2 * m) → ∃ u v, Lt m u ∧ Lt m v ∧ ∀ a, a < N → go (stp T m N) a js = run T 0 (u ++ W T m N a ++ v)) ?_ ?_ js
  · intro _
    exact ⟨[], [], (fun c hc => by cases hc), (fun c hc => by cases hc), fun a ha => by rw [List.nil_append, List.append_nil, g.runW a ha]; rfl⟩
  · intro js j ih h
    obtain ⟨u, v, hu, hv, e⟩ := ih fun k hk => h k (List.mem_append_left _ hk)
    have hj := h j (by simp)
    by_cases hm : j < m
    · refine ⟨u, v ++ [97 + j], hu, Lt_app hv (fun c hc => by rw [List.mem_singleton.mp hc]; omega), fun a ha => ?_⟩
      have hlt := g.run_lt _ (Lt_app (Lt_app hu (g.ltW a ha)) hv)
      rw [go_snoc, e a ha, stp_r g hlt hm, ← List.append_assoc, run_snoc, show 97 + j - 97 = j by omega]
    · obtain ⟨i, rfl⟩ : ∃ i, j = m + i := ⟨j - m, by omega⟩
      refine ⟨(97 + i) :: u, v, (fun c hc => (List.mem_cons.mp hc).elim (fun e => by omega) (hu c)), hv, fun a ha => ?_⟩
      have hw := Lt_app (Lt_app hu (g.ltW a ha)) hv
      have hlt := g.run_lt _ hw
      rw [go_snoc, e a ha, stp_l g hlt]
      exact (g.cong p (by omega) _ hw).symm
theorem word_go (g : Good T m N) (p : Prod T m N) {u : List Nat} (hu : Lt m u) (v : List Nat) : Lt m v → ∃ js, (∀ j ∈ js, j < 2 * m) ∧ ∀ a, a < N → go (stp T m N) a js = run T 0 (u ++ W T m N a ++ v) := by
  have h0 : ∀ u, Lt m u → ∃ js, (∀ j ∈ js, j < 2 * m) ∧ ∀ a, a < N → go (stp T m N) a js = run T 0 (u ++ W T m N a) := by
    intro u
    induction u with
    | nil => intro _; exact ⟨[], (fun j hj => by cases hj), fun a ha => by rw [List.nil_append, g.runW a ha]; rfl⟩
    | cons c u ih =>
      intro h
      have hc := h c List.mem_cons_self
      have hu : Lt m u := fun x hx => h x (List.mem_cons_of_mem _ hx)
      obtain ⟨js, h1, h2⟩ := ih hu
      obtain ⟨a0, rfl⟩ : ∃ a, c = 97 + a := ⟨c - 97, by omega⟩
      refine ⟨js ++ [m + a0], fun j hj => ?_, fun a ha => ?_⟩
      · rcases List.mem_append.mp hj with h3 | h3
        · exact h1 j h3
        · rw [List.mem_singleton.mp h3]; omega
      · have hw := Lt_app hu (g.ltW a ha)
        rw [go_snoc, h2 a ha, stp_l g (g.run_lt _ hw)]
        exact (g.cong p (by omega) _ hw).symm
  refine rev_ind (P := fun v => Lt m v → ∃ js, (∀ j ∈ js, j < 2 * m) ∧ ∀ a, a < N → go (stp T m N) a js = run T 0 (u ++ W T m N a ++ v)) ?_ ?_ v
  · intro _
    obtain ⟨js, h1, h2⟩ := h0 u hu
    exact ⟨js, h1, fun a ha => by rw [h2 a ha, List.append_nil]⟩
  · intro v c ih h
    have hv : Lt m v := fun x hx => h x (List.mem_append_left _ hx)
    have hc := h c (by simp)
    obtain ⟨js, h1, h2⟩ := ih hv
    refine ⟨js ++ [c - 97], fun j hj => ?_, fun a ha => ?_⟩
    · rcases List.mem_append.mp hj with h3 | h3
      · exact h1 j h3
      · rw [List.mem_singleton.mp h3]; omega
    · have hlt := g.run_lt _ (Lt_app (Lt_app hu (g.ltW a ha)) hv)
      rw [go_snoc, h2 a ha, stp_r g hlt (by omega), ← List.append_assoc, run_snoc]
theorem mul_word (g : Good T m N) (p : Prod T m N) {u v : List Nat} (hu : Lt m u) (hv : Lt m v) {a : Nat} (ha : a < N) : run T 0 (u ++ W T m N a ++ v) = mulT T m N (mulT T m N (run T 0 u) a) (run T 0 v) := by
  unfold mulT
  rw [← run_app, ← run_app, ← List.append_assoc]
  have hr := g.run_lt v hv
  exact lcong g p hv (g.ltW _ hr) (g.runW _ hr).symm _ (Lt_app hu (g.ltW a ha))
/-- alike on both sides -/
def DR (T : Tab) (m N : Nat) (P : Nat → Int) (a b : Nat) : Prop := ∀ l r, l < N → r < N → P (mulT T m N (mulT T m N l a) r) = P (mulT T m N (mulT T m N l b) r)
theorem DR.eqv (T : Tab) (m N : Nat) (P : Nat → Int) : Eqv (DR T m N P) := ⟨fun a l r _ _ => rfl, fun h l r hl hr => (h l r hl hr).symm, fun h k l r hl hr => (h l r hl hr).trans (k l r hl hr)⟩
theorem DR.iff (g : Good T m N) (p : Prod T m N) {P : Nat → Int} {a b : Nat} (ha : a < N) (hb : b < N) : DR T m N P a b ↔ GR (stp T m N) (2 * m) P a b := by
  constructor
  · intro h js hj
    obtain ⟨u, v, hu, hv, e⟩ := go_word g p js hj
    rw [e a ha, e b hb, mul_word g p hu hv ha, mul_word g p hu hv hb]
    exact h _ _ (g.run_lt u hu) (g.run_lt v hv)
  · intro h l r hl hr
    obtain ⟨js, hj, e⟩ := word_go g p (g.ltW l hl) (W T m N r) (g.ltW r hr)
    have := h js hj
    rw [e a ha, e b hb, mul_word g p (g.ltW l hl) (g.ltW r hr) ha, mul_word g p (g.ltW l hl) (g.ltW r hr) hb, g.runW l hl, g.runW r hr] at this
    exact this
end
/-! ### chains -/
def chn (S : Nat) : Tab := (List.range S).map fun n => [min (n + 1) (S - 1)]
section
variable {S : Nat}
theorem chn_at {n : Nat} (h : n < S) : at2 (chn S) n 0 = min (n + 1) (S - 1) := by
  unfold at2 chn
  rw [List.getD_eq_getElem?_getD (l := (List.range S).map _), List.getElem?_map, List.getElem?_range h]; rfl
theorem chn_tr : ∀ n, n < S → (trT (chn S) 1 n).length = n + 1
  | 0, _ => rfl
  | n + 1, h => by
    have ih := chn_tr n (by omega)
    show (trR (chn S) n 1 (trT (chn S) 1 n)).length = _
    have e : trR (chn S) n 1 (trT (chn S) 1 n) = (if at2 (chn S) n 0 = (trT (chn S) 1 n).length then trT (chn S) 1 n ++ [(n, 0)] else trT (chn S) 1 n) := rfl
    rw [e, chn_at (by omega), ih, if_pos (by omega), List.length_append, ih]; rfl
theorem chn_good (h : 0 < S) : Good (chn S) 1 S := by
  refine ⟨h, fun n hn => ⟨by rw [chn_tr n hn]; omega, fun j hj => ?_⟩, fun n l hn hl => ?_, fun n hn => ?_⟩
  · obtain rfl : j = 0 := by omega
    show at2 (chn S) n 0 ≤ (trT (chn S) 1 n).length
    rw [chn_at hn, chn_tr n hn]; omega
  · obtain rfl : l = 0 := by omega
    rw [chn_at hn]; omega
  · unfold chn
    rw [List.getD_eq_getElem?_getD, List.getElem?_map, List.getElem?_range hn]; rfl
theorem chn_run (w : List Nat) : Lt 1 w → ∀ k, k < S → run (chn S) k w = min (k + w.length) (S - 1) := by
  induction w with
  | nil => intro _ k hk; show k = _; simp; omega
  | cons c w ih =>
    intro h k hk
    have hc := h c List.mem_cons_self
    have : run (chn S) k (c :: w) = run (chn S) (at2 (chn S) k (c - 97)) w := rfl
    rw [this, show c - 97 = 0 by omega, chn_at hk, ih (fun x hx => h x (List.mem_cons_of_mem _ hx)) _ (by omega), List.length_cons]
    omega
theorem chn_prod (h : 0 < S) : Prod (chn S) 1 S := by
  have g := chn_good h
  refine g.prod_of fun a n l ha hn hl => ?_
  obtain rfl : a = 0 := by omega
  obtain rfl : l = 0 := by omega
  have key : ∀ n, n < S → run (chn S) 0 ((97 + 0) :: W (chn S) 1 S n) = min (n + 1) (S - 1) := fun n hn => by
    have h1 := g.runW n hn
    have h2 := chn_run (W (chn S) 1 S n) (g.ltW n hn) 0 h
    rw [h1] at h2
    rw [chn_run _ (fun c hc => (List.mem_cons.mp hc).elim (fun e => by omega) (g.ltW n hn c)) 0 h, List.length_cons]
    omega
  have hl2 : at2 (chn S) n 0 < S := g.lt n 0 hn (by omega)
  rw [key _ hl2, key n hn, chn_at hn, chn_at (by omega)]
/-- each is apart from each -/
theorem chn_apart (h : 0 < S) {P : Nat → Int} (hP : ∀ n, n < S - 1 → P n ≠ P (S - 1)) {a b : Nat} (ha : a < S) (hb : b < S) (r : GR (stp (chn S) 1 S) (2 * 1) P a b) : a = b := by
  have g := chn_good h
  have key : ∀ k a, a < S → go (stp (chn S) 1 S) a (List.replicate k 0) = min (a + k) (S - 1) := by
    intro k
    induction k with
    | zero => intro a ha; show a = _; omega
    | succ k ih =>
      intro a ha
      rw [List.replicate_succ, go_cons, stp_r g ha (by omega), chn_at ha, ih _ (by omega)]; omega
  have f : ∀ k, P (min (a + k) (S - 1)) = P (min (b + k) (S - 1)) := fun k => by
    have := r (List.replicate k 0) fun j hj => by rw [List.eq_of_mem_replicate hj]; decide
    rw [key k a ha, key k b hb] at this; exact this
  rcases Nat.lt_trichotomy a b with h1 | h1 | h1
  · have := f (S - 1 - b)
    rw [show min (b + (S - 1 - b)) (S - 1) = S - 1 by omega, show min (a + (S - 1 - b)) (S - 1) = a + (S - 1 - b) by omega] at this
    exact absurd this (hP _ (by omega))
  · exact h1
  · have := f (S - 1 - a)
    rw [show min (a + (S - 1 - a)) (S - 1) = S - 1 by omega, show min (b + (S - 1 - a)) (S - 1) = b + (S - 1 - a) by omega] at this
    exact absurd this.symm (hP _ (by omega))
end
end Cgr
/-! Rings of numbers, their congruences; chains. -/
namespace Cgr
open Mon
/-! ### rings -/
def rg (S m : Nat) : Tab := (List.range S).map fun k => (List.range m).map fun s => (k + s + 1) % S
section
variable {S m : Nat}
theorem rg_row {n : Nat} (h : n < S) : (rg S m).getD n [] = (List.range m).map fun s => (n + s + 1) % S := by
  unfold rg
  rw [List.getD_eq_getElem?_getD, List.getElem?_map, List.getElem?_range h]; rfl
theorem rg_at {n l : Nat} (h : n < S) (hl : l < m) : at2 (rg S m) n l = (n + l + 1) % S := by
  unfold at2
  rw [rg_row h, List.getD_eq_getElem?_getD, List.getElem?_map, List.getElem?_range hl]; rfl
def lenR (S m n : Nat) : Nat := if n = 0 then 1 else min S (n + m)
theorem lenR_cases (S m n : Nat) : (lenR S m n = 1 ∧ n = 0) ∨ (lenR S m n = min S (n + m) ∧ n ≠ 0) := by
  unfold lenR
  by_cases h : n = 0
  · rw [if_pos h]; exact .inl ⟨rfl, h⟩
  · rw [if_neg h]; exact .inr ⟨rfl, h⟩
theorem rg_trR (hS : 0 < S) (hm : 1 ≤ m) {n : Nat} (hn : n < S) {a : List (Nat × Nat)} (ha : a.length = lenR S m n) : ∀ j, j ≤ m → (trR (rg S m) n j a).length = max (lenR S m n) (min S (n + j + 1))
  | 0, _ => by
    show a.length = _
    rw [ha]
    have := lenR_cases S m n
    omega
  | j + 1, hj => by
    have ih := rg_trR hS hm hn ha j (by omega)
    show (if at2 (rg S m) n j = (trR (rg S m) n j a).length then trR (rg S m) n j a ++ [(n, j)] else trR (rg S m) n j a).length = _
    have hv := rg_at (m := m) hn (show j < m by omega)
    have hL2 := lenR_cases S m n
    by_cases h : n + j + 1 < S
    · rw [Nat.mod_eq_of_lt h] at hv
      by_cases e : at2 (rg S m) n j = (trR (rg S m) n j a).length
      · rw [if_pos e, List.length_append, List.length_singleton, ih]; rw [hv, ih] at e; omega
      · rw [if_neg e, ih]; rw [hv, ih] at e; omega
    · have hlt : (n + j + 1) % S < S := Nat.mod_lt _ hS
      rw [if_neg (by rw [hv, ih]; omega), ih]; omega
theorem rg_trT (hS : 0 < S) (hm : 1 ≤ m) : ∀ n, n ≤ S → (trT (rg S m) m n).length = lenR S m n
  | 0, _ => rfl
  | n + 1, h => by
    have ih := rg_trT hS hm n (by omega)
    show (trR (rg S m) n m (trT (rg S m) m n)).length = _
    rw [rg_trR hS hm (by omega) ih m (Nat.le_refl _)]
    have h1 := lenR_cases S m n
    have h2 := lenR_cases S m (n + 1)
    omega
theorem rg_good (hS : 0 < S) (hm : 1 ≤ m) : Good (rg S m) m S := by
  refine ⟨hS, fun n hn => ⟨?_, fun j hj => ?_⟩, fun n l hn hl => ?_, fun n hn => ?_⟩
  · rw [rg_trT hS hm n (by omega)]; have := lenR_cases S m n; omega
  · rw [rg_at hn hj, rg_trR hS hm hn (rg_trT hS hm n (by omega)) j (by omega)]
    by_cases h : n + j + 1 < S
    · rw [Nat.mod_eq_of_lt h]; omega
    · have := Nat.mod_lt (n + j + 1) hS; omega
  · rw [rg_at hn hl]; exact Nat.mod_lt _ hS
  · rw [rg_row hn]; simp
/-- what a word adds -/
def sm (w : List Nat) : Nat := (w.map fun c => c - 97 + 1).sum
theorem rg_run (hS : 0 < S) : ∀ (w : List Nat), Lt m w → ∀ k, k < S → run (rg S m) k w = (k + sm w) % S
  | [], _, k, hk => by show k = (k + 0) % S; rw [Nat.add_zero, Nat.mod_eq_of_lt hk]
  | c :: w, h, k, hk => by
    have hc := h c List.mem_cons_self
    have e : run (rg S m) k (c :: w) = run (rg S m) (at2 (rg S m) k (c - 97)) w := rfl
    have hsm : sm (c :: w) = (c - 97 + 1) + sm w := by unfold sm; rw [List.map_cons, List.sum_cons]
    rw [e, rg_at hk (by omega), rg_run hS w (fun x hx => h x (List.mem_cons_of_mem _ hx)) _ (Nat.mod_lt _ hS), hsm, Nat.mod_add_mod]
    congr 1; omega
theorem rg_W (hS : 0 < S) (hm : 1 ≤ m) {n : Nat} (hn : n < S) : sm (W (rg S m) m S n) % S = n := by
  have g := rg_good hS hm
  have h1 := g.runW n hn
  rw [rg_run hS _ (g.ltW n hn) 0 hS, Nat.zero_add] at h1
  exact h1
theorem rg_left (hS : 0 < S) (hm : 1 ≤ m) {n a : Nat} (hn : n < S) (ha : a < m) : run (rg S m) 0 ((97 + a) :: W (rg S m) m S n) = (n + a + 1) % S := by
  have g := rg_good hS hm
  rw [rg_run hS _ (fun c hc => (List.mem_cons.mp hc).elim (fun e => by omega) (g.ltW n hn c)) 0 hS]
  have hsm : sm ((97 + a) :: W (rg S m) m S n) = (97 + a - 97 + 1) + sm (W (rg S m) m S n) := by unfold sm; rw [List.map_cons, List.sum_cons]
  rw [hsm, show 0 + (97 + a - 97 + 1 + sm (W (rg S m) m S n)) = (a + 1) + sm (W (rg S m) m S n) by omega, Nat.add_mod, rg_W hS hm hn]
  have h2 : n % S = n := Nat.mod_eq_of_lt hn
  rw [show n + a + 1 = (a + 1) + n by omega, Nat.add_mod (a + 1) n, h2]
theorem rg_prod (hS : 0 < S) (hm : 1 ≤ m) : Prod (rg S m) m S := by
  have g := rg_good hS hm
  refine g.prod_of fun a n l ha hn hl => ?_
  have h1 : at2 (rg S m) n l < S := g.lt n l hn hl
  rw [rg_left hS hm h1 ha, rg_left hS hm hn ha, rg_at (Nat.mod_lt _ hS) hl, rg_at hn hl]
  rw [show (n + l + 1) % S + a + 1 = (n + l + 1) % S + (a + 1) by omega, show (n + a + 1) % S + l + 1 = (n + a + 1) % S + (l + 1) by omega, Nat.mod_add_mod, Nat.mod_add_mod]
  congr 1; omega
theorem rg_Lf (hS : 0 < S) (hm : 1 ≤ m) {n a : Nat} (hn : n < S) (ha : a < m) : (Lf (rg S m) m S n).getD a 0 = (n + a + 1) % S := by
  rw [(rg_good hS hm).Lf_run n hn a ha, rg_left hS hm hn ha]
/-- each step adds a number -/
theorem rg_step (hS : 0 < S) (hm : 1 ≤ m) {n j : Nat} (hn : n < S) (hj : j < 2 * m) : ∃ s, at2 (stp (rg S m) m S) n j = (n + s) % S ∧ (j = 0 → s = 1) ∧ ∀ n', n' < S → at2 (stp (rg S m) m S) n' j = (n' + s) % S := by
  have g := rg_good hS hm
  by_cases h : j < m
  · refine ⟨j + 1, by rw [stp_r g hn h, rg_at hn h, Nat.add_assoc], fun e => by omega, fun n' hn' => by rw [stp_r g hn' h, rg_at hn' h, Nat.add_assoc]⟩
  · obtain ⟨i, rfl⟩ : ∃ i, j = m + i := ⟨j - m, by omega⟩
    refine ⟨i + 1, by rw [stp_l g hn, rg_Lf hS hm hn (by omega), Nat.add_assoc], fun e => by omega, fun n' hn' => by rw [stp_l g hn', rg_Lf hS hm hn' (by omega), Nat.add_assoc]⟩
/-- x more is the same -/
def Qs (S m : Nat) (ps : List Pq) (x : Nat) : Prop := ∀ a, a < S → Cl (stp (rg S m) m S) (2 * m) ps a ((a + x) % S)
theorem Qs.first (hS : 0 < S) (hm : 1 ≤ m) {ps : List Pq} {x : Nat} (hx : x < S) (h : Cl (stp (rg S m) m S) (2 * m) ps 0 x) : Qs S m ps x := fun a => by
  induction a with
  | zero => intro _; rw [Nat.zero_add, Nat.mod_eq_of_lt hx]; exact h
  | succ a ih =>
    intro ha
    have h1 := (ih (by omega)).step (j := 0) (show 0 < 2 * m by omega)
    obtain ⟨s, e1, e2, e3⟩ := rg_step hS hm (show a < S by omega) (show 0 < 2 * m by omega)
    have hs := e2 rfl
    subst hs
    rw [e1, e3 _ (Nat.mod_lt _ hS), Nat.mod_eq_of_lt ha, Nat.mod_add_mod] at h1
    rw [show a + 1 + x = a + x + 1 by omega]; exact h1
theorem Qs.add (hS : 0 < S) {ps : List Pq} {x y : Nat} (h : Qs S m ps x) (k : Qs S m ps y) : Qs S m ps (x + y) := fun a ha => by
  have h1 := k _ (Nat.mod_lt (a + x) hS)
  rw [Nat.mod_add_mod] at h1
  rw [← Nat.add_assoc]
  exact (h a ha).trans h1
theorem Qs.sub (hS : 0 < S) {ps : List Pq} {x y : Nat} (h : Qs S m ps x) (k : Qs S m ps y) (hyx : y ≤ x) : Qs S m ps (x - y) := fun a ha => by
  -- b + y is a
  have hb : (a + (S - y % S)) % S < S := Nat.mod_lt _ hS
  have hy := Nat.mod_lt y hS
  have e1 : ((a + (S - y % S)) % S + y) % S = a := by
    rw [Nat.mod_add_mod, ← Nat.add_mod_mod, show a + (S - y % S) + y % S = a + S by omega, Nat.add_mod_right, Nat.mod_eq_of_lt ha]
  have h1 := k _ hb
  rw [e1] at h1
  have h2 := h _ hb
  have e2 : ((a + (S - y % S)) % S + x) % S = (a + (x - y)) % S := by
    rw [show x = y + (x - y) by omega, ← Nat.add_assoc, ← Nat.mod_add_mod ((a + (S - y % S)) % S + y), e1, show y + (x - y) - y = x - y by omega]
  rw [e2] at h2
  exact h1.symm.trans h2
theorem Qs.mod (hS : 0 < S) {ps : List Pq} {y : Nat} (k : Qs S m ps y) (hy : 0 < y) : ∀ x, Qs S m ps x → Qs S m ps (x % y) := fun x => by
  induction x using Nat.strongRecOn with
  | _ x ih =>
    intro h
    by_cases e : x < y
    · rw [Nat.mod_eq_of_lt e]; exact h
    · rw [Nat.mod_eq_sub_mod (by omega)]
      exact ih (x - y) (by omega) (h.sub hS k (by omega))
theorem Qs.gcd (hS : 0 < S) {ps : List Pq} : ∀ x y, Qs S m ps x → Qs S m ps y → Qs S m ps (Nat.gcd x y) := fun x => by
  induction x using Nat.strongRecOn with
  | _ x ih =>
    intro y h k
    by_cases e : x = 0
    · subst e; rw [Nat.gcd_zero_left]; exact k
    · rw [Nat.gcd_rec]
      exact ih (y % x) (Nat.mod_lt _ (by omega)) x (Qs.mod hS h (by omega) y k) h
theorem Qs.zero (hS : 0 < S) {ps : List Pq} : Qs S m ps S := fun a ha => by rw [Nat.add_mod_right, Nat.mod_eq_of_lt ha]; exact .refl a
theorem Qs.mul (hS : 0 < S) {ps : List Pq} {x : Nat} (h : Qs S m ps x) : ∀ k, Qs S m ps (k * x)
  | 0 => fun a ha => by rw [Nat.zero_mul, Nat.add_zero, Nat.mod_eq_of_lt ha]; exact .refl a
  | k + 1 => by rw [Nat.succ_mul]; exact (Qs.mul hS h k).add hS h
theorem rg_cl (hS : 0 < S) (hm : 1 ≤ m) {st : Nat} (hst : st < S) {a b : Nat} (ha : a < S) (hb : b < S) : Cl (stp (rg S m) m S) (2 * m) [(0, st)] a b ↔ a % Nat.gcd st S = b % Nat.gcd st S := by
  have g := rg_good hS hm
  have hd := Nat.gcd_dvd_right st S
  have hd1 := Nat.gcd_dvd_left st S
  constructor
  · intro h
    refine Cl.least (stp_stay g) (eqv_of fun a => a % Nat.gcd st S) (fun a b j ha hb r hj => ?_) (fun q hq => ?_) h
    · obtain ⟨s, e1, _, e3⟩ := rg_step hS hm ha hj
      show at2 _ a j % _ = at2 _ b j % _
      rw [e1, e3 b hb, Nat.mod_mod_of_dvd _ hd, Nat.mod_mod_of_dvd _ hd, Nat.add_mod, show a % Nat.gcd st S = b % Nat.gcd st S from r, ← Nat.add_mod]
    · rw [List.mem_singleton.mp hq]
      refine ⟨hS, hst, ?_⟩
      show 0 % _ = st % _
      rw [Nat.zero_mod, Nat.mod_eq_zero_of_dvd hd1]
  · intro h
    have q0 : Qs S m [(0, st)] st := Qs.first hS hm hst (.base (List.mem_singleton.mpr rfl))
    have qg := Qs.gcd hS st S q0 (Qs.zero hS)
    have key : ∀ a b, a < S → b < S → a ≤ b → a % Nat.gcd st S = b % Nat.gcd st S → Cl (stp (rg S m) m S) (2 * m) [(0, st)] a b := fun a b ha hb hab h => by
      have hdv : Nat.gcd st S ∣ b - a := Nat.dvd_of_mod_eq_zero (Nat.sub_mod_eq_zero_of_mod_eq h.symm)
      obtain ⟨k, hk⟩ := hdv
      have h1 := Qs.mul hS qg k a ha
      rw [show k * Nat.gcd st S = b - a by rw [hk, Nat.mul_comm], show a + (b - a) = b by omega, Nat.mod_eq_of_lt hb] at h1
      exact h1
    rcases Nat.le_total a b with hab | hab
    · exact key a b ha hb hab h
    · exact (key b a hb ha hab h.symm).symm
end
end Cgr
/-! Chains and what is reached; greatest divisors; lists of parts in which two are put together; both sides. -/
namespace Cgr
open Mon
section
variable {S : Nat}
theorem chn_step (h : 0 < S) {a j : Nat} (ha : a < S) (hj : j < 2 * 1) : at2 (stp (chn S) 1 S) a j = min (a + 1) (S - 1) := by
  have g := chn_good h
  by_cases e : j < 1
  · obtain rfl : j = 0 := by omega
    rw [stp_r g ha (by omega), chn_at ha]
  · obtain rfl : j = 1 + 0 := by omega
    rw [stp_l g ha, g.Lf_run a ha 0 (by omega)]
    have h1 := g.runW a ha
    have h2 := chn_run (W (chn S) 1 S a) (g.ltW a ha) 0 h
    rw [h1] at h2
    rw [chn_run _ (fun c hc => (List.mem_cons.mp hc).elim (fun e => by omega) (g.ltW a ha c)) 0 h, List.length_cons]
    omega
theorem chn_cl (h : 0 < S) {p : Nat} (hp : p + 1 < S) {a b : Nat} (ha : a < S) (hb : b < S) : Cl (stp (chn S) 1 S) (2 * 1) [(p, p + 1)] a b ↔ min a p = min b p := by
  have g := chn_good h
  constructor
  · intro r
    refine Cl.least (stp_stay g) (eqv_of fun a => min a p) (fun a b j ha hb r hj => ?_) (fun q hq => ?_) r
    · have r : min a p = min b p := r
      show min (at2 _ a j) p = min (at2 _ b j) p
      rw [chn_step h ha hj, chn_step h hb hj]; omega
    · rw [List.mem_singleton.mp hq]
      exact ⟨by show p < S; omega, hp, by show min p p = min (p + 1) p; omega⟩
  · intro r
    have key : ∀ k, p + k < S → Cl (stp (chn S) 1 S) (2 * 1) [(p, p + 1)] p (p + k) := by
      have st : ∀ k, p + k + 1 < S → Cl (stp (chn S) 1 S) (2 * 1) [(p, p + 1)] (p + k) (p + k + 1) := by
        intro k
        induction k with
        | zero => intro _; exact .base (List.mem_singleton.mpr rfl)
        | succ k ih =>
          intro hk
          have h1 := (ih (by omega)).step (j := 0) (show 0 < 2 * 1 by omega)
          rw [chn_step h (by omega) (by omega), chn_step h (by omega) (by omega)] at h1
          rw [show min (p + k + 1) (S - 1) = p + (k + 1) by omega, show min (p + k + 1 + 1) (S - 1) = p + (k + 1) + 1 by omega] at h1
          exact h1
      intro k
      induction k with
      | zero => intro _; exact .refl _
      | succ k ih => intro hk; exact (ih (by omega)).trans (st k (by omega))
    by_cases e : a = b
    · exact e ▸ .refl a
    · have h1 := key (a - p) (by omega)
      have h2 := key (b - p) (by omega)
      rw [show p + (a - p) = a by omega] at h1
      rw [show p + (b - p) = b by omega] at h2
      exact h1.symm.trans h2
end
/-- what steps lead to -/
def Rch (U : Tab) (w : Nat) (l : List Nat) (x : Nat) : Prop := ∃ y ∈ l, ∃ js : List Nat, (∀ j ∈ js, j < w) ∧ go U y js = x
theorem Rch.step {U : Tab} {w : Nat} {l : List Nat} {x j : Nat} (h : Rch U w l x) (hj : j < w) : Rch U w l (at2 U x j) := by
  obtain ⟨y, hy, js, h1, rfl⟩ := h
  refine ⟨y, hy, js ++ [j], fun i hi => ?_, go_snoc _ _ _⟩
  rcases List.mem_append.mp hi with h | h
  · exact h1 i h
  · rw [List.mem_singleton.mp h]; exact hj
theorem chn_rch {S : Nat} (h : 0 < S) {p x : Nat} (hp : p < S) (hx : x < S) : Rch (stp (chn S) 1 S) (2 * 1) [p] x ↔ p ≤ x := by
  have key : ∀ (js : List Nat), (∀ j ∈ js, j < 2 * 1) → ∀ a, a < S → go (stp (chn S) 1 S) a js = min (a + js.length) (S - 1) := by
    intro js
    induction js with
    | nil => intro _ a ha; show a = _; simp; omega
    | cons j js ih =>
      intro hj a ha
      rw [go_cons, chn_step h ha (hj j List.mem_cons_self), ih (fun k hk => hj k (List.mem_cons_of_mem _ hk)) _ (by omega), List.length_cons]; omega
  constructor
  · rintro ⟨y, hy, js, h1, e⟩
    rw [List.mem_singleton.mp hy, key js h1 p hp] at e; omega
  · intro hpx
    refine ⟨p, List.mem_singleton.mpr rfl, List.replicate (x - p) 0, fun j hj => by rw [List.eq_of_mem_replicate hj]; decide, ?_⟩
    rw [key _ (fun j hj => by rw [List.eq_of_mem_replicate hj]; decide) p hp, List.length_replicate]; omega
/-! ### greatest divisors -/
def euc : Nat → Nat × Nat → Nat × Nat
  | 0, q => q
  | t + 1, q => if (euc t q).2 ≠ 0 then ((euc t q).2, (euc t q).1 % (euc t q).2) else euc t q
theorem euc_gcd (q : Nat × Nat) : ∀ t, Nat.gcd (euc t q).1 (euc t q).2 = Nat.gcd q.1 q.2
  | 0 => rfl
  | t + 1 => by
    have ih := euc_gcd q t
    have e1 : euc (t + 1) q = if (euc t q).2 ≠ 0 then ((euc t q).2, (euc t q).1 % (euc t q).2) else euc t q := rfl
    rw [e1]
    by_cases h : (euc t q).2 ≠ 0
    · rw [if_pos h, ← ih]
      show Nat.gcd (euc t q).2 ((euc t q).1 % (euc t q).2) = _
      rw [Nat.gcd_comm (euc t q).2, ← Nat.gcd_rec, Nat.gcd_comm]
    · rw [if_neg h]; exact ih
theorem euc_half (q : Nat × Nat) (t : Nat) : (euc (t + 2) q).2 * 2 ≤ (euc t q).2 := by
  have e1 : euc (t + 1) q = if (euc t q).2 ≠ 0 then ((euc t q).2, (euc t q).1 % (euc t q).2) else euc t q := rfl
  have e2 : euc (t + 2) q = if (euc (t + 1) q).2 ≠ 0 then ((euc (t + 1) q).2, (euc (t + 1) q).1 % (euc (t + 1) q).2) else euc (t + 1) q := rfl
  by_cases h : (euc t q).2 = 0
  · rw [if_neg (by simpa using h)] at e1
    rw [e1, if_neg (by simpa using h)] at e2
    rw [e2, h]; omega
  · rw [if_pos h] at e1
    have a1 : (euc (t + 1) q).2 = (euc t q).1 % (euc t q).2 := by rw [e1]
    have a2 : (euc (t + 1) q).1 = (euc t q).2 := by rw [e1]
    have hlt : (euc (t + 1) q).2 < (euc t q).2 := by rw [a1]; exact Nat.mod_lt _ (by omega)
    by_cases h2 : (euc (t + 1) q).2 = 0
    · rw [if_neg (by simpa using h2)] at e2
      rw [e2, h2]; omega
    · rw [if_pos h2] at e2
      rw [e2, a2]
      generalize (euc (t + 1) q).2 = r1 at *
      generalize (euc t q).2 = r at *
      show r % r1 * 2 ≤ r
      have hm := Nat.mod_lt r (show 0 < r1 by omega)
      have hd := Nat.div_add_mod r r1
      have hq : 1 ≤ r / r1 := Nat.div_pos (by omega) (by omega)
      have : r1 * 1 ≤ r1 * (r / r1) := Nat.mul_le_mul_left _ hq
      omega
theorem euc_zero (q : Nat × Nat) (h : q.2 < 2 ^ 20) : (euc 40 q).2 = 0 := by
  have key : ∀ k, (euc (2 * k) q).2 * 2 ^ k ≤ q.2 := by
    intro k
    induction k with
    | zero => show q.2 * 2 ^ 0 ≤ q.2; omega
    | succ k ih =>
      have h1 := euc_half q (2 * k)
      have h2 := Nat.mul_le_mul_right (2 ^ k) h1
      rw [show 2 * (k + 1) = 2 * k + 2 by omega, Nat.pow_succ]
      rw [Nat.mul_assoc, Nat.mul_comm 2 (2 ^ k)] at h2
      omega
  have := key 20
  rw [show 2 * 20 = 40 by rfl] at this
  by_cases e : (euc 40 q).2 = 0
  · exact e
  · have : 1 * 2 ^ 20 ≤ (euc 40 q).2 * 2 ^ 20 := Nat.mul_le_mul_right _ (by omega)
    omega
theorem euc_share (q : Nat × Nat) (h : q.2 < 2 ^ 20) : (euc 40 q).1 = Nat.gcd q.1 q.2 := by
  rw [← euc_gcd q 40, euc_zero q h, Nat.gcd_zero_right]
/-! ### lists of parts -/
abbrev Self (N : Nat) (c : List Nat) : Prop := IsCls (fun a b => c.getD a 0 = c.getD b 0) N c
def put (c : List Nat) (a b : Nat) : List Nat := c.map fun x => if x = max (c.getD a 0) (c.getD b 0) then min (c.getD a 0) (c.getD b 0) else x
theorem IsCls.self {R : Nat → Nat → Prop} {N : Nat} {c : List Nat} (h : IsCls R N c) (e : Eqv R) : Self N c := h.congr fun a b ha hb => (h.same e ha hb).symm
theorem put_len (c : List Nat) (a b : Nat) : (put c a b).length = c.length := by unfold put; simp
theorem put_get {c : List Nat} {a b j : Nat} : (put c a b).getD j 0 = if c.getD j 0 = max (c.getD a 0) (c.getD b 0) then min (c.getD a 0) (c.getD b 0) else c.getD j 0 := by
  unfold put
  rw [List.getD_eq_getElem?_getD, List.getElem?_map]
  by_cases h : j < c.length
  · rw [List.getElem?_eq_getElem h]
    have : c.getD j 0 = c[j] := by rw [List.getD_eq_getElem?_getD, List.getElem?_eq_getElem h]; rfl
    rw [this]; rfl
  · rw [List.getElem?_eq_none (by omega)]
    have : c.getD j 0 = 0 := by rw [List.getD_eq_getElem?_getD, List.getElem?_eq_none (by omega)]; rfl
    rw [this]
    show (0 : Nat) = _
    split <;> omega
theorem put_jd (c : List Nat) (a b : Nat) : Jd (fun j => c.getD j 0) (fun j => (put c a b).getD j 0) a b := by
  refine Jd.of (lo := min (c.getD a 0) (c.getD b 0)) (hi := max (c.getD a 0) (c.getD b 0)) ?_ fun j => put_get
  rcases Nat.le_total (c.getD a 0) (c.getD b 0) with h | h
  · exact .inl ⟨Nat.min_eq_left h, Nat.max_eq_right h⟩
  · exact .inr ⟨Nat.min_eq_right h, Nat.max_eq_left h⟩
theorem put_self {N : Nat} {c : List Nat} (h : Self N c) {a b : Nat} (ha : a < N) (hb : b < N) : Self N (put c a b) := by
  have e := eqv_of fun j => c.getD j 0
  have la := h.lt a ha
  have lb := h.lt b hb
  have ia : c.getD (c.getD a 0) 0 = c.getD a 0 := (h.rel a ha).symm
  have ib : c.getD (c.getD b 0) 0 = c.getD b 0 := (h.rel b hb).symm
  have le : ∀ n, n < N → c.getD n 0 ≤ n := fun n hn => h.le n hn n hn rfl
  have le2 : ∀ n, n < N → (put c a b).getD n 0 ≤ n := fun n hn => by
    have := le n hn
    rw [put_get]; split <;> omega
  refine ⟨by rw [put_len]; exact h.len, fun n hn => ?_, fun n hn => ?_, fun n hn m hm r => ?_⟩
  · have hi := h.rel n hn
    rw [put_get (j := n)]
    by_cases e1 : c.getD n 0 = max (c.getD a 0) (c.getD b 0)
    · rw [if_pos e1, put_get]
      rcases Nat.le_total (c.getD a 0) (c.getD b 0) with hab | hab
      · rw [Nat.min_eq_left hab, Nat.max_eq_right hab, ia]; split <;> rfl
      · rw [Nat.min_eq_right hab, Nat.max_eq_left hab, ib]; split <;> rfl
    · rw [if_neg e1, put_get, ← hi, if_neg e1]
  · have := h.lt n hn
    rw [put_get]; split <;> omega
  · have r : (put c a b).getD n 0 = (put c a b).getD m 0 := r
    rw [r]; exact le2 m hm
/-- what is told is what is joined -/
theorem Jv.list {N : Nat} {R S : Nat → Nat → Prop} {c : List Nat} {D : List Pq} (s : Self N c) (h : Jv N R S (fun j => c.getD j 0) D) (pin : ∀ a b, a < N → b < N → R a b ∨ S a b → c.getD a 0 = c.getD b 0) : IsCls (Jn N R S) N c :=
  s.congr fun a b ha hb => ⟨h.sub a b ha hb, fun g => g.least (eqv_of fun j => c.getD j 0) fun a b ⟨ha, hb, hab⟩ => pin a b ha hb hab⟩
theorem Jv.of {N : Nat} {R S : Nat → Nat → Prop} {c : List Nat} (h : IsCls R N c) (e : Eqv R) : Jv N R S (fun j => c.getD j 0) [] :=
  ⟨fun a b ha hb q => .base ⟨ha, hb, .inl ((h.same e ha hb).mp q)⟩, fun q hq => by cases hq⟩
/-! ### pairs told on both sides -/
section
variable {T : Tab} {m N : Nat}
def Tw (T : Tab) (m N : Nat) (ps : List Pq) (x y : Nat) : Prop := ∃ q ∈ ps, ∃ l r, l < N ∧ r < N ∧ x = mulT T m N (mulT T m N l q.1) r ∧ y = mulT T m N (mulT T m N l q.2) r
theorem Cl.go {U : Tab} {w : Nat} {ps : List Pq} {a b : Nat} (h : Cl U w ps a b) : ∀ js : List Nat, (∀ j ∈ js, j < w) → Cl U w ps (Cgr.go U a js) (Cgr.go U b js) := fun js => by
  induction js generalizing a b with
  | nil => intro _; exact h
  | cons j js ih => intro hj; exact ih (h.step (hj j List.mem_cons_self)) fun k hk => hj k (List.mem_cons_of_mem _ hk)
theorem tw_cl (g : Good T m N) (p : Prod T m N) {ps : List Pq} (hps : ∀ q ∈ ps, q.1 < N ∧ q.2 < N) {a b : Nat} (ha : a < N) (hb : b < N) : Jn N (Tw T m N ps) (fun _ _ => False) a b ↔ Cl (stp T m N) (2 * m) ps a b := by
  constructor
  · intro h
    refine h.least (Cl.eqv _ _ _) fun x y ⟨_, _, hxy⟩ => ?_
    rcases hxy with ⟨q, hq, l, r, hl, hr, rfl, rfl⟩ | z
    · obtain ⟨js, h1, h2⟩ := word_go g p (g.ltW l hl) (W T m N r) (g.ltW r hr)
      obtain ⟨q1, q2⟩ := hps q hq
      have c := Cl.go (Cl.base (U := stp T m N) (w := 2 * m) (ps := ps) (a := q.1) (b := q.2) hq) js h1
      rw [h2 _ q1, h2 _ q2, mul_word g p (g.ltW l hl) (g.ltW r hr) q1, mul_word g p (g.ltW l hl) (g.ltW r hr) q2, g.runW l hl, g.runW r hr] at c
      exact c
    · exact z.elim
  · intro h
    refine Cl.least (stp_stay g) (Jn.eqv _ _ _) (fun a b j ha hb r hj => ?_) (fun q hq => ?_) h
    · have e0 := Jn.eqv N (Tw T m N ps) (fun _ _ => False)
      have e1 : Eqv (lift N fun a b => Jn N (Tw T m N ps) (fun _ _ => False) (at2 (stp T m N) a j) (at2 (stp T m N) b j)) := lift_eqv ⟨fun a => e0.rfl' _, fun h => e0.sym h, fun h k => e0.tr h k⟩
      refine (fun h2 => ?_) (Gen.least e1 (fun x y ⟨hx, hy, hxy⟩ => ?_) r)
      · rcases h2 with ⟨_, _, h3⟩ | h3
        · exact h3
        · exact h3 ▸ e0.rfl' _
      · rcases hxy with ⟨q, hq, l, r, hl, hr, rfl, rfl⟩ | z
        · refine .inl ⟨hx, hy, .base ⟨stp_stay g _ _ hx hj, stp_stay g _ _ hy hj, .inl ?_⟩⟩
          obtain ⟨js, h1, h2⟩ := word_go g p (g.ltW l hl) (W T m N r) (g.ltW r hr)
          obtain ⟨q1, q2⟩ := hps q hq
          obtain ⟨u, v, hu, hv, h4⟩ := go_word g p (js ++ [j]) fun i hi => by
            rcases List.mem_append.mp hi with h | h
            · exact h1 i h
            · rw [List.mem_singleton.mp h]; exact hj
          have f : ∀ a, a < N → at2 (stp T m N) (mulT T m N (mulT T m N l a) r) j = mulT T m N (mulT T m N (run T 0 u) a) (run T 0 v) := fun a ha => by
            have h5 := h4 a ha
            rw [go_snoc, h2 a ha, mul_word g p (g.ltW l hl) (g.ltW r hr) ha, mul_word g p hu hv ha, g.runW l hl, g.runW r hr] at h5
            exact h5
          exact ⟨q, hq, run T 0 u, run T 0 v, g.run_lt u hu, g.run_lt v hv, f _ q1, f _ q2⟩
        · exact z.elim
    · obtain ⟨q1, q2⟩ := hps q hq
      refine ⟨q1, q2, .base ⟨q1, q2, .inl ⟨q, hq, 0, 0, g.pos, g.pos, ?_, ?_⟩⟩⟩
      · unfold mulT; rw [g.W0, run_nil, g.runW _ q1]
      · unfold mulT; rw [g.W0, run_nil, g.runW _ q2]
end
end Cgr
/-! Dicts with numbers as keys, the value told by the key; how far rings are met. -/
namespace My
open PySem PySem.Spec L2 SX Mon
open PyProof.Rows hiding St
def kn (f : Nat → V) (l : List Nat) : List (Key × V) := l.map fun x => (kI x, f x)
theorem kn_len (f : Nat → V) (l : List Nat) : (kn f l).length = l.length := by unfold kn; simp
theorem kn_no {f : Nat → V} {y : Nat} : ∀ l : List Nat, y ∉ l → valV (kn f l) (kI y) = none
  | [], _ => rfl
  | x :: l, h => by
    unfold kn
    rw [List.map_cons, valV_neg (fun e => h (by rw [← kI_inj.mp e]; exact List.mem_cons_self))]
    exact kn_no l fun k => h (List.mem_cons_of_mem _ k)
theorem kn_get {f : Nat → V} {y : Nat} : ∀ l : List Nat, y ∈ l → valV (kn f l) (kI y) = some (f y)
  | x :: l, h => by
    unfold kn
    rw [List.map_cons]
    by_cases e : x = y
    · subst e; exact valV_pos rfl
    · rw [valV_neg (fun z => e (kI_inj.mp z))]
      exact kn_get l ((List.mem_cons.mp h).resolve_left fun z => e z.symm)
theorem kn_has {f : Nat → V} {y : Nat} (l : List Nat) : (valV (kn f l) (kI y)).isSome = decide (y ∈ l) := by
  by_cases h : y ∈ l
  · rw [kn_get l h, decide_eq_true h]; rfl
  · rw [kn_no l h, decide_eq_false h]; rfl
theorem kn_put {f : Nat → V} {y : Nat} (l : List Nat) (h : y ∉ l) : putK (kn f l) (kI y) (f y) = kn f (l ++ [y]) := by
  unfold putK
  rw [valV_any, kn_no l h, if_neg (by simp)]
  unfold kn
  rw [List.map_append]; rfl
theorem kn_keys (f : Nat → V) (l : List Nat) : (kn f l).map (·.1) = (l.map fun n : Nat => (n : Int)).map Sum.inl := by
  unfold kn
  rw [List.map_map, List.map_map]; rfl
section
variable {H : Hp} {Q : VK} {a : Addr} {f : Nat → V} {l : List Nat} {y : Nat}
theorem rd_inN (h : H a = some (.dK (kn f l))) (q : Q (.bl (decide (y ∈ l))) H) : qDIn false (vI y) (.ref a) H Q := rd_qInK (kI y) h (by rw [kn_has]; exact q)
theorem rd_notInN (h : H a = some (.dK (kn f l))) (q : Q (.bl (!decide (y ∈ l))) H) : qDIn true (vI y) (.ref a) H Q := rd_qInK (kI y) h (by rw [kn_has]; exact q)
theorem rd_getN (h : H a = some (.dK (kn f l))) (hy : y ∈ l) (q : Q (f y) H) : qDGet (.ref a) (vI y) H Q := rd_qGetK (kI y) h (kn_get l hy) q
theorem rd_putN {R : Hp → Prop} {v : V} (h : H a = some (.dK (kn f l))) (hy : y ∉ l) (hl : l.length < 100000) (hv : v = f y) (q : R (L2.upd H a (.dK (kn f (l ++ [y]))))) : qDPut (.ref a) (vI y) v H R := by
  subst hv
  exact rd_qPutK (kI y) h (by rw [kn_len]; exact hl) (by rw [kn_put l hy]; exact q)
end
end My
namespace Cgr
open Mon
/-- how many are met after j steps of turn k -/
def fLj (g m k j : Nat) : Nat := max (lenR g m k) (min g (k + j + 1))
theorem lenR_le {g m k : Nat} (hg : 0 < g) : lenR g m k ≤ g := by
  rcases lenR_cases g m k with ⟨h, _⟩ | ⟨h, _⟩ <;> rw [h] <;> omega
theorem lt_lenR {g m k : Nat} (hm : 1 ≤ m) (h : k < g) : k < lenR g m k := by
  rcases lenR_cases g m k with ⟨h, e⟩ | ⟨h, e⟩ <;> rw [h] <;> omega
theorem fLj_zero {g m k : Nat} (hg : 0 < g) (hm : 1 ≤ m) : fLj g m k 0 = lenR g m k := by
  unfold fLj
  rcases lenR_cases g m k with ⟨h, e⟩ | ⟨h, e⟩ <;> rw [h] <;> omega
theorem fLj_last {g m k : Nat} (hg : 0 < g) (hm : 1 ≤ m) : fLj g m k m = lenR g m (k + 1) := by
  unfold fLj
  rcases lenR_cases g m (k + 1) with ⟨h, e⟩ | ⟨h, e⟩
  · omega
  · rw [h]
    rcases lenR_cases g m k with ⟨h, e⟩ | ⟨h, e⟩ <;> rw [h] <;> omega
theorem fLj_step {g m k j : Nat} (hg : 0 < g) (hk : k < g) : ((k + j + 1) % g ∈ List.range (fLj g m k j) ∧ fLj g m k (j + 1) = fLj g m k j) ∨ ((k + j + 1) % g ∉ List.range (fLj g m k j) ∧ (k + j + 1) % g = fLj g m k j ∧ List.range (fLj g m k (j + 1)) = List.range (fLj g m k j) ++ [(k + j + 1) % g]) := by
  have hl := lenR_le (m := m) (k := k) hg
  by_cases h : k + j + 1 < g
  · rw [Nat.mod_eq_of_lt h]
    by_cases h2 : k + j + 2 ≤ lenR g m k
    · refine .inl ⟨List.mem_range.mpr ?_, ?_⟩ <;> unfold fLj <;> omega
    · have e : fLj g m k j = k + j + 1 := by unfold fLj; omega
      have e2 : fLj g m k (j + 1) = k + j + 1 + 1 := by unfold fLj; omega
      rw [e, e2]
      exact .inr ⟨fun z => Nat.lt_irrefl _ (List.mem_range.mp z), rfl, List.range_succ⟩
  · have hx := Nat.mod_lt (k + j + 1) hg
    refine .inl ⟨List.mem_range.mpr ?_, ?_⟩ <;> unfold fLj <;> omega
theorem rg_len (S m : Nat) : (rg S m).length = S := by unfold rg; simp
theorem rg_take {S m k : Nat} (h : k < S) : (rg S m).take (k + 1) = (rg S m).take k ++ [(List.range m).map fun s => (k + s + 1) % S] := by
  rw [List.take_add_one]
  congr 1
  unfold rg
  rw [List.getElem?_map, List.getElem?_range h]; rfl
/-- what an ideal holds while it grows -/
structure IdV (U : Tab) (N w : Nat) (l fs rs : List Nat) : Prop where
  nd : fs.Nodup
  lt : ∀ x ∈ fs, x < N
  rlt : ∀ x ∈ rs, x < N
  fr : ∀ x ∈ fs, Rch U w l x
  rr : ∀ x ∈ rs, Rch U w l x
  st : ∀ y ∈ l, y ∈ fs ∨ y ∈ rs
  cl : ∀ x ∈ fs, ∀ j, j < w → at2 U x j ∈ fs ∨ at2 U x j ∈ rs
variable {U : Tab} {N w : Nat} {l fs rs : List Nat}
theorem IdV.start (h : ∀ x ∈ l, x < N) : IdV U N w l [] l := ⟨.nil, fun x h => by (cases h), h, fun x h => by (cases h), fun x hx => ⟨x, hx, [], fun j h => by (cases h), rfl⟩, fun y h => .inr h, fun x h => by (cases h)⟩
theorem IdV.skip {x : Nat} (h : IdV U N w l fs (rs ++ [x])) (hx : x ∈ fs) : IdV U N w l fs rs :=
  have key : ∀ y, y ∈ fs ∨ y ∈ rs ++ [x] → y ∈ fs ∨ y ∈ rs := fun y hy => hy.elim .inl fun hy => (List.mem_append.mp hy).elim .inr fun hy => .inl (by rw [List.mem_singleton.mp hy]; exact hx)
  ⟨h.nd, h.lt, fun y hy => h.rlt y (List.mem_append_left _ hy), h.fr, fun y hy => h.rr y (List.mem_append_left _ hy), fun y hy => key y (h.st y hy), fun y hy j hj => key _ (h.cl y hy j hj)⟩
theorem IdV.add {x : Nat} (hU : Stay U N w) (hw : (U.getD x []).length = w) (h : IdV U N w l fs (rs ++ [x])) (hx : x ∉ fs) : IdV U N w l (fs ++ [x]) (rs ++ U.getD x []) := by
  have hxN := h.rlt x (by simp)
  have hxR := h.rr x (by simp)
  have g : ∀ y ∈ U.getD x [], ∃ j, j < w ∧ y = at2 U x j := fun y hy => by
    obtain ⟨j, hj, rfl⟩ := List.mem_iff_getElem.mp hy
    refine ⟨j, by omega, ?_⟩
    unfold at2
    rw [List.getD_eq_getElem?_getD (l := U.getD x []), List.getElem?_eq_getElem hj]; rfl
  have g2 : ∀ j, j < w → at2 U x j ∈ U.getD x [] := fun j hj => by
    have hj2 : j < (U.getD x []).length := by omega
    unfold at2
    rw [List.getD_eq_getElem?_getD (l := U.getD x []), List.getElem?_eq_getElem hj2]
    exact List.getElem_mem _
  have key : ∀ y, y ∈ fs ∨ y ∈ rs ++ [x] → y ∈ fs ++ [x] ∨ y ∈ rs ++ U.getD x [] := fun y hy => by
    rcases hy with hy | hy
    · exact .inl (List.mem_append_left _ hy)
    · rcases List.mem_append.mp hy with hy | hy
      · exact .inr (List.mem_append_left _ hy)
      · exact .inl (List.mem_append_right _ hy)
  refine ⟨?_, fun y hy => ?_, fun y hy => ?_, fun y hy => ?_, fun y hy => ?_, fun y hy => key y (h.st y hy), fun y hy j hj => ?_⟩
  · rw [List.nodup_append]
    exact ⟨h.nd, by simp, fun a ha b hb e => hx (by rw [← List.mem_singleton.mp hb, ← e]; exact ha)⟩
  · rcases List.mem_append.mp hy with hy | hy
    · exact h.lt y hy
    · rw [List.mem_singleton.mp hy]; exact hxN
  · rcases List.mem_append.mp hy with hy | hy
    · exact h.rlt y (List.mem_append_left _ hy)
    · obtain ⟨j, hj, rfl⟩ := g y hy
      exact hU x j hxN hj
  · rcases List.mem_append.mp hy with hy | hy
    · exact h.fr y hy
    · rw [List.mem_singleton.mp hy]; exact hxR
  · rcases List.mem_append.mp hy with hy | hy
    · exact h.rr y (List.mem_append_left _ hy)
    · obtain ⟨j, hj, rfl⟩ := g y hy
      exact hxR.step hj
  · rcases List.mem_append.mp hy with hy | hy
    · exact key _ (h.cl y hy j hj)
    · rw [List.mem_singleton.mp hy]; exact .inr (List.mem_append_right _ (g2 j hj))
theorem IdV.done (h : IdV U N w l fs []) (x : Nat) : x ∈ fs ↔ x < N ∧ Rch U w l x := by
  constructor
  · exact fun hx => ⟨h.lt x hx, h.fr x hx⟩
  · rintro ⟨_, y, hy, js, hj, rfl⟩
    have hy := (h.st y hy).resolve_right fun z => by (cases z)
    have aux : ∀ (js : List Nat), (∀ j ∈ js, j < w) → ∀ z, z ∈ fs → go U z js ∈ fs := by
      intro js
      induction js with
      | nil => intro _ z hz; exact hz
      | cons j js ih => intro hj z hz; rw [go_cons]; exact ih (fun k hk => hj k (List.mem_cons_of_mem _ hk)) _ ((h.cl z hz j (hj j List.mem_cons_self)).resolve_right fun z => by (cases z))
    exact aux js hj y hy
end Cgr
/-! sorted(rows, key = a lambda or a def that tells (-len(set(x)), x)), rows of whole numbers as tuples. -/
namespace My
open PySem PySem.Spec L2 SX LamX
open PyProof.Rows hiding St
/-- each number once -/
def unq : List Int → List Int
  | [] => []
  | x :: xs => if x ∈ xs then unq xs else x :: unq xs
theorem mem_unq {a : Int} : ∀ xs : List Int, a ∈ unq xs ↔ a ∈ xs
  | [] => Iff.rfl
  | x :: xs => by
    unfold unq
    split
    · next h => rw [mem_unq xs, List.mem_cons]; exact ⟨.inr, fun z => z.elim (fun e => e ▸ h) id⟩
    · rw [List.mem_cons, List.mem_cons, mem_unq xs]
theorem unq_nd : ∀ xs : List Int, (unq xs).Nodup
  | [] => .nil
  | x :: xs => by
    unfold unq
    split
    · exact unq_nd xs
    · next h => exact List.nodup_cons.mpr ⟨fun z => h ((mem_unq xs).mp z), unq_nd xs⟩
/-- how many unlike numbers -/
def cnt (ns : List Int) : Nat := (unq ns).length
theorem once_cnt {ns us : List Int} (h : Once ns us) : us.length = cnt ns :=
  ((List.perm_ext_iff_of_nodup h.1 (unq_nd ns)).mpr fun a => by rw [h.2 a, mem_unq]).length_eq
abbrev iD (c : List Nat) : List Int := c.map fun n => ((n : Nat) : Int)
def keyC (c : List Nat) : PyData := .tuple [.int (-((cnt (iD c) : Nat) : Int)), .tuple ((iD c).map PyData.int)]
/-! ### the order -/
theorem toks_ints : ∀ (xs ys : List Int) (l m : List (Int ⊕ List Nat)), PySem.W.keyToksAll (xs.map PyData.int) ++ l = PySem.W.keyToksAll (ys.map PyData.int) ++ m → xs = ys
  | [], [], _, _, _ => rfl
  | [], y :: ys, _, _, h => by simp [PySem.W.keyToksAll] at h
  | x :: xs, [], _, _, h => by simp [PySem.W.keyToksAll] at h
  | x :: xs, y :: ys, l, m, h => by
    simp only [List.map_cons, PySem.W.keyToksAll, PySem.W.keyToks, List.cons_append, List.nil_append, List.cons.injEq, Sum.inl.injEq, true_and] at h
    rw [h.1, toks_ints xs ys l m h.2]
theorem iD_inj {c d : List Nat} (h : iD c = iD d) : c = d := by
  have := congrArg (List.map Int.toNat) h
  simpa [iD, List.map_map, Function.comp_def] using this
theorem keyC_inj {c d : List Nat} (h : PySem.W.keyToks (keyC c) = PySem.W.keyToks (keyC d)) : c = d := by
  simp only [keyC, PySem.W.keyToks, PySem.W.keyToksAll, List.cons_append, List.nil_append, List.cons.injEq, Sum.inl.injEq, true_and] at h
  exact iD_inj (toks_ints _ _ _ _ h.2)
abbrev leC : List Nat → List Nat → Bool := PySem.W.dataLe false keyC
/-- rows in the order of the keys -/
def srtC (bs : List (List Nat)) : List (List Nat) := bs.mergeSort leC
theorem leC_anti {c d : List Nat} (h1 : leC c d = true) (h2 : leC d c = true) : c = d := by
  have h1' : (!PyProof.Rows.lexLt PyProof.Rows.itemOrd (PySem.W.keyToks (keyC d)) (PySem.W.keyToks (keyC c))) = true := h1
  have h2' : (!PyProof.Rows.lexLt PyProof.Rows.itemOrd (PySem.W.keyToks (keyC c)) (PySem.W.keyToks (keyC d))) = true := h2
  rw [Bool.not_eq_true'] at h1' h2'
  exact keyC_inj ((PyProof.Rows.listOrd PyProof.Rows.itemOrd).total _ _ h2' h1')
theorem srtC_sorted (bs : List (List Nat)) : (srtC bs).Pairwise fun a b => leC a b = true :=
  List.pairwise_mergeSort (le := leC) (fun a b c h1 h2 => (PySem.W.sortLe_total _ false _).trans a b c h1 h2) (fun a b => by
    have := (PySem.W.sortLe_total (PyProof.Rows.listOrd PyProof.Rows.itemOrd) false fun b : List Nat => PySem.W.keyToks (keyC b)).total a b
    exact Bool.or_eq_true_iff.mpr this) bs
theorem srtC_perm (bs : List (List Nat)) : (srtC bs).Perm bs := List.mergeSort_perm bs leC
theorem srtC_eq {as bs : List (List Nat)} (h : as.Perm bs) : srtC as = srtC bs :=
  List.Perm.eq_of_pairwise (le := fun a b => leC a b = true) (fun a b _ _ h1 h2 => leC_anti h1 h2) (srtC_sorted as) (srtC_sorted bs) (((srtC_perm as).trans h).trans (srtC_perm bs).symm)
theorem srt_zip {xs : List V} {bs : List (List Nat)} (hl : xs.length = bs.length) : ((xs.zip bs).mergeSort (PySem.W.dataLe false fun p : V × List Nat => keyC p.2)).map Prod.snd = srtC bs := by
  have e := List.map_mergeSort (r := PySem.W.dataLe false fun p : V × List Nat => keyC p.2) (s := leC) (f := Prod.snd) (l := xs.zip bs) (fun a _ b _ => rfl)
  rw [List.map_snd_zip (by omega)] at e
  exact e
theorem alike_ints : ∀ xs ys : List Int, PySem.W.alikeAll (xs.map PyData.int) (ys.map PyData.int) = true
  | [], _ => by simp [PySem.W.alikeAll]
  | _ :: _, [] => by simp [PySem.W.alikeAll]
  | x :: xs, y :: ys => by simp only [List.map_cons, PySem.W.alikeAll, PySem.W.alike, alike_ints xs ys, Bool.and_self]
theorem keyC_alike (c d : List Nat) : PySem.W.alike (keyC c) (keyC d) = true := by
  simp only [keyC, PySem.W.alike, PySem.W.alikeAll, alike_ints, Bool.and_self]
theorem dep_ints : ∀ xs : List Int, PyData.depthAll (xs.map PyData.int) = 0
  | [] => rfl
  | x :: xs => by simp only [List.map_cons, PyData.depthAll, PyData.depth, dep_ints xs, Nat.max_self]
theorem keyC_depth (c : List Nat) : (keyC c).depth = 2 := by simp only [keyC, PyData.depth, PyData.depthAll, dep_ints]; rfl
/-! ### the key -/
/-- (-len(set(x)), x) -/
def keyX (x : Str) (c3 : Nat) (q1 q2 q3 q4 q5 q6 q7 q8 : Pos) : Expr := .Tuple [.UnaryOp .USub (.Call (.Name "len" q1) [.Call (.Name "set" q2) [.Name x q3] [] q4] [] q5) q6, .Name x q7] c3 q8
theorem reads_ints {h : Heap} : ∀ {us : List Value} {ns : List Int}, PyProof.Rows.IntsAre us ns → ReadsAll h us (ns.map PyData.int) []
  | _, _, .nil => .nil
  | _, _, .cons n t r => (ReadsAll.cons (.int n t) (reads_ints r) : ReadsAll _ _ _ ([] ++ []))
section
variable {prog : Program} {w : World} {A : Around} {s : Shared} {env : Env} {mg mb m : Str → Option Value} {T : Addr} {its : List Value} {ns : List Int} {x : Str}
theorem name_local {p : Pos} {v : Value} {Q : Value → Shared → Prop} {E : Value → Shared → Prop} (hk : env.scope.kind = .function) (hl : env.kindOf x = some .local) (hn : s.heap.Ns env.locals m) (hm : m x = some v) (hx : (x == ("__debug__" : Str)) = false) (h : Q v s) :
    wpAny (model prog w) A (eval (.Name x p) env) Q E s := wpAny_Name (wpAny_loadName_local hk hl hn hm h) hx
theorem keyX_body {c3 : Nat} {q1 q2 q3 q4 q5 q6 q7 q8 : Pos} {E : Value → Shared → Prop} (hh : A.handled = none) (hk : env.scope.kind = .function) (hl : env.kindOf x = some .local) (hx : (x == ("__debug__" : Str)) = false) (hn : s.heap.Ns env.locals m) (hm : m x = some (.ref T))
    (hg1 : env.kindOf "len" = some .globalImplicit) (hg2 : env.kindOf "set" = some .globalImplicit) (hG : s.heap.Ns env.globals mg) (hG1 : mg "len" = none) (hG2 : mg "set" = none) (hB : s.heap.Ns env.builtins mb) (hB1 : mb "len" = some (.builtin "len")) (hB2 : mb "set" = some (.type "set"))
    (hT : s.heap.IsTuple T its.toArray) (hi : PyProof.Rows.IntsAre its ns) (hz : ns.length ≤ 1000) :
    wpAny (model prog w) A (eval (keyX x c3 q1 q2 q3 q4 q5 q6 q7 q8) env) (PySem.W.KeyPure (.tuple [.int (-((cnt ns : Nat) : Int)), .tuple (ns.map PyData.int)]) s) E s := by
  unfold keyX
  refine wpAny_Tuple_spliced ?_
  show wpAny _ _ (spliced ((false, eval _ env) :: (false, eval _ env) :: [])) _ _ s
  refine Calls.spliced_cons (UnaryOp_ ?_)
  refine wpAny_Call_Name_kw (Calls.Name_function_global hk hg1 (Calls.loadGlobal_builtin hG hG1 hB hB1 ?_) (by decide))
  refine PyProof.Rows.callWith_builtin1 (e := .Call (.Name "set" q2) [.Name x q3] [] q4) (rest := []) (Calls.spliced_cons ?_) (by rfl) (by rfl)
  refine wpAny_Call_Name_kw (Calls.Name_function_global hk hg2 (Calls.loadGlobal_builtin hG hG2 hB hB2 ?_) (by decide))
  refine PyProof.Rows.callWith_type1 (e := .Name x q3) (rest := []) (Calls.spliced_cons (name_local hk hl hn hm hx (Calls.spliced_nil ?_))) (by rfl) (by rfl)
  refine call_set_tupI ns hh hT (by simpa using hi) (by unfold scanBound; omega) fun h' tk c R hcn kp => ?_
  refine Calls.spliced_nil ?_
  obtain ⟨us, ho, hu⟩ := setR_once R
  obtain ⟨o, es, ep, t, ho2, hex, hd, _, nd, hmm, hbb, hf, hn2, hr, hl2⟩ := R
  refine call_len_set ho2 hex hd hf (by omega) ?_
  refine neg_int ?_
  have e1 : ((es.size : Nat) : Int) = ((cnt ns : Nat) : Int) := by rw [← once_cnt ho, hu, ← hn2]
  rw [e1]
  have hn' : h'.Ns env.locals m := hn.keeps kp
  refine Calls.spliced_cons (name_local hk hl hn' hm hx (Calls.spliced_nil ⟨(by show 2 ≤ sizeLine; decide), ?_⟩))
  obtain ⟨oT, gT, gc, n, gd⟩ := hT
  refine ⟨_, _, rfl, fun b o e => Heap.get?_push_of_some _ (kp b o e), ?_⟩
  refine Reads.tuple (Heap.get?_push_size _ rfl) rfl rfl ?_
  exact (ReadsAll.cons (.int _ _) (ReadsAll.cons (.tuple (Heap.get?_push_of_some _ (kp _ _ gT)) gc gd (reads_ints (by simpa using hi))) .nil) : ReadsAll _ _ _ ([] ++ ([] ++ [])))
end
section
variable {P : Program} {w : World} {A : Around} {s : Shared} {mg mb : Str → Option Value} {T : Addr} {its : List Value} {ns : List Int} {x : Str} {c3 : Nat} {q1 q2 q3 q4 q5 q6 q7 q8 : Pos}
/-- the lambda called with a row -/
theorem keyX_lam {f c' : Addr} {q : Str} {params : Arguments} {scope : Scope} {pm ctv : Value} (hh : A.handled = none) (hA : A.depth < recursionLimit)
    (of1 : s.heap.get? f = some (PySem.W.kla_obj "<lambda>" q params (keyX x c3 q1 q2 q3 q4 q5 q6 q7 q8) scope [] pm c' ctv)) (S : FnScope [x] [x] scope) (hloc : scope.names.lookup x = some NameKind.local) (hx : (x == ("__debug__" : Str)) = false) (hlen : scope.names.lookup ("len" : Str) = some NameKind.globalImplicit) (hset : scope.names.lookup ("set" : Str) = some NameKind.globalImplicit)
    (hrec : s.heap.CodeRec (.ref c') q) (hbind : bindArgs (PySem.W.kla_fn "<lambda>" q params (keyX x c3 q1 q2 q3 q4 q5 q6 q7 q8) scope [] pm (.ref c') ctv) ⟨[.ref T], []⟩ = pure [(x, Value.ref T)])
    (lim : s.heap.NoLimit) (hG : s.heap.Ns mainGlobals mg) (hG1 : mg "len" = none) (hG2 : mg "set" = none) (hB : s.heap.Ns builtinsNs mb) (hB1 : mb "len" = some (.builtin "len")) (hB2 : mb "set" = some (.type "set")) (hT : s.heap.IsTuple T its.toArray) (hi : PyProof.Rows.IntsAre its ns) (hz : ns.length ≤ 1000) :
    wpAny (model P w) A (call (.ref f) [.ref T]) (PySem.W.KeyPure (.tuple [.int (-((cnt ns : Nat) : Int)), .tuple (ns.map PyData.int)]) s) (fun _ _ => False) s := by
  refine wpAny_call (PySem.W.kla_callFunE hA of1 rfl S.co S.gen rfl hrec ?_)
  rw [hbind]
  refine wpAny_pure (wpAny_newFunctionEnv_cells S.kind (fun y hy => ?_) fun env he s1 x1 => ?_)
  · obtain rfl : y = (x, Value.ref T) := List.mem_singleton.mp hy
    exact .inl hloc
  · subst he
    obtain ⟨h1, tk, rfl, hk⟩ := id x1.done
    refine ⟨lim.keeps hk, PySem.W.kla_codeExpr ?_⟩
    refine wpAny_mono (keyX_body (x := x) (T := T) (its := its) (ns := ns) (mg := mg) (mb := mb) (m := bindL (fun y => scope.names.lookup y) [(x, Value.ref T)] fun _ => none) (by exact hh) S.kind hloc hx x1.toInCall.ns ?_ hlen hset (hG.keeps hk) hG1 hG2 (hB.keeps hk) hB1 hB2 (let ⟨o, e, r⟩ := hT; ⟨o, hk _ _ e, r⟩) hi hz) (fun v s' hq => ?_) (fun _ _ z => z)
    · simp [bindL, hloc]
    · obtain ⟨h2, tk2, rfl, hk2, r⟩ := hq
      exact ⟨h2, tk2, rfl, fun b o e => hk2 b o (hk b o e), r⟩
/-- a def that tells the key -/
structure KeyF (K : PySem.W.Frag) (mg : Str → Option Value) (g : Str) : Prop where
  ex : ∃ (f : Addr) (fd : FuncData) (x qual : Str) (st : Stmt) (c3 : Nat) (q1 q2 q3 q4 q5 q6 q7 q8 rp : Pos), mg g = some (.ref f) ∧ Fun K g qual st f fd ∧ defBody st = [.Return (some (keyX x c3 q1 q2 q3 q4 q5 q6 q7 q8)) rp] ∧ FnScope [x] [x] (defScope st) ∧
    (defScope st).names.lookup x = some NameKind.local ∧ (x == ("__debug__" : Str)) = false ∧ (defScope st).names.lookup ("len" : Str) = some NameKind.globalImplicit ∧ (defScope st).names.lookup ("set" : Str) = some NameKind.globalImplicit ∧ Binds K fd [x] []
theorem keyX_fun {K : PySem.W.Frag} {g : Str} (F : KeyF K mg g) : ∃ f : Addr, mg g = some (.ref f) ∧ ∀ {A : Around} {s : Shared} {T : Addr} {its : List Value} {ns : List Int}, A.handled = none → A.depth < recursionLimit → K.In s.heap → s.heap.NoLimit → s.heap.Ns mainGlobals mg → mg "len" = none → mg "set" = none →
    s.heap.Ns builtinsNs mb → mb "len" = some (.builtin "len") → mb "set" = some (.type "set") → s.heap.IsTuple T its.toArray → PyProof.Rows.IntsAre its ns → ns.length ≤ 1000 →
    wpAny (model P w) A (call (.ref f) [.ref T]) (PySem.W.KeyPure (.tuple [.int (-((cnt ns : Nat) : Int)), .tuple (ns.map PyData.int)]) s) (fun _ _ => False) s := by
  obtain ⟨f, fd, x, qual, st, c3, q1, q2, q3, q4, q5, q6, q7, q8, rp, hm, Fu, hb, S, hloc, hx, hlen, hset, hbi⟩ := F.ex
  refine ⟨f, hm, fun {A s T its ns} hh hA KX lim hG hG1 hG2 hB hB1 hB2 hT hi hz => ?_⟩
  obtain ⟨oc, od, kV, doc, pm, an, cdv, ct, osl, rfl, lk, hcd⟩ := Fu.ex
  refine wpAny_call ?_
  refine codeAny_call_function (body := defBody st) hA (KX _ _ lk) rfl S.co S.gen rfl (PySem.W.codeRec_of KX hcd) (hbi s [.ref T] KX rfl _ _ _ _ ?_)
  refine wpAny_newFunctionEnv_cells S.kind (fun y hy => ?_) fun env he s1 x1 => ?_
  · obtain rfl : y = (x, Value.ref T) := List.mem_singleton.mp hy
    exact .inl hloc
  · subst he
    obtain ⟨h1, tk, rfl, hk⟩ := id x1.done
    refine ⟨lim.keeps hk, codeAny_func ?_⟩
    rw [hb]
    refine wpAny_execs_cons (wpAny_Return_some ?_)
    refine wpAny_mono (keyX_body (x := x) (T := T) (its := its) (ns := ns) (mg := mg) (mb := mb) (m := bindL (fun y => (defScope st).names.lookup y) [(x, Value.ref T)] fun _ => none) (by exact hh) S.kind hloc hx x1.toInCall.ns ?_ hlen hset (hG.keeps hk) hG1 hG2 (hB.keeps hk) hB1 hB2 (let ⟨o, e, r⟩ := hT; ⟨o, hk _ _ e, r⟩) hi hz) (fun v s' hq => ?_) (fun _ _ z => z)
    · simp [bindL, hloc]
    · obtain ⟨h2, tk2, rfl, hk2, r⟩ := hq
      exact ⟨h2, tk2, rfl, fun b o e => hk2 b o (hk b o e), r⟩
end
/-! ### the rule -/
theorem each_C : ∀ {xs : List V} {us : List Value} {bs : List (List Nat)}, Vals xs us → xs.length = bs.length → PySem.W.EachIs (fun u (p : V × List Nat) => RelV p.1 u) us (xs.zip bs)
  | [], _, [], r, _ => by cases r; exact .nil
  | [], _, _ :: _, _, h => by cases h
  | x :: xs, _, [], _, h => by cases h
  | x :: xs, _, b :: bs, r, h => by
    cases r with
    | cons r1 r2 => exact .cons r1 (each_C r2 (by simpa using h))
theorem vals_C : ∀ {zs : List (V × List Nat)} {us : List Value}, PySem.W.EachIs (fun u (p : V × List Nat) => RelV p.1 u) us zs → Vals (zs.map Prod.fst) us
  | [], us, e => by
    have h : us.length = 0 := by rw [e.length]; rfl
    rw [List.length_eq_zero_iff.mp h]
    exact .nil
  | z :: zs, us, e => by
    cases e with
    | cons e1 e2 => exact .cons e1 (vals_C e2)
/-- the items of xs are the rows bs -/
def Rws (K : PySem.W.Frag) (H : Hp) (xs : List V) (bs : List (List Nat)) : Prop := xs.length = bs.length ∧ ∀ (i : Nat) (b : List Nat), bs[i]? = some b → b.length ≤ 1000 ∧ ∃ T, xs[i]? = some (.ref T) ∧ SqT K H T ((iD b).map V.int)
theorem Rws.extN {K : PySem.W.Frag} {H H' : Hp} {xs : List V} {bs : List (List Nat)} (h : Rws K H xs bs) (e : ExtN H H') : Rws K H' xs bs := ⟨h.1, fun i b hb => let ⟨z, T, e1, e2⟩ := h.2 i b hb; ⟨z, T, e1, SqT.extN e2 e⟩⟩
section
variable {X : Cx} {pins : List (Addr × Obj)} {σ : L2.St} {H : Hp} {s : Shared} {k : Nat}
theorem sort_goC {f : Addr} {a : Addr} {xs : List V} {bs : List (List Nat)} {Q : VK} (hr : Room k X.A) (I : Inv X pins σ H s) (hs : SqL X.K H a xs) (hp : Rws X.K H xs bs)
    (hcall : ∀ (h : Heap) (tk : Nat) (T : Addr) (its : List Value) (ns : List Int), (∀ b o, s.heap.get? b = some o → h.get? b = some o) → h.IsTuple T its.toArray → PyProof.Rows.IntsAre its ns → ns.length ≤ 1000 →
      wpAny (model X.prog X.w) X.A.in1.in1 (call (.ref f) [.ref T]) (PySem.W.KeyPure (.tuple [.int (-((cnt ns : Nat) : Int)), .tuple (ns.map PyData.int)]) { s with heap := h, toks := tk }) (fun _ _ => False) { s with heap := h, toks := tk })
    (q : ∀ (p : Addr) (zs : List (V × List Nat)), H p = none → zs.Perm (xs.zip bs) → zs.map Prod.snd = srtC bs → Q (.ref p) (L2.upd H p (.lst (zs.map Prod.fst)))) :
    wpAny (model X.prog X.w) X.A (call (.builtin "sorted") [.ref a] [(Str.ofString "key", .ref f)]) (EP X pins σ Q) X.xe s := by
  obtain ⟨its, rv, hl, hz⟩ := I.list hs
  have hun := hr.units
  have hzl : (xs.zip bs).length = xs.length := by rw [List.length_zip]; have := hp.1; omega
  refine PySem.W.sorted_key_data (β := V × List Nat) (b := false) (fun p => keyC p.2) hl.isList (each_C rv hp.1) (PySem.W.AllAlike.of fun _ _ => keyC_alike _ _) (PySem.W.Sortable.tuples fun _ => ⟨_, _, rfl⟩) (by rw [hzl]; exact hz)
    (fun x _ => ?_) (PyProof.Rows.ksk_s1 _ _) (fun _ => PyProof.Rows.ksk_l1 _ _) (fun _ => PyProof.Rows.ksk_t1 _ _) (fun v x hR hx h tk kp => ?_) fun out c4 h' tk kp hfr2 hD hlo eo => ?_
  · rw [keyC_depth]; omega
  · obtain ⟨i, hi⟩ := List.mem_iff_getElem?.mp hx
    obtain ⟨xv, b⟩ := x
    rw [List.getElem?_zip_eq_some] at hi
    obtain ⟨hbl, T, e1, e2⟩ := hp.2 i b hi.2
    have e3 : xv = .ref T := by rw [hi.1] at e1; exact Option.some.inj e1
    subst e3
    obtain rfl : v = Value.ref T := hR
    obtain ⟨it2, rv2, pl2, _⟩ := I.tuple e2
    have hT2 : h.IsTuple T it2.toArray := let ⟨o, e, r⟩ := pl2; ⟨o, kp _ _ e, r⟩
    exact hcall h tk T it2 (iD b) kp hT2 (by simpa using RZ.intsAre_vals rv2) (by rw [List.length_map]; exact hbl)
  · have rv3 := vals_C eo
    have hzs : ((xs.zip bs).mergeSort (PySem.W.dataLe false fun p : V × List Nat => keyC p.2)).length ≤ sizeLine := by rw [List.length_mergeSort, hzl]; exact hz
    have new : s.heap.objs.size ≤ s.heap.objs.size + 1 := Nat.le_succ _
    exact ⟨.ref _, L2.upd H (s.heap.objs.size + 1) (.lst (((xs.zip bs).mergeSort (PySem.W.dataLe false fun p : V × List Nat => keyC p.2)).map Prod.fst)), I.laid (t' := tk) kp new ⟨by rw [List.length_map]; exact hzs, out, c4, rv3, hD⟩, rfl, q _ _ (I.hok.fresh new) (List.mergeSort_perm _ _) (srt_zip hp.1)⟩
def qSortC (K : PySem.W.Frag) (TT : List (Addr × Str)) (vs : List V) (H1 : Hp) (Q : VK) : Prop := ∃ (a : Addr) (xs : List V) (bs : List (List Nat)), vs = [.ref a] ∧ SqL K H1 a xs ∧ Rws K H1 xs bs ∧ Tabs TT H1 ∧
  ∀ (p : Addr) (zs : List (V × List Nat)) (H2 : Hp), ExtN H1 H2 → Tabs TT H2 → H2 p = none → zs.Perm (xs.zip bs) → zs.map Prod.snd = srtC bs → Q (.ref p) (L2.upd H2 p (.lst (zs.map Prod.fst)))
def tSortC (K : PySem.W.Frag) (TT : List (Addr × Str)) (t : TA) : TE := fun σ H Q => t σ H fun vs H1 => qSortC K TT vs H1 Q
theorem pe_sortC {TT : List (Addr × Str)} {c P : Addr} {params : Arguments} {scope : Scope} {e : Expr} {t : TA} {x : Str} {p pos lpos kpos : Pos} {c3 : Nat} {q1 q2 q3 q4 q5 q6 q7 q8 : Pos}
    (TB : TabB X.base X.mg c P) (hcode : X.env.code = .ref c) (hmT : (P, X.env.qual ++ "<lambda>") ∈ TT) (hu : ∀ p ∈ TT, p.1 = P → p.2 = X.env.qual ++ "<lambda>") (hc : X.calm = true) (hr : Room k X.A) (hg : Gl X "sorted") (hm : X.mg "sorted" = none) (hml : X.mg "len" = none) (hms : X.mg "set" = none)
    (S1 : FnScope [x] [x] scope) (hloc : scope.names.lookup x = some NameKind.local) (hx : (x == ("__debug__" : Str)) = false) (hlen : scope.names.lookup ("len" : Str) = some NameKind.globalImplicit) (hset : scope.names.lookup ("set" : Str) = some NameKind.globalImplicit) (hdef : defaultsOf params X.env = ([], [])) (hfree : ∀ y ∈ scope.names, y.2 ≠ .free) (hclo : cloFrom X.env.cells scope.names [] = [])
    (hbind : ∀ (q : Str) (pm cv ctv u : Value), bindArgs (PySem.W.kla_fn "<lambda>" q params (keyX x c3 q1 q2 q3 q4 q5 q6 q7 q8) scope [] pm cv ctv) ⟨[u], []⟩ = pure [(x, u)])
    (ha : PA X [e] t) (he : backTo pos (starEach [e] X.env) = (false, eval e X.env) :: backTo pos (starEach [] X.env) := by rfl) (hpl : (backTo pos (starEach [e] X.env)).any (·.1) = false := by rfl) :
    PE X (.Call (.Name "sorted" p) [e] [⟨some "key", .Lambda params (keyX x c3 q1 q2 q3 q4 q5 q6 q7 q8) scope lpos, kpos⟩] pos) (tSortC X.K TT t) := by
  refine ⟨fun pins s σ H Q I h => ?_⟩
  refine wpAny_Call_Name_kw (ld_blt I hg hm boot_sorted ?_)
  refine PyProof.Rows.callWith_kw (thn (ha.run pos pins s σ H _ I h) fun us s1 ⟨vs, H1, I1, r1, q1⟩ => ?_) he hpl
  obtain ⟨a, xs, bs, rfl, hs, hp, hT, q⟩ := q1
  obtain rfl := Vals.ref1 r1
  show wpAny _ _ (evalAll ((do let v ← eval (.Lambda params (keyX x c3 q1 q2 q3 q4 q5 q6 q7 q8) scope lpos) X.env; standAt pos; pure v) :: [])) _ _ s1
  refine wpAny_evalAll_cons (wpAny_bind (lam_make2 I1 TB hcode hmT hu hT hdef (fun y hy e => absurd e (hfree y hy)) fun f c' pm' ctv H2 s2 I2 eN T2 hf hfn hfr hco => wpAny_bind (wpAny_standAt (wpAny_pure (wpAny_evalAll_nil ?_)))))
  show wpAny _ _ (call (.builtin "sorted") [.ref a] [(Str.ofString "key", .ref f)]) _ _ s2
  rw [hclo] at hf
  obtain ⟨⟨oc, vs, t3, hoc, hdc, hvc⟩, _, _⟩ := I2.hok c' _ hco
  obtain ⟨mb, hb1, hb2⟩ := I2.mod.blt
  refine sort_goC hr I2 (SqL.extN hs eN) (hp.extN eN) (fun h tk T its ns kp hT2 hi hz => ?_) fun p zs hpn h1 h2 => q p zs H2 eN T2 hpn h1 h2
  exact keyX_lam (A := X.A.in1.in1) (P := X.prog) (w := X.w) (s := { s2 with heap := h, toks := tk }) (mg := X.mg) (mb := mb) (I2.ok.hd hc) (by exact hr.depth) (kp _ _ hf) S1 hloc hx hlen hset ⟨c', oc, vs, t3, rfl, kp _ _ hoc, hdc, hvc⟩ (hbind _ _ _ _ _) (I2.nolimit.keeps kp)
    ((I2.mod.glob.keeps I2.bk).keeps kp) hml hms ((hb1.keeps I2.bk).keeps kp) ((hb2 "len" (by decide)).trans boot_len) ((hb2 "set" (by decide)).trans boot_set) hT2 hi hz
def qSortDf (K : PySem.W.Frag) (vs : List V) (H1 : Hp) (Q : VK) : Prop := ∃ (a : Addr) (xs : List V) (bs : List (List Nat)), vs = [.ref a] ∧ SqL K H1 a xs ∧ Rws K H1 xs bs ∧
  ∀ (p : Addr) (zs : List (V × List Nat)), H1 p = none → zs.Perm (xs.zip bs) → zs.map Prod.snd = srtC bs → Q (.ref p) (L2.upd H1 p (.lst (zs.map Prod.fst)))
def tSortDf (K : PySem.W.Frag) (t : TA) : TE := fun σ H Q => t σ H fun vs H1 => qSortDf K vs H1 Q
theorem pe_sortDf {e : Expr} {t : TA} {g : Str} {p pos gpos kpos : Pos} (F : KeyF X.K X.mg g) (hc : X.calm = true) (hr : Room k X.A) (hg : Gl X "sorted") (hgg : Gl X g) (hm : X.mg "sorted" = none) (hml : X.mg "len" = none) (hms : X.mg "set" = none) (ha : PA X [e] t) (hdb : (g == ("__debug__" : Str)) = false := by decide)
    (he : backTo pos (starEach [e] X.env) = (false, eval e X.env) :: backTo pos (starEach [] X.env) := by rfl) (hpl : (backTo pos (starEach [e] X.env)).any (·.1) = false := by rfl) :
    PE X (.Call (.Name "sorted" p) [e] [⟨some "key", .Name g gpos, kpos⟩] pos) (tSortDf X.K t) := by
  refine ⟨fun pins s σ H Q I h => ?_⟩
  refine wpAny_Call_Name_kw (ld_blt I hg hm boot_sorted ?_)
  refine PyProof.Rows.callWith_kw (thn (ha.run pos pins s σ H _ I h) fun us s1 ⟨vs, H1, I1, r1, q1⟩ => ?_) he hpl
  obtain ⟨a, xs, bs, rfl, hs, hp, q⟩ := q1
  obtain rfl := Vals.ref1 r1
  obtain ⟨mb, hb1, hb2⟩ := I1.mod.blt
  obtain ⟨f, hmf, hcl⟩ := keyX_fun (P := X.prog) (w := X.w) (mb := mb) F
  show wpAny _ _ (evalAll ((do let v ← eval (.Name g gpos) X.env; standAt pos; pure v) :: [])) _ _ s1
  refine wpAny_evalAll_cons (wpAny_bind (ld_glob I1 hgg hmf (wpAny_bind (wpAny_standAt (wpAny_pure (wpAny_evalAll_nil ?_)))) hdb))
  show wpAny _ _ (call (.builtin "sorted") [.ref a] [(Str.ofString "key", .ref f)]) _ _ s1
  refine sort_goC hr I1 hs hp (fun h tk T its ns kp hT2 hi hz => ?_) q
  exact hcl (A := X.A.in1.in1) (s := { s1 with heap := h, toks := tk }) (I1.ok.hd hc) (by exact hr.depth) (I1.kIn.keeps kp) (I1.nolimit.keeps kp) ((I1.mod.glob.keeps I1.bk).keeps kp) hml hms ((hb1.keeps I1.bk).keeps kp) ((hb2 "len" (by decide)).trans boot_len) ((hb2 "set" (by decide)).trans boot_set) hT2 hi hz
end
section
variable {K : PySem.W.Frag} {σ : L2.St} {H : Hp} {Q : VK}
theorem rd_tSortC {TT : List (Addr × Str)} {t : TA} (h : t σ H fun vs H1 => qSortC K TT vs H1 Q) : tSortC K TT t σ H Q := h
theorem rd_tSortDf {t : TA} (h : t σ H fun vs H1 => qSortDf K vs H1 Q) : tSortDf K t σ H Q := h
end
end My
/-! dict.update(dict) and dict(list of pairs), keys that are numbers. -/
namespace My
open PySem PySem.Spec L2 SX
open PyProof.Rows hiding St
theorem KV_all : ∀ (more : List (Key × V)) (ys : List (Key × Value)) (kvs : List (Key × V)) (xs : List (Key × Value)), KV kvs xs → KV more ys → KV (mergeT kvs more) (merged xs ys)
  | [], _, kvs, xs, r, m => by cases m; exact r
  | p :: more, _, kvs, xs, r, m => by
    cases m with
    | @cons _ q _ qs h t =>
      obtain ⟨h1, h2⟩ := h
      show KV (mergeT (putK kvs p.1 p.2) more) (merged (stored xs q.1 q.2) qs)
      rw [← h1]
      exact KV_all more qs _ _ (KV.put r p.1 h2) t
section
variable {X : Cx}
def qUpdK : V → List V → Hp → VK → Prop := fun x xs H Q => ∃ (a b : Addr) (kvs more : List (Key × V)), x = .ref a ∧ xs = [.ref b] ∧ H a = some (.dK kvs) ∧ H b = some (.dK more) ∧ a ≠ b ∧
  kvs.length + more.length ≤ 100000 ∧ Q .non (L2.upd H a (.dK (mergeT kvs more)))
theorem mt_updK : MtR X "dict.update" qUpdK := by
  intro pins s σ H x xs v us Q I rx rxs h
  obtain ⟨a, b, kvs, more, rfl, rfl, ha, hb, hne, hl, q⟩ := h
  cases rx
  obtain ⟨u, rfl, ru⟩ := vals1 rxs
  cases ru
  obtain ⟨z1, d1, ks, r1, dd1⟩ := dk_of I.hok ha
  obtain ⟨z2, d2, ms, r2, dd2⟩ := dk_of I.hok hb
  have l1 := Paired.length r1
  have l2 := Paired.length r2
  have szl : (100000 : Nat) ≤ sizeLine := by decide
  refine call_meetsIn PySem.F.slot_dict_update dd1.typeIs PySem.F.entry_dict_update (PySem.F.args_dict_update_2 _ _) (meets_dict_update (mixKind X.prog X.w) a b hne d2) ⟨ks, ms, dd1, dd2, by omega, fun h' e1 e2 hs => ?_⟩
  obtain ⟨qo, es, ep, hq, h2, h3, h4, h5⟩ := e1
  have hlen := mergeT_len more kvs
  refine ⟨.non, L2.upd H a (.dK (mergeT kvs more)), d_write (t' := s.toks) I (by rw [ha]; exact True.intro) hs ⟨qo, hq⟩ ⟨by omega, d1, _, KV_all more ms kvs ks r1 r2, qo, es, ep, hq, h2, h3, h4, h5⟩, rfl, q⟩
theorem rd_updK {a b : Addr} {kvs more : List (Key × V)} {H : Hp} {Q : VK} (ha : H a = some (.dK kvs)) (hb : H b = some (.dK more)) (hne : a ≠ b) (hl : kvs.length + more.length ≤ 100000) (q : Q .non (L2.upd H a (.dK (mergeT kvs more)))) : qUpdK (.ref a) [.ref b] H Q :=
  ⟨a, b, kvs, more, rfl, rfl, ha, hb, hne, hl, q⟩
end
theorem has_merge {κ : Type} [DecidableEq κ] : ∀ (more kvs : List (κ × V)) (k : κ), (valV (mergeT kvs more) k).isSome = ((valV kvs k).isSome || decide (k ∈ more.map (·.1)))
  | [], kvs, k => by simp [mergeT]
  | p :: more, kvs, k => by
    show (valV (mergeT (putK kvs p.1 p.2) more) k).isSome = _
    rw [has_merge more, valV_put]
    by_cases e : k = p.1
    · rw [if_pos e]; simp [e]
    · rw [if_neg e]
      congr 1
      exact decide_eq_decide.mpr ⟨fun h => List.mem_cons_of_mem _ h, fun h => (List.mem_cons.mp h).resolve_left e⟩
theorem rd_dictP {K : PySem.W.Frag} {H : Hp} {Q : VK} {a : Addr} {ps : List Addr} {kvs : List (Key × V)} (h : SqL K H a (ps.map V.ref)) (h2 : Paired (fun p kv => SqT K H p [kV kv.1, kv.2]) ps kvs) (q : ∀ p, H p = none → Q (.ref p) (L2.upd H p (.dK (mergeT [] kvs)))) :
    ∃ (a' : Addr) (ps : List Addr) (kvs : List (Key × V)), [V.ref a] = [.ref a'] ∧ SqL K H a' (ps.map V.ref) ∧ Paired (fun p kv => SqT K H p [kV kv.1, kv.2]) ps kvs ∧ ∀ p, H p = none → Q (.ref p) (L2.upd H p (.dK (mergeK [] kvs))) := ⟨a, ps, kvs, rfl, h, h2, q⟩
end My
/-! == by a class's own __eq__; the place of a number in a tuple of numbers. -/
namespace My
open PySem PySem.Spec L2 SX
open PyProof.Rows hiding St
section
variable {X : Cx}
theorem op_eqM {R : Addr → Addr → Hp → Prop} {C : Addr} {k j : Nat} (M : C8.Met X.prog X.w X.K X.mg X.base k C "__eq__" (spEq R) []) (hr : Room j X.A) (hk : k ≤ j) : OpR X (compareOp .Eq) (rEqG (DIns C R)) := by
  obtain ⟨f, fd, ps, ds, cl, ⟨a, i, kp⟩, F, b, v⟩ := M.ex
  cases v
  exact op_eqG (rcG_ins F a i b (C8.pass0 (E := L2.E0))) (hr.mono hk)
theorem rd_eqM {R : Addr → Addr → Hp → Prop} {C a b dx dy : Addr} {fs gs : List (Str × V)} {H : Hp} {Q : VK} (h1 : H a = some (.ins C dx fs)) (h2 : H b = some (.ins C dy gs)) (r : R a b H) (q : ∀ H', Same H H' → Q (.bl true) H') : rEqG (DIns C R) (.ref a) (.ref b) H Q :=
  ⟨⟨a, b, dx, dy, fs, gs, rfl, rfl, h1, h2, r⟩, fun H' e => q H' e⟩
/-- t.index(n): a tuple of numbers -/
def rTIx (K : PySem.W.Frag) : V → List V → Hp → VK → Prop := fun x xs H Q => ∃ (p : Addr) (ys : List Nat) (n j : Nat), x = .ref p ∧ xs = [vI n] ∧ SqT K H p (rowV ys) ∧ ys[j]? = some n ∧ (∀ m, m < j → ys[m]? ≠ some n) ∧ Q (vI j) H
theorem flat_row (ys : List Nat) : (rowV ys).all flatV = true := by
  unfold rowV
  rw [List.all_map]
  exact List.all_eq_true.mpr fun _ _ => rfl
theorem mt_tIndex : MtR X "tuple.index" (rTIx X.K) := by
  intro pins s σ H x xs v us Q I rx rs h
  obtain ⟨p, ys, z, j, rfl, rfl, hq, hy, hno, q⟩ := h
  cases rx
  obtain ⟨u, rfl, t, rfl⟩ := vals1 rs
  obtain ⟨its, r, pl, hz⟩ := I.tuple hq
  obtain ⟨⟨cls, dd, dt, sl⟩, ho, hc, n, hd⟩ := pl
  simp only at hc hd
  subst hc
  subst hd
  have hl : its.toArray.size = ys.length := by rw [List.size_toArray, ← r.length]; unfold rowV; rw [List.length_map]
  have hj : j < its.toArray.size := by rw [hl]; exact (List.getElem?_eq_some_iff.mp hy).1
  have at' : ∀ (m : Nat) (hm : m < its.toArray.size), ∃ y t', ys[m]? = some y ∧ its.toArray[m] = Value.int ((y : Nat) : Int) t' := fun m hm => by
    have hm' : m < ys.length := by rw [← hl]; exact hm
    obtain ⟨w, hw, t', hw'⟩ := r.get (i := m) (x := vI ys[m]) (by unfold rowV; simp [hm'])
    refine ⟨ys[m], t', List.getElem?_eq_getElem hm', ?_⟩
    have e := (List.getElem?_eq_some_iff.mp hw).2
    rw [← hw', ← e]
    simp
  refine call_meets PySem.F.slot_tuple_index ⟨_, ho, rfl⟩ PySem.F.entry_tuple_index (PySem.F.args_tuple_index_2 _ _) (TI.tuple_indexAt p its.toArray n dd sl (.int ((z : Nat) : Int) t) (eqU (vI z)) j hj ?_ ?_)
    ⟨ho, fun w hw => mem_eqAt (x := vI z) ⟨t, rfl⟩ rfl r (flat_row ys) w (by simpa using hw), ⟨vI j, H, I.tok _, ⟨_, rfl⟩, q⟩⟩
  · obtain ⟨y, t', h1, h2⟩ := at' j hj
    rw [hy] at h1
    cases h1
    rw [h2]
    show (((z : Nat) : Int) == ((z : Nat) : Int)) = true
    exact beq_self_eq_true _
  · intro m hm hmj
    obtain ⟨y, t', h1, h2⟩ := at' m hm
    rw [h2]
    show (((y : Nat) : Int) == ((z : Nat) : Int)) = false
    exact beq_eq_false_iff_ne.mpr fun e => hno m hmj (by rw [h1, Int.ofNat.inj e])
theorem mt_tIndexK (K : PySem.W.Frag) (hK : X.K = K) : MtR X "tuple.index" (rTIx K) := by subst hK; exact mt_tIndex
theorem idx_min {n : Nat} : ∀ (ys : List Nat) (i : Nat), i < ys.idxOf n → ys[i]? ≠ some n
  | [], _, h => by simp at h
  | y :: ys, i, h => by
    rw [List.idxOf_cons] at h
    by_cases e : y = n
    · rw [show (y == n) = true from beq_iff_eq.mpr e] at h
      exact absurd h (by simp)
    · rw [show (y == n) = false from beq_eq_false_iff_ne.mpr e] at h
      cases i with
      | zero => simpa using e
      | succ i =>
        rw [List.getElem?_cons_succ]
        exact idx_min ys i (by simp at h; omega)
theorem rd_tIx {K : PySem.W.Frag} {H : Hp} {Q : VK} {p : Addr} {ys : List Nat} {n : Nat} (h : SqT K H p (rowV ys)) (m : n ∈ ys) (q : Q (vI (ys.idxOf n)) H) : rTIx K (.ref p) [vI n] H Q := by
  have hl := List.idxOf_lt_length_iff.mpr m
  refine ⟨p, ys, n, _, rfl, rfl, h, ?_, fun i hi => idx_min ys i hi, q⟩
  rw [List.getElem?_eq_getElem hl]; simp
/-! tuples of which it is known that they bear no dict: their methods may be called -/
def kTupF (K : PySem.W.Frag) (x : V) (H : Hp) (Q : VK) : Prop := ∃ p xs, x = .ref p ∧ SqL K H p xs ∧ ∀ (q : Addr) (o : Obj), H q = none → o.dict = none → Q (.ref q) (L2.upd H q (.frz o (.tup xs)))
theorem rl_tupF (pins : List (Addr × Obj)) (s : Shared) (σ : L2.St) (H : Hp) (x : V) (v : Value) (Q : VK) (I : Inv X pins σ H s) (r : RelV x v) (h : kTupF X.K x H Q) :
    wpAny (model X.prog X.w) X.A (call (.type "tuple") [v]) (EP X pins σ Q) X.xe s := by
  obtain ⟨p, xs, rfl, hs, q⟩ := h
  obtain rfl : v = .ref p := r
  obtain ⟨its, rv, pl, hz⟩ := I.list hs
  refine call_tuple_list pl.isList (fun h' hk => ?_) (by rw [List.size_toArray, ← rv.length]; exact hz)
  have I1 : Inv X pins σ H { s with heap := h' } := I.kept (t' := s.toks) hk
  have I2 : Inv X pins σ (L2.upd H h'.objs.size (.frz { cls := .type "tuple", data := .seq its.toArray } (.tup xs))) { s with heap := h'.push { cls := .type "tuple", data := .seq its.toArray } } :=
    I1.laid (t' := s.toks) (fun b o e => Heap.get?_push_of_some _ e) (Nat.le_refl _) (show ObjOk X.prog X.w _ _ _ (.frz _ (.tup xs)) from ⟨by simp [Heap.get?, Heap.push], hz, its, rv, IsTup.new _ _⟩)
  exact ⟨.ref h'.objs.size, L2.upd H h'.objs.size (.frz _ (.tup xs)), I2, rfl, q _ _ (I1.hok.fresh (Nat.le_refl _)) rfl⟩
theorem pe_tupleOfF {a : Expr} {ta : TE} {p pos : Pos} (hg : Gl X "tuple") (hm : X.mg "tuple" = none) (ha : PE X a ta) (na : starEach [a] X.env = (false, eval a X.env) :: starEach [] X.env := by rfl) :
    PE X (.Call (.Name "tuple" p) [a] [] pos) (tThen ta (kTupF X.K)) := by
  refine ⟨fun pins s σ H Q I h => ?_⟩
  exact Call_ (ld_blt I hg hm boot_tuple (PyProof.Rows.callWith_type1 (one_arg ha I h (fun v s2 x H2 I2 r q => rl_tupF pins s2 σ H2 x v Q I2 r q) na) na))
theorem rd_thenF {K : PySem.W.Frag} {σ : L2.St} {H : Hp} {Q : VK} {te : TE} (h : te σ H fun x H1 => kTupF K x H1 Q) : tThen te (kTupF K) σ H Q := h
theorem rd_kTupF {K : PySem.W.Frag} {H : Hp} {Q : VK} {p : Addr} {xs : List V} (h : SqL K H p xs) (q : ∀ (q : Addr) (o : Obj), H q = none → o.dict = none → Q (.ref q) (L2.upd H q (.frz o (.tup xs)))) : kTupF K (.ref p) H Q := ⟨p, xs, rfl, h, q⟩
def tBMF (r : V → List V → Hp → VK → Prop) (to : TE) (t : TA) : TE := fun σ H Q => to σ H fun x H1 => (∃ p o xs, x = .ref p ∧ H1 p = some (.frz o (.tup xs)) ∧ o.dict = none) ∧ t σ H1 fun xs H2 => r x xs H2 Q
theorem pe_bmT {o e : Expr} {es : List Expr} {to : TE} {t : TA} {name : Str} {apos cpos : Pos} {id : String} {r : V → List V → Hp → VK → Prop} (pa : PlainAttrs "tuple") (slot : Slot "tuple" name id) (hty : typeOf (.builtin id) = pure (.type "method_descriptor")) (hm : MtR X id r) (ho : PE X o to) (ha : PA X (e :: es) t)
    (hbase : attributeBase o name X.env (eval o X.env) = eval o X.env := by rfl)
    (hfew : ((backTo cpos (starEach (e :: es) X.env)).all (fun x => !x.1) && (backToKw cpos (keywordEach [] X.env)).all (fun x => x.1.isSome)
      && decide ((e :: es).length + ([] : List Keyword).length + (if ([] : List Keyword).isEmpty then 0 else 1) < 30)) = true := by rfl)
    (hline : (apos.endLine == cpos.line) = true := by rfl) (hs : starEach (e :: es) X.env = (false, eval e X.env) :: starEach es X.env := by rfl) (hplain : (backTo cpos (starEach es X.env)).any (·.1) = false := by rfl) :
    PE X (.Call (.Attribute o name apos) (e :: es) [] cpos) (tBMF r to t) := by
  refine ⟨fun pins s σ H Q I h => ?_⟩
  refine wpAny_Call_method_late hbase hfew hline rfl (thn (ho.run pins s σ H _ I h) fun v s1 ⟨x, H1, I1, r1, ⟨p, ob, xs, ex, hp, hd⟩, q1⟩ => ?_)
  subst ex
  obtain rfl : v = .ref p := r1
  obtain ⟨g1, _, its, _, oc, g2, g3, _⟩ := (show ObjOk X.prog X.w H1 s1.heap p (.frz ob (.tup xs)) from I1.hok p _ hp)
  refine ⟨"tuple", id, pa, slot, hty, ⟨oc, g2, g3⟩, (fun a e => by cases e; exact ⟨ob, g1, hd⟩), ?_⟩
  have hA := ha.run cpos pins s1 σ H1 _ I1 q1
  rw [hs] at hA ⊢
  refine Calls.callWith_builtin (by show (false || (backTo cpos (starEach es X.env)).any (·.1)) = false; rw [hplain] <;> rfl) (Calls.evalArgs_plain ?_)
  exact thn hA fun us s2 ⟨vs, H2, I2, r2, q2⟩ => hm pins s2 σ H2 (.ref p) vs (.ref p) us Q I2 rfl r2 q2
theorem rd_bmT {σ : L2.St} {H : Hp} {Q : VK} {r : V → List V → Hp → VK → Prop} {to : TE} {t : TA} (h : to σ H fun x H1 => (∃ p o xs, x = .ref p ∧ H1 p = some (.frz o (.tup xs)) ∧ o.dict = none) ∧ t σ H1 fun xs H2 => r x xs H2 Q) : tBMF r to t σ H Q := h
end
theorem SqT.frz {K : PySem.W.Frag} {H : Hp} {p : Addr} {o : Obj} {xs : List V} (h : H p = some (.frz o (.tup xs))) : SqT K H p xs := .inl (.inr ⟨o, h⟩)
theorem kit_isIn {K : PySem.W.Frag} {t : Value} {C : Addr} (h : PySem.W.isIn K t C = true) : PySem.W.kitOne K t (.ref C) = some true := by
  unfold PySem.W.isIn at h
  unfold PySem.W.kitOne
  by_cases c : (t == .ref C) = true
  · rw [if_pos c]
  · rw [if_neg c]
    rw [Bool.not_eq_true] at c
    rw [c, Bool.false_or, Bool.and_eq_true, Bool.and_eq_true, Bool.and_eq_true] at h
    unfold PySem.W.kitCls
    show (if ((PySem.W.clsIn K C).isSome && PySem.W.typeIn K (.ref C) == some (.type "type")) = true then PySem.W.subIn K t (.ref C) else none) = some true
    rw [if_pos (by rw [Bool.and_eq_true]; exact h.1.1)]
    exact eq_of_beq h.2
end My
/-! != of two objects of one class with an own __eq__ and no own __ne__. -/
namespace My
open PySem PySem.Spec PySem.W L2 SX
open PyProof.Rows hiding St
/-- the class takes object's __ne__ -/
structure NeC (K : PySem.W.Frag) (C : Addr) : Prop where
  ne : findIn K (.ref C) "__ne__" = some (some (.builtin "object.__ne__"))
  mo : mroIn K C (.type "object") = some true
section
variable {prog : Program} {w : World} {A : Around} {E : Value → Shared → Prop} {s : Shared} {K : Frag} {x C L f : Addr} {h₀ : Heap} {m : Str → Option Value} {ox : Obj} {od : Option Obj} {b : Value}
theorem check_K {M : Model} {id owner n : String} {rest : List Value} {Q : Unit → Shared → Prop} (X : K.In s.heap) (I : InstAt s.heap x ox C od) (hm : mroIn K C (.type owner) = some true) (hk : builtinKind id = some .slot) (hs : splitId id = some (owner, n))
    (ha : argsOk id ⟨.ref x :: rest, []⟩) (hq : Q () s) : wpAny M A (checkBuiltinCall id ⟨.ref x :: rest, []⟩) Q E s := by
  simp only [checkBuiltinCall, hk, hs]
  refine wpAny_bind ?_
  unfold isInstance
  refine wpAny_bind (I.type.here ((looks_mroIn X hm).here ?_))
  cases hsig : Manifest.signature? id with
  | none => exact wpAny_pure hq
  | some sig =>
    simp only [argsOk, hsig] at ha
    have h2 : Bind.checkArgs id sig ⟨.ref x :: rest, []⟩ = pure () := ha
    show wpAny M A (Bind.checkArgs id sig ⟨.ref x :: rest, []⟩) Q E _
    rw [h2]; exact wpAny_pure hq
theorem ifBound_B {M : Model} {T : String} {id : String} {name : Str} {args : List Value} {Q : Option Value → Shared → Prop} (X : K.In s.heap) (I : InstAt s.heap x ox C od) (hs : findIn K (.ref C) name = some (some (.builtin id))) (S : Slot T name id)
    (h : wpAny M A (call (.builtin id) (.ref x :: args)) (fun v => Q (some v)) E s) : wpAny M A (callSpecialIfBound? (.ref x) name args) Q E s := by
  simp only [callSpecialIfBound?, bindSpecialIfBound?]
  refine wpAny_holding (wpAny_bind (wpAny_bind (wpAny_bind (I.type.here ((looks_findIn X hs).here ?_)))))
  simp only [S.bind]
  refine wpAny_bind (wpAny_askSetting (wpAny_ite ?_))
  have fin : wpAny M A (call (.builtin id) ([.ref x] ++ args) >>= fun v => pure (some v)) Q E s := wpAny_bind (wpAny_mono h (fun v s' h' => wpAny_pure h') fun _ _ h' => h')
  split
  · exact wpAny_bind (wpAny_pure (wpAny_pure fin))
  · exact wpAny_tryCatch (wpAny_bind (wpAny_pure (wpAny_pure fin)))
theorem ne_entry {Q : Fin → Shared → Prop} (X : K.In s.heap) (I : InstAt s.heap x ox C od) (hs : findIn K (.ref C) "__eq__" = some (some (.ref f))) (hf : isFn K (.ref f) = true) (hu : A.units < cLine)
    (h : wpAny (model prog w) A (call (.ref f) [.ref x, b]) (fun v s' => ∃ c, v = .bool c ∧ Q (.done (.ret (.bool (!c)))) s') E s) : wpAny (model prog w) A (Builtin.«object.__ne__» ⟨[.ref x, b], []⟩) Q E s := by
  have key : wpAny (model prog w) A (callSpecialIfBound? (.ref x) (Str.ofString "__eq__") [b]) (fun r s' => ∃ c, r = some (.bool c) ∧ Q (.done (.ret (.bool (!c)))) s') E s :=
    ifBound_K X I hs hf (wpAny_mono h (fun v s' ⟨c, e, q⟩ => ⟨c, by rw [e], q⟩) fun _ _ e => e)
  obtain ⟨hh, g, d, t, os⟩ := s
  unfold Builtin.«object.__ne__»
  repeat (first
    | with_reducible refine wpAny_cRoomFor hu ?_
    | (refine wpAny_bind (m := callSpecialIfBound? (.ref x) (Str.ofString "__eq__") [b])
        (wpAny_mono key (fun r s' hr => by
          obtain ⟨c, rfl, hq⟩ := hr
          repeat (first | exact hq | exact wpAny_pure hq | exact wpAny_truthy_bool hq | (refine wpAny_bind (m := truthy (.bool _)) (wpAny_truthy_bool ?_)) | wp_step)) fun _ _ e => e))
    | wp_step)
theorem ne_K {Q : Value → Shared → Prop} (hu : A.units + 1 < cLine) (Fx : Fr h₀ L s.heap m) (X₀ : K.In h₀) (I : InstAt s.heap x ox C od) (hb : Looks (model prog w) s.heap (typeOf b) (.ref C)) (N : NeC K C)
    (hs : findIn K (.ref C) "__eq__" = some (some (.ref f))) (hf : isFn K (.ref f) = true)
    (h : wpAny (model prog w) A.in1 (call (.ref f) [.ref x, b]) (fun v s' => ∃ c, v = .bool c ∧ Q (.bool (!c)) s') E s) : wpAny (model prog w) A (richCompare .NotEq (.ref x) b) Q E s := by
  have X := X₀.keeps Fx.keep
  have one : wpAny (model prog w) A (tryCompare (.ref x) "__ne__" b) (fun r s' => ∃ v, r = some v ∧ Q v s') E s := by
    unfold tryCompare
    refine wpAny_bind (ifBound_B X I N.ne PySem.F.cmp_object.ne (wpAny_call (codeAny_call_builtin PySem.F.cmp_object.ne.plain PySem.F.cmpEntry_ne (check_K X I N.mo PySem.F.cmpKind_ne PySem.F.cmpSplit_ne (PySem.F.cmpArgs_ne _ _) (ne_entry (A := A.in1) X I hs hf hu (wpAny_mono h (fun v s' hv => ?_) fun _ _ e => e))))))
    obtain ⟨c, rfl, q⟩ := hv
    first | exact ⟨c, rfl, wpAny_pure ⟨_, rfl, q⟩⟩ | exact ⟨c, rfl, _, rfl, q⟩
  unfold richCompare
  simp only [oneThing_ref]
  refine wpAny_holding (wpAny_bind (wpAny_cRoomFor (Nat.lt_of_succ_lt hu) ?_))
  rw [cmpInfo_NotEq]
  dsimp only
  refine wpAny_bind (I.type.here (wpAny_bind (hb.here ?_)))
  rw [show (Value.ref C != Value.ref C) = false from by simp]
  simp only [Bool.false_eq_true, if_false]
  refine wpAny_bind (wpAny_pure ?_)
  simp only [Bool.false_eq_true, if_false]
  refine wpAny_bind (wpAny_mono one (fun r s' z => ?_) fun _ _ e => e)
  obtain ⟨v, rfl, hq⟩ := z
  exact wpAny_pure hq
end
/-- x != y of two that are equal -/
def rNeG (D : Eqv) : R2 := fun x y H Q => D x y H ∧ ∀ H', Ext H H' → Q (.bl false) H'
section
variable {X : Cx}
theorem op_neM {R : Addr → Addr → Hp → Prop} {C : Addr} {k j : Nat} (N : NeC X.K C) (M : C8.Met X.prog X.w X.K X.mg X.base k C "__eq__" (spEq R) []) (hr : Room j X.A) (hk : k + 1 ≤ j) : OpR X (compareOp .NotEq) (rNeG (DIns C R)) := by
  obtain ⟨f, fd, ps, ds, cl, ⟨a, i, kp⟩, F, hb, v⟩ := M.ex
  cases v
  intro pins s σ H x y v u Q I rx ry hq
  obtain ⟨d, q⟩ := hq
  obtain ⟨a1, b1, dx, dy, fs, gs, rfl, rfl, ha, hb', hR⟩ := d
  cases rx
  cases ry
  have hr1 : Room (k + 1) X.A := hr.mono hk
  obtain ⟨mA, J, _⟩ := ins_get I.hok ha
  obtain ⟨mB, J', _⟩ := ins_get I.hok hb'
  obtain ⟨od, J, _⟩ := J.look
  obtain ⟨od', J', _⟩ := J'.look
  obtain ⟨m, hF⟩ := I.fr
  show wpAny (model X.prog X.w) X.A (richCompare .NotEq _ _) (EP X pins σ Q) X.xe s
  refine ne_K (by have := hr1.in1.units0; exact this) hF I.ok.mod.kin J J'.type N a i ?_
  have hsp : spEq R [.ref a1, .ref b1] H (fun v H' => v = .bl true ∧ Ext H H') L2.E0 := ⟨a1, b1, rfl, hR, fun H' e => ⟨rfl, e⟩⟩
  have e0 : Env0 X.prog X.w X.K X.mg X.base X.A.in1 X.stack s H := by
    have e := I.env0
    exact ⟨e.frames, e.mod, e.bs, e.bsz, e.funs, e.frf, e.hok, e.bare⟩
  have hl := F.len _ _ _ _ hsp
  have r2 : Vals [V.ref a1, V.ref b1] [Value.ref a1, Value.ref b1] := .cons rfl (.cons rfl .nil)
  refine wpAny_call (codeAny_mono (F.run X.A.in1 X.stack s H ⟨[.ref a1, .ref b1], []⟩ [.ref a1, .ref b1] [.ref a1, .ref b1] _ L2.E0 hr1.in1 e0 (by
    have := hb s [.ref a1, .ref b1] I.kIn (by simpa using hl)
    simpa using this) r2 hsp) fun r s' hq => ?_)
  cases r with
  | error e => exact (C8.pass0 (E := L2.E0)) pins σ H s e s' I hq
  | ok fl =>
    cases fl with
    | ret w =>
      obtain ⟨z, H', I', rz, ez, ex⟩ := I.after hq
      subst ez
      cases rz
      exact ⟨true, rfl, .bl false, H', I', rfl, q H' ex⟩
    | next => exact False.elim hq
    | brk => exact False.elim hq
    | cont => exact False.elim hq
theorem rd_neM {R : Addr → Addr → Hp → Prop} {C a b dx dy : Addr} {fs gs : List (Str × V)} {H : Hp} {Q : VK} (h1 : H a = some (.ins C dx fs)) (h2 : H b = some (.ins C dy gs)) (r : R a b H) (q : ∀ H', Same H H' → Q (.bl false) H') : rNeG (DIns C R) (.ref a) (.ref b) H Q :=
  ⟨⟨a, b, dx, dy, fs, gs, rfl, rfl, h1, h2, r⟩, fun H' e => q H' e⟩
end
end My
/-! try with several except clauses, each with or without a name. -/
namespace My
open PySem PySem.Spec L2
open PyProof.Rows hiding St
/-- a clause: its class, the slot of its name, its suite -/
abbrev Cl3 := Value × Option Nat × (Addr → Value → Option Addr → TS)
def gone (i : Nat) (D : Ends) : Ends := { nx := fun σ' H' => D.nx (σ'.set i none) H', rt := D.rt, bk := fun σ' H' => D.bk (σ'.set i none) H', ct := fun σ' H' => D.ct (σ'.set i none) H' }
/-- what one clause does -/
def doCl (D : Ends) (c : Cl3) (a : Addr) (cls : Value) (d : Option Addr) (σ : L2.St) (H : Hp) : Prop := match c.2.1 with
  | none => c.2.2 a cls d D σ H
  | some i => c.2.2 a cls d (gone i D) (σ.set i (some (.ref a))) H
def wCl (K : PySem.W.Frag) (Wout : WX) (D : Ends) : List Cl3 → WX
  | [] => Wout
  | c :: r => fun cls d σ H => ∃ b, PySem.W.exmOne K cls c.1 = some b ∧ (b = true → ∀ a, H a = none → doCl D c a cls d σ H) ∧ (b = false → wCl K Wout D r cls d σ H)
inductive Cls3 (X : Cx) : List ExceptHandler → List Cl3 → Prop
  | nil : Cls3 X [] []
  | one {x : Str} {c : Value} {ts : Addr → Value → Option Addr → TS} {b₀ : Stmt} {suite : List Stmt} {np pos' : Pos} {hds : List ExceptHandler} {l : List Cl3} (hc : Names X x c)
      (hsu : ∀ (a : Addr) (oe : Obj) (cls : Value) (d : Option Addr) (pn : List (Addr × Obj)), Zc cls d oe → (∃ vs, oe.data = .fields vs) → PSs (X.suite a ((a, oe) :: pn)) (b₀ :: suite) (ts a cls d)) (r : Cls3 X hds l) :
      Cls3 X (.ExceptHandler (some (.Name x np)) none (b₀ :: suite) pos' :: hds) ((c, none, ts) :: l)
  | named {x n : Str} {i : Nat} {c : Value} {ts : Addr → Value → Option Addr → TS} {b₀ : Stmt} {suite : List Stmt} {np pos' : Pos} {hds : List ExceptHandler} {l : List Cl3} (hi : X.N[i]? = some n) (hln : X.env.kindOf n = some .local) (hc : Names X x c)
      (hsu : ∀ (a : Addr) (oe : Obj) (cls : Value) (d : Option Addr) (pn : List (Addr × Obj)), Zc cls d oe → (∃ vs, oe.data = .fields vs) → PSs (X.suite a ((a, oe) :: pn)) (b₀ :: suite) (ts a cls d)) (r : Cls3 X hds l) :
      Cls3 X (.ExceptHandler (some (.Name x np)) (some n) (b₀ :: suite) pos' :: hds) ((c, some i, ts) :: l)
section
variable {X : Cx} {body : List Stmt} {h₀ : ExceptHandler} {hds : List ExceptHandler} {l : List Cl3} {pos : Pos} {tb : WX → TS} {Wout : WX}
theorem ps_tryA (hs : X.stack = X.env :: X.outer) (hf : X.env.frame = some X.env.locals) (hN : X.N.Nodup) (tk : Takes X Wout)
    (hb : ∀ (W : WX) (pn : List (Addr × Obj)) (xe : Value → Shared → Prop), Takes (X.tr pn xe) W → PassesOwn (model X.prog X.w) X.A X.env xe → PSs (X.tr pn xe) body (tb W))
    (hh : Cls3 X (h₀ :: hds) l) : PS X (.Try body (h₀ :: hds) [] [] pos) (fun D σ H => tb (wCl X.K Wout D l) D σ H) := by
  refine ⟨fun pins s σ H D I h => ?_⟩
  have ok := I.ok
  have hfr : X.A.frames = some (X.env :: X.outer) := by rw [ok.frames, hs]
  refine wpAny_Try_except ?_
  refine wpAny_mono ((hb (wCl X.K Wout D l) (X.pn ++ pins) (fun e s₁ => wpAny (model X.prog X.w) X.A (noteFrame e X.env) (fun _ s₂ => wpAny (model X.prog X.w) X.A (setFlight e none) (fun _ s₃ =>
    wpAny (model X.prog X.w) X.A (handleBy e X.env (h₀ :: hds)) (SP X pins D) X.xe s₃) X.xe s₂) X.xe s₁) (fun u s' xx => ?_) PassesOwn.looking).run [] s σ H D (I.toTry _) h) (fun f s1 hsp => ?_) (fun e s1 he => he)
  · obtain ⟨a, B, sI, pins', σ', H', cls, d, rfl, J', nb, up, sky, na, os, ag, w⟩ := xx
    have J : Inv X pins σ' H' sI := J'.ofTry ok
    have sky' : Sky B (X.env :: X.outer) a (Zc cls d) X.env.locals s'.heap := by rw [← hs]; exact sky
    show wpAny (model X.prog X.w) X.A (noteFrame (.ref a) X.env) _ _ _
    refine Sky.land Zc.steady hfr hf sky' fun h3 fl3 up3 => ?_
    have J3 : Inv X pins σ' H' { s' with heap := h3 } := J.landed nb fl3.1 (up.trans up3) os ag
    obtain ⟨oe3, vs3, he3, hz3, hd3⟩ := fl3.there
    have notFr : ∀ {h : Heap} {o : Obj} {vs : Array Value}, h.FunFrames B (X.env :: X.outer) → h.get? a = some o → o.data = .fields vs → a ∉ frs (X.env :: X.outer) := fun {h o vs} ff e dd hm => by
      obtain ⟨_, o', e', hnf⟩ := ff.mem hm
      rw [e] at e'; cases e'
      exact hnf _ dd
    have nfr := notFr fl3.2.2.1 he3 hd3
    have nL : a ≠ X.env.locals := fun z => nfr (List.mem_filterMap.mpr ⟨X.env, List.mem_cons_self, by rw [hf, z]⟩)
    have nF : a ∉ X.fs := fun hm => by
      obtain ⟨e, he, q⟩ := List.mem_filterMap.mp hm
      exact nfr (List.mem_filterMap.mpr ⟨e, List.mem_cons_of_mem _ he, q⟩)
    have S3 := J3.suite he3 hd3 na nL nF
    have go : ∀ {hds' : List ExceptHandler} {l' : List Cl3}, Cls3 X hds' l' → wCl X.K Wout D l' cls d σ' H' →
        wpAny (model X.prog X.w) X.A (handleBy (.ref a) X.env hds') (SP X pins D) X.xe { s' with heap := h3 } := by
      intro hds' l' hk
      have LT : PySem.W.Looks (model X.prog X.w) h3 (typeOf (.ref a)) cls := fun A Q E s k q => wpAny_typeOf_ref (k _ _ he3) (by rw [hz3.1]; exact q)
      have test : ∀ {x : Str} {c : Value} {np : Pos} {Q : Value → Shared → Prop} {E : Value → Shared → Prop}, Names X x c → Q c { s' with heap := h3 } → wpAny (model X.prog X.w) (X.A.mark (some (.ref a))) (eval (.Name x np) X.env) Q E { s' with heap := h3 } := fun {x c np Q E} hc q => by
        obtain ⟨hg, hdbg, hm | ⟨hm, hv, hnn⟩⟩ := hc
        · exact ld_glob (X := X.suite a ((a, oe3) :: (X.pn ++ pins))) S3 hg hm q hdbg
        · exact ld_blt (X := X.suite a ((a, oe3) :: (X.pn ++ pins))) S3 hg hm hv q hnn hdbg
      induction hk with
      | nil =>
        intro w
        refine wpAny_handleBy_nil ?_
        obtain ⟨k1, k2, k3, oe, vs, T, oT, ts', he, hz, hd, h1, hr⟩ := id fl3
        unfold PySem.passOn
        refine wpAny_bind (wpAny_field he hd h1 ?_)
        rw [if_neg (show ¬ ((Value.ref T == Value.none) = true) from by simp)]
        have fin : wpAny (model X.prog X.w) X.A (setFlight (.ref a) X.env.frame) (fun _ s4 => wpAny (model X.prog X.w) X.A (throw (.ref a) : Sem Flow) (SP X pins D) X.xe s4) X.xe { s' with heap := h3 } := by
          rw [hf]
          refine HandSPX.setFlight_upZ fl3 fun h4 hh4 up4 => wpAny_throw (tk _ _ ?_)
          exact ⟨a, B, sI, pins, σ', H', cls, d, rfl, J, nb, (up.trans up3).trans up4, .inr (.inr (by rw [hs]; exact hh4)), na, os, ag, w⟩
        first
          | exact wpAny_bind (wpAny_pure (wpAny_bind fin))
          | exact wpAny_bind fin
      | @one x c ts b₀ suite np pos' hds2 l2 hc hsu r ih =>
        intro w
        obtain ⟨b, hb1, hyes, hno⟩ := w
        have LM := PySem.W.exm_one (M := model X.prog X.w) (J3.kIn) LT hb1
        refine wpAny_handleBy_cons (codeAny_handlers_test ?_) (by intro q; cases q)
        refine test hc (LM.here ?_)
        cases b with
        | true =>
          refine codeAny_handlers_suite ?_
          refine HandSPX.lands_againZ fl3 fun h4 fl4 up4 => ?_
          have J4 : Inv X pins σ' H' { s' with heap := h4 } := J.landed nb fl4.1 ((up.trans up3).trans up4) os ag
          obtain ⟨oe4, vs4, he4, hz4, hd4⟩ := fl4.there
          have S4 := J4.suite he4 hd4 na nL nF
          refine wpAny_mono ((hsu a oe4 cls d (X.pn ++ pins) hz4 ⟨_, hd4⟩).run [] _ _ H' _ S4 (hyes rfl a na)) (fun f s6 hsp => ?_) (fun _ _ z => False.elim z)
          cases f with
          | next =>
            obtain ⟨σ6, H6, S6, q6⟩ := hsp
            exact ⟨_, _, S6.unsuite ok, q6⟩
          | brk =>
            obtain ⟨σ6, H6, S6, q6⟩ := hsp
            exact ⟨_, _, S6.unsuite ok, q6⟩
          | cont =>
            obtain ⟨σ6, H6, S6, q6⟩ := hsp
            exact ⟨_, _, S6.unsuite ok, q6⟩
          | ret u =>
            obtain ⟨v6, σ6, H6, S6, r6, q6⟩ := hsp
            exact ⟨_, _, _, S6.unsuite ok, r6, q6⟩
        | false =>
          show wpAny _ X.A (handleBy (.ref a) X.env hds2) _ _ _
          exact ih (hno rfl)
      | @named x n i c ts b₀ suite np pos' hds2 l2 hi hln hc hsu r ih =>
        intro w
        obtain ⟨b, hb1, hyes, hno⟩ := w
        have hloc : Loc X.env.scope n := .inl hln
        have LM := PySem.W.exm_one (M := model X.prog X.w) (J3.kIn) LT hb1
        refine wpAny_handleBy_cons (codeAny_handlers_test ?_) (by intro q; cases q)
        refine test hc (LM.here ?_)
        cases b with
        | true =>
          refine codeAny_handlers_suite_as ?_
          refine HandSPX.lands_againZ fl3 fun h4 fl4 up4 => ?_
          have J4 : Inv X pins σ' H' { s' with heap := h4 } := J.landed nb fl4.1 ((up.trans up3).trans up4) os ag
          obtain ⟨oe4, vs4, he4, hz4, hd4⟩ := fl4.there
          have S4 := J4.suite he4 hd4 na nL nF
          refine store_ok (X := X.suite a ((a, oe4) :: (X.pn ++ pins))) (v := .ref a) S4 hN hi hloc rfl (fun s5 S5 => ?_) (.inr hln)
          refine wpAny_mono ((hsu a oe4 cls d (X.pn ++ pins) hz4 ⟨_, hd4⟩).run [] s5 _ H' _ S5 (hyes rfl a na)) (fun f s6 hsp => ?_) (fun _ _ z => False.elim z)
          have end_ : ∀ {σ6 : L2.St} {H6 : Hp} {Q : Shared → Prop}, Inv (X.suite a ((a, oe4) :: (X.pn ++ pins))) [] σ6 H6 s6 → (∀ s7, Inv X pins (σ6.set i none) H6 s7 → Q s7) →
              wpAny (model X.prog X.w) X.A (do bindName X.env n .none; unbindBehindTheSuite X.env n pos') (fun _ s7 => Q s7) X.xe s6 := fun {σ6 H6 Q} S6 hq => gone_ok (S6.unsuite ok) hN hi hln hq
          cases f with
          | next =>
            obtain ⟨σ6, H6, S6, q6⟩ := hsp
            exact end_ S6 fun s7 J7 => ⟨_, _, J7, q6⟩
          | brk =>
            obtain ⟨σ6, H6, S6, q6⟩ := hsp
            exact end_ S6 fun s7 J7 => ⟨_, _, J7, q6⟩
          | cont =>
            obtain ⟨σ6, H6, S6, q6⟩ := hsp
            exact end_ S6 fun s7 J7 => ⟨_, _, J7, q6⟩
          | ret u =>
            obtain ⟨v6, σ6, H6, S6, r6, q6⟩ := hsp
            exact end_ S6 fun s7 J7 => ⟨_, _, _, J7, r6, q6⟩
        | false =>
          show wpAny _ X.A (handleBy (.ref a) X.env hds2) _ _ _
          exact ih (hno rfl)
    exact go hh w
  · cases f with
    | next =>
      obtain ⟨σ', H', J', q⟩ := hsp
      exact wpAny_execs_nil ⟨σ', H', J'.ofTry ok, q⟩
    | brk =>
      obtain ⟨σ', H', J', q⟩ := hsp
      exact ⟨σ', H', J'.ofTry ok, q⟩
    | cont =>
      obtain ⟨σ', H', J', q⟩ := hsp
      exact ⟨σ', H', J'.ofTry ok, q⟩
    | ret u =>
      obtain ⟨v, σ', H', J', r, q⟩ := hsp
      exact ⟨v, σ', H', J'.ofTry ok, r, q⟩
end
end My
/-! Defs, methods and classes' makings that may raise; raise of own exceptions with fields; how these are read. -/
namespace My
open PySem PySem.Spec L2
open PyProof.Rows hiding St
/-- a def that may raise -/
structure CalX (P : Program) (w : World) (K : PySem.W.Frag) (mg : Str → Option Value) (base : Heap) (k : Nat) (x : Str) (sp : Sp) : Prop where
  ex : ∃ (f : Addr) (fd : FuncData) (ps : List Str), FnOk P w K mg base (L2.CX P w) k f fd ps sp ∧ mg x = some (.ref f) ∧ PySem.W.keepIn K (.ref f) = true ∧ Binds K fd ps []
/-- a class whose making may raise -/
structure MakX (P : Program) (w : World) (K : PySem.W.Frag) (mg : Str → Option Value) (base : Heap) (k : Nat) (x : Str) (C : Addr) (sp : Sp) : Prop where
  ex : ∃ (f : Addr) (fd : FuncData) (ps : List Str), L2.Mk K C f ∧ FnOk P w K mg base (L2.CX P w) k f fd ps sp ∧ mg x = some (.ref C) ∧ Binds K fd ps []
/-- a method that may raise -/
structure MetX (P : Program) (w : World) (K : PySem.W.Frag) (mg : Str → Option Value) (base : Heap) (k : Nat) (C : Addr) (m : Str) (sp : Sp) : Prop where
  ex : ∃ (f : Addr) (fd : FuncData) (ps : List Str), L2.Cls K C ∧ L2.Meth K C m f ∧ FnOk P w K mg base (L2.CX P w) k f fd ps sp ∧ Binds K fd ps []
/-- an own exception class, its __init__ a def -/
structure MkE (P : Program) (w : World) (K : PySem.W.Frag) (mg : Str → Option Value) (base : Heap) (k : Nat) (x : Str) (C : Addr) (sp : Sp) : Prop where
  ex : ∃ (f : Addr) (fd : FuncData) (ps : List Str), OexC K C ∧ PySem.W.findIn K (.ref C) "__init__" = some (some (.ref f)) ∧ PySem.W.typeIn K (.ref f) = some (.type "function") ∧ FnOk P w K mg base L2.CX0 k f fd ps sp ∧ mg x = some (.ref C) ∧ Binds K fd ps []
def tMakeS (C : Addr) (sp : Sp) (E : L2.St → XK) (t : TA) : TE := fun σ H Q => t σ H fun vs H1 => ∀ x dx, H1 x = none → H1 dx = none → dx ≠ x →
  sp (.ref x :: vs) (L2.upd (L2.upd H1 dx (.own x)) x (.ins C dx [])) (fun v H2 => v = .non ∧ Q (.ref x) H2) (E σ)
def tMethS (C : Addr) (m : Str) (sp : Sp) (E : L2.St → XK) (ta : TE) (t : TA) : TE := fun σ H Q => ta σ H fun x H1 => ∃ a dx fs, x = .ref a ∧ H1 a = some (.ins C dx fs) ∧ fs.lookup m = none ∧
  t σ H1 fun vs H2 => sp (x :: vs) H2 Q (E σ)
section
variable {X : Cx} {k j : Nat} {x m : Str} {C : Addr} {sp : Sp} {W : WX} {p pos apos : Pos} {e o : Expr} {es : List Expr} {t : TA} {ta : TE}
theorem pe_cX (c : CalX X.prog X.w X.K X.mg X.base k x sp) (hr : Room j X.A) (hk : k ≤ j) (hg : Gl X x) (tk : L2.Takes X W) (ha : PA X (e :: es) t)
    (hdb : (x == ("__debug__" : Str)) = false := by decide) (he : starEach (e :: es) X.env = (false, eval e X.env) :: starEach es X.env := by rfl) (hpl : (backTo pos (starEach es X.env)).any (·.1) = false := by rfl) :
    PE X (.Call (.Name x p) (e :: es) [] pos) (tCallS sp (WE W) t) := by
  obtain ⟨f, fd, ps, F, hm, kp, b⟩ := c.ex
  exact pe_callS F (hr.mono hk) hg hm kp b (fun σ => passAt tk σ) ha hdb he hpl
theorem pe_mkX (c : MakX X.prog X.w X.K X.mg X.base k x C sp) (hr : Room j X.A) (hk : k + 1 ≤ j) (hg : Gl X x) (tk : L2.Takes X W) (ha : PA X (e :: es) t)
    (hdb : (x == ("__debug__" : Str)) = false := by decide) (he : starEach (e :: es) X.env = (false, eval e X.env) :: starEach es X.env := by rfl) (hpl : (backTo pos (starEach es X.env)).any (·.1) = false := by rfl) :
    PE X (.Call (.Name x p) (e :: es) [] pos) (tMakeS C sp (WE W) t) := by
  obtain ⟨f, fd, ps, M, F, hm, hb⟩ := c.ex
  have hr := hr.mono hk
  refine ⟨fun pins s σ H Q I h => ?_⟩
  refine wpAny_Call_Name_kw (ld_glob I hg hm ?_ hdb)
  refine PySem.W.callWith_K (h₀ := X.base) I.ok.mod.kin M.kp (thn (ha.run pos pins s σ H _ I h) fun us s1 ⟨vs, H1, I1, r, q⟩ => ⟨I1.kIn, ?_⟩) he hpl
  have hq := q (s1.heap.objs.size + 1) s1.heap.objs.size (I1.hok.fresh (Nat.le_succ _)) (I1.hok.fresh (Nat.le_refl _)) (Nat.ne_of_lt (Nat.lt_succ_self _))
  have I2 := Inv.made (C := C) I1
  have r2 : Vals (V.ref (s1.heap.objs.size + 1) :: vs) (Value.ref (s1.heap.objs.size + 1) :: us) := .cons rfl r
  have hl : (Value.ref (s1.heap.objs.size + 1) :: us ++ []).length = ps.length := by
    rw [List.append_nil, ← r2.length]; exact F.len _ _ _ _ hq
  have hbs := hb _ (Value.ref (s1.heap.objs.size + 1) :: us) I2.kIn hl
  rw [List.append_nil] at hbs
  refine wpAny_call (make_map (f := f) I1.kIn M.makes M.init (beq_iff_eq.mp M.fn) (codeAny_mono (F.run _ X.stack _ _ ⟨Value.ref (s1.heap.objs.size + 1) :: us, []⟩ (Value.ref (s1.heap.objs.size + 1) :: us) _ _ (WE W σ) (hr.make C us [])
    (I2.env0.make C us []) hbs r2 hq) fun r s' hq' => ?_))
  cases r with
  | error e => exact passAt tk σ pins _ _ e s' I2 hq'
  | ok fl =>
    cases fl with
    | ret u =>
      obtain ⟨v, H', I3, rv, ev, q3⟩ := I2.after hq'
      subst ev
      exact ⟨rv, ⟨V.ref (s1.heap.objs.size + 1), H', I3, rfl, q3⟩⟩
    | next => exact False.elim hq'
    | brk => exact False.elim hq'
    | cont => exact False.elim hq'
theorem pe_mtX {pl : Sem Bool} (c : MetX X.prog X.w X.K X.mg X.base k C m sp) (hr : Room j X.A) (hk : k ≤ j) (tk : L2.Takes X W) (he : PE X o ta) (ha : PA X (e :: es) t)
    (hst : starEach (e :: es) X.env = (false, eval e X.env) :: starEach es X.env := by rfl) (hpl : (backTo pos (starEach es X.env)).any (·.1) = false := by rfl)
    (ht : eval (.Call (.Attribute o m apos) (e :: es) [] pos) X.env = (do
      let ov ← eval o X.env
      standAt apos.atName
      let (f, first) ← holding [ov] (getMethod ov m pl)
      callWith pos f first (backTo pos (starEach (e :: es) X.env)) (backToKw pos (keywordEach [] X.env))) := by rfl) :
    PE X (.Call (.Attribute o m apos) (e :: es) [] pos) (tMethS C m sp (WE W) ta t) := by
  obtain ⟨f, fd, ps, hc, hm, F, hb⟩ := c.ex
  refine ⟨fun pins s σ H Q I h => ?_⟩
  refine PySem.W.methodCall_KW (pl := pl) (thn (he.run pins s σ H _ I h) fun u s1 ⟨x, H1, I1, rx, a, dx, fs, ex, ea, l, q⟩ => ?_) ht
  subst ex
  obtain rfl : u = Value.ref a := rx
  refine getmeth_ok I1 ea hc hm l ?_
  refine PySem.W.callWith_K (first := [.ref a]) (h₀ := X.base) I.ok.mod.kin hm.kp (thn (ha.run pos pins s1 σ H1 _ I1 q) fun us s2 ⟨vs, H2, I2, r, q2⟩ => ⟨I2.kIn, ?_⟩) hst hpl
  exact run_fnS (us := .ref a :: us) (vs := .ref a :: vs) (E := WE W) F (hr.mono hk) hb (passAt tk σ) I2 (.cons rfl r) q2
/-- raise X(e, ..) -/
theorem ps_raiseE {pos2 : Pos} (hc : X.calm = true) (tk : L2.Takes X W) (c : MkE X.prog X.w X.K X.mg X.base k x C sp) (hr : Room j X.A) (hk : k + 1 ≤ j) (hg : Gl X x) (ha : PA X (e :: es) t)
    (hdb : (x == ("__debug__" : Str)) = false := by decide) (he : starEach (e :: es) X.env = (false, eval e X.env) :: starEach es X.env := by rfl) (hpl : (backTo pos (starEach es X.env)).any (·.1) = false := by rfl) :
    PS X (.Raise (some (.Call (.Name x p) (e :: es) [] pos)) none pos2) (fun _ σ H => tMkO C sp [] t σ H fun cls d H' => W cls d σ H') := by
  obtain ⟨f, fd, ps, T, iC, tI, F, hm, b⟩ := c.ex
  exact L2.ps_raise hc tk (pmk_oex T iC tI F (hr.mono hk) b .nil L2.pass0 hg hm ha hdb he hpl)
end
/-! ### readings -/
/-- what the __init__ of an exception with one field promises -/
def spE1 (K : PySem.W.Frag) (C : Addr) (f : Str) : Sp := fun vs H Q _ => ∃ (a : Addr) (v : V), vs = [.ref a, v] ∧ H a = some (exo a C none) ∧ ∀ dx, H dx = none → dx ≠ a → Q .non (L2.upd (L2.upd H dx (exd dx [(f, v)])) a (exo a C (some dx)))
/-- .. with two -/
def spE2 (K : PySem.W.Frag) (C : Addr) (f g : Str) : Sp := fun vs H Q _ => ∃ (a : Addr) (v u : V), vs = [.ref a, v, u] ∧ H a = some (exo a C none) ∧ ∀ dx, H dx = none → dx ≠ a → Q .non (L2.upd (L2.upd (L2.upd H dx (exd dx [(f, v)])) a (exo a C (some dx))) dx (exd dx [(g, u), (f, v)]))
theorem exd_ne {a d d' C : Addr} {o : Option Addr} {fs : List (Str × V)} : exd d fs = exd d fs := rfl
section
variable {K : PySem.W.Frag} {C : Addr} {f g : Str} {σ : L2.St} {H : Hp} {Q : XK}
/-- the heap when such an exception flies -/
theorem rd_mkE1 {v : V} (h : ∀ d, H d = none → Q (.ref C) (some d) (L2.upd H d (.xd [(f, v)]))) : ([v] : List V).length ≤ 1000 ∧ ∀ a, H a = none → spE1 K C f (.ref a :: ([v] ++ [])) (L2.upd H a (exo a C none))
    (fun w H2 => w = .non ∧ ∃ (d : Addr) (fs : List (Str × V)), H2 a = some (exo a C (some d)) ∧ H2 d = some (exd d fs) ∧ H d = none ∧ Q (.ref C) (some d) (L2.upd (L2.del H2 a) d (.xd fs))) (fun _ _ _ => False) := by
  refine ⟨by simp, fun a na => ⟨a, v, rfl, upd_same, fun dx ndx ne => ⟨rfl, dx, _, upd_same, by rw [upd_ne ne]; exact upd_same, ?_, ?_⟩⟩⟩
  · rw [upd_ne ne] at ndx; exact ndx
  · have ndx2 : H dx = none := by rw [upd_ne ne] at ndx; exact ndx
    have e : L2.upd (L2.del (L2.upd (L2.upd (L2.upd H a (exo a C none)) dx (exd dx [(f, v)])) a (exo a C (some dx))) a) dx (.xd [(f, v)]) = L2.upd H dx (.xd [(f, v)]) := by
      funext b
      by_cases h1 : b = dx
      · rw [h1, upd_same, upd_same]
      · rw [upd_ne h1, upd_ne h1]
        by_cases h2 : b = a
        · rw [h2, del_same, na]
        · rw [del_ne h2, upd_ne h2, upd_ne h1, upd_ne h2]
    rw [e]
    exact h dx ndx2
theorem rd_mkE2 {v u : V} (h : ∀ d, H d = none → Q (.ref C) (some d) (L2.upd H d (.xd [(g, u), (f, v)]))) : ([v, u] : List V).length ≤ 1000 ∧ ∀ a, H a = none → spE2 K C f g (.ref a :: ([v, u] ++ [])) (L2.upd H a (exo a C none))
    (fun w H2 => w = .non ∧ ∃ (d : Addr) (fs : List (Str × V)), H2 a = some (exo a C (some d)) ∧ H2 d = some (exd d fs) ∧ H d = none ∧ Q (.ref C) (some d) (L2.upd (L2.del H2 a) d (.xd fs))) (fun _ _ _ => False) := by
  refine ⟨by simp, fun a na => ⟨a, v, u, rfl, upd_same, fun dx ndx ne => ⟨rfl, dx, _, by rw [upd_ne ne.symm]; exact upd_same, upd_same, ?_, ?_⟩⟩⟩
  · rw [upd_ne ne] at ndx; exact ndx
  · have ndx2 : H dx = none := by rw [upd_ne ne] at ndx; exact ndx
    have e : L2.upd (L2.del (L2.upd (L2.upd (L2.upd (L2.upd H a (exo a C none)) dx (exd dx [(f, v)])) a (exo a C (some dx))) dx (exd dx [(g, u), (f, v)])) a) dx (.xd [(g, u), (f, v)]) = L2.upd H dx (.xd [(g, u), (f, v)]) := by
      funext b
      by_cases h1 : b = dx
      · rw [h1, upd_same, upd_same]
      · rw [upd_ne h1, upd_ne h1]
        by_cases h2 : b = a
        · rw [h2, del_same, na]
        · rw [del_ne h2, upd_ne h1, upd_ne h2, upd_ne h1, upd_ne h2]
    rw [e]
    exact h dx ndx2
end
theorem rd_callS {sp : Sp} {E : L2.St → XK} {t : TA} {σ : L2.St} {H : Hp} {Q : VK} (h : t σ H fun vs H1 => sp vs H1 Q (E σ)) : tCallS sp E t σ H Q := h
theorem rd_mkO {C : Addr} {sp : Sp} {dvs : List V} {ta : TA} {σ : L2.St} {H : Hp} {Q : XK} (h : ta σ H fun vs H1 => vs.length ≤ 1000 ∧ ∀ a, H1 a = none → sp (.ref a :: (vs ++ dvs)) (L2.upd H1 a (exo a C none))
  (fun v H2 => v = .non ∧ ∃ (d : Addr) (fs : List (Str × V)), H2 a = some (exo a C (some d)) ∧ H2 d = some (exd d fs) ∧ H1 d = none ∧ Q (.ref C) (some d) (L2.upd (L2.del H2 a) d (.xd fs))) (fun _ _ _ => False)) : tMkO C sp dvs ta σ H Q := h
theorem rd_ostM {K : PySem.W.Frag} {f : Str} {i j : Nat} {D : Ends} {σ : L2.St} {H : Hp} {y : V} {a C dx : Addr} {fs : List (Str × V)} (hy : tVar j σ H fun v H1 => v = y ∧ H1 = H) (hx : tVar i σ H fun v H1 => v = .ref a ∧ H1 = H) (T : OexC K C) (no : PySem.W.findIn K (.ref C) f = some none) (ha : H a = some (exo a C (some dx))) (hd : H dx = some (exd dx fs)) (hl : fs.length ≤ 900)
    (q : D.nx σ (L2.upd H dx (exd dx ((f, y) :: fs)))) : tOst K f (tVar i) (tVar j) D σ H := by
  obtain ⟨v1, e1, rfl, _⟩ := hy
  obtain ⟨v2, e2, rfl, _⟩ := hx
  exact ⟨_, e1, _, e2, a, C, rfl, T, no, .inr ⟨dx, fs, ha, hd, hl, q⟩⟩
theorem rd_ostN {K : PySem.W.Frag} {f : Str} {i j : Nat} {D : Ends} {σ : L2.St} {H : Hp} {y : V} {a C : Addr} (hy : tVar j σ H fun v H1 => v = y ∧ H1 = H) (hx : tVar i σ H fun v H1 => v = .ref a ∧ H1 = H) (T : OexC K C) (no : PySem.W.findIn K (.ref C) f = some none) (ha : H a = some (exo a C none))
    (q : ∀ dx, H dx = none → dx ≠ a → D.nx σ (L2.upd (L2.upd H dx (exd dx [(f, y)])) a (exo a C (some dx)))) : tOst K f (tVar i) (tVar j) D σ H := by
  obtain ⟨v1, e1, rfl, _⟩ := hy
  obtain ⟨v2, e2, rfl, _⟩ := hx
  exact ⟨_, e1, _, e2, a, C, rfl, T, no, .inl ⟨ha, q⟩⟩
theorem rd_makeS {C : Addr} {sp : Sp} {E : L2.St → XK} {t : TA} {σ : L2.St} {H : Hp} {Q : VK} (h : t σ H fun vs H1 => ∀ x dx, H1 x = none → H1 dx = none → dx ≠ x →
  sp (.ref x :: vs) (L2.upd (L2.upd H1 dx (.own x)) x (.ins C dx [])) (fun v H2 => v = .non ∧ Q (.ref x) H2) (E σ)) : tMakeS C sp E t σ H Q := h
theorem rd_methS {C : Addr} {m : Str} {sp : Sp} {E : L2.St → XK} {ta : TE} {t : TA} {σ : L2.St} {H : Hp} {Q : VK} (h : ta σ H fun x H1 => ∃ a dx fs, x = .ref a ∧ H1 a = some (.ins C dx fs) ∧ fs.lookup m = none ∧
  t σ H1 fun vs H2 => sp (x :: vs) H2 Q (E σ)) : tMethS C m sp E ta t σ H Q := h
theorem rd_xf {a : Addr} {cls : Value} {d : Option Addr} {C : Addr} {f : Str} {te : TE} {σ : L2.St} {H : Hp} {Q : VK} (h : te σ H fun x H1 => x = .ref a ∧ cls = .ref C ∧ ∃ (dd : Addr) (fs : List (Str × V)) (v : V), d = some dd ∧ H1 dd = some (.xd fs) ∧ fs.lookup f = some v ∧ Q v H1) : tXf a cls d C f te σ H Q := h
end My
/-! repr of any plain value; == and != that may meet objects with an own __eq__ or plain data. -/
namespace My
open PySem PySem.Spec L2 SX
open PyProof.Rows hiding St
/-- repr of plain data, of whatever kind -/
def qReprA (K : PySem.W.Frag) : List V → Hp → VK → Prop := fun xs H Q => ∃ (v : V) (d : PyData), xs = [v] ∧ Dp K H v d ∧ d.showable = true ∧ d.hasDict = false ∧ d.depth ≤ 10 ∧ d.shown.length ≤ sizeLine ∧ Q (.str d.shown) H
section
variable {X : Cx} {k j : Nat}
theorem cq_reprA (gd : X.A.guards = some []) (hu : X.A.units + 64 < cLine) : CallR X (.builtin "repr") (qReprA X.K) := by
  intro pins s σ H xs us Q I r h
  obtain ⟨v, d, rfl, hd, hs, hdd, hdp, hz, q⟩ := h
  have atRef : ∀ (a : Addr) (d : PyData), Dp X.K H (.ref a) d → d.showable = true → d.hasDict = false → d.depth ≤ 10 → d.shown.length ≤ sizeLine → Vals [V.ref a] us → Q (.str d.shown) H → wpAny (model X.prog X.w) X.A (call (.builtin "repr") us) (EP X pins σ Q) X.xe s := fun a d hd hs hdd hdp hz r q => by
    obtain rfl := Vals.ref1 r
    obtain ⟨as, rd⟩ := Dp.reads I d (.ref a) (.ref a) hd rfl
    exact repr_of_reads' rd hs (fun e => by rw [hdd] at e; cases e) gd (by omega) (fun _ _ e => e) (fun h' u tk hk => ⟨.str d.shown, H, I.kept (t' := tk) hk, ⟨u, rfl⟩, q⟩) hz
  cases hd with
  | non =>
    obtain ⟨u, rfl, ru⟩ := vals1 r
    cases ru
    exact PySem.P.repr_of_none ⟨.str ("None" : Str), H, I.tok _, ⟨_, rfl⟩, by simpa only [PyData.shown] using q⟩
  | bl b =>
    obtain ⟨u, rfl, ru⟩ := vals1 r
    cases ru
    exact PySem.P.repr_of_bool ⟨.str _, H, I.tok _, ⟨_, rfl⟩, by cases b <;> simpa only [PyData.shown] using q⟩
  | int i =>
    obtain ⟨u, rfl, t, rfl⟩ := vals1 r
    refine PySem.P.repr_of_int (by simpa [PyData.showable] using hs) ⟨.str _, H, I.tok _, ⟨_, rfl⟩, by simpa only [PyData.shown] using q⟩
  | str x =>
    obtain ⟨u, rfl, t, rfl⟩ := vals1 r
    refine PySem.P.repr_of_str ⟨.str _, H, I.tok _, ⟨_, rfl⟩, by simpa only [PyData.shown] using q⟩ (by simpa only [PyData.shown] using hz)
  | lst h1 h2 => exact atRef _ _ (.lst h1 h2) hs hdd hdp hz r q
  | tup h1 h2 => exact atRef _ _ (.tup h1 h2) hs hdd hdp hz r q
theorem cq_reprAK (K : PySem.W.Frag) (hK : X.K = K) (gd : X.A.guards = some []) (hu : X.A.units + 64 < cLine) : CallR X (.builtin "repr") (qReprA K) := hK ▸ cq_reprA gd hu
/-- != of objects with an own __eq__, or of data -/
theorem op_neMD {R : Addr → Addr → Hp → Prop} {C : Addr} (N : NeC X.K C) (M : C8.Met X.prog X.w X.K X.mg X.base k C "__eq__" (spEq R) []) (hr : Room j X.A) (hk : k + 1 ≤ j) : OpR X (compareOp .NotEq) (fun x y H Q => rNeG (DIns C R) x y H Q ∨ rNeD X.K x y H Q) :=
  OpR.or (op_neM N M hr hk) (op_neD hr.units)
end
end My
/-! What laws with exceptions share: data whose repr is asked; pairs (what, data); an except suite's start. -/
namespace My
open PySem PySem.Spec L2 SX
open PyProof.Rows hiding St
/-- what of the data is asked for its repr -/
structure Shb (d : PyData) : Prop where
  sh : d.showable = true
  nd : d.hasDict = false
  dp : d.depth ≤ 10
  sz : d.shown.length ≤ sizeLine
  ok : PyData.strOk d.shown = true
def shbB (d : PyData) : Bool := d.showable && !d.hasDict && decide (d.depth ≤ 10) && decide (d.shown.length ≤ sizeLine) && PyData.strOk d.shown
theorem shb_of {d : PyData} (h : shbB d = true) : Shb d := by
  unfold shbB at h
  simp only [Bool.and_eq_true, decide_eq_true_eq, Bool.not_eq_true'] at h
  exact ⟨h.1.1.1.1, h.1.1.1.2, h.1.1.2, h.1.2, h.2⟩
theorem rd_doS {c : Value} {i : Nat} {ts : Addr → Value → Option Addr → TS} {D : Ends} {a : Addr} {cls : Value} {d : Option Addr} {σ : L2.St} {H : Hp} (h : ts a cls d (gone i D) (σ.set i (some (.ref a))) H) : doCl D (c, some i, ts) a cls d σ H := h
/-- what flies: the class C with one field -/
def Fly (E : XK) (H : Hp) (C : Addr) (f : Str) (v : V) : Prop := ∀ d H1, Same H H1 → H1 d = none → E (.ref C) (some d) (L2.upd H1 d (.xd [(f, v)]))
/-- a pair tells what was refused -/
def Told (H : Hp) (Q : VK) (what : List Nat) (x : V) : Prop := ∀ q H', Same H H' → H' q = some (.tup [.str (S what), x]) → Q (.ref q) H'
def dTo (what : List Nat) (d : PyData) : PyData := .tuple [.str (S what), d]
theorem dTo_dp {K : PySem.W.Frag} {H : Hp} {q : Addr} {what : List Nat} {v : V} {d : PyData} (h : H q = some (.tup [.str (S what), v])) (hd : Dp K H v d) : Dp K H (.ref q) (dTo what d) := .tup (SqT.of h) (.cons (.str _) (.cons hd .nil))
theorem dToI_sh {what : List Nat} (hw : PyData.strOk (S what) = true) (i : Int) : SeqAt.shaped (dTo what (.int i)) = true := by
  show ((PyData.strOk (S what) && (true && true)) && decide (max 0 (max 0 0) + 1 ≤ 64)) = true
  rw [hw]; rfl
theorem dToI_eq (what : List Nat) (i j : Int) : PyData.eqv (dTo what (.int i)) (dTo what (.int j)) = decide (i = j) := by
  show ((S what == S what) && ((i == j) && true)) = decide (i = j)
  rw [beq_self_eq_true, Bool.true_and, Bool.and_true]
  by_cases e : i = j <;> simp [e]
theorem dToS_sh {what : List Nat} (hw : PyData.strOk (S what) = true) {x : Str} (hx : PyData.strOk x = true) : SeqAt.shaped (dTo what (.str x)) = true := by
  show ((PyData.strOk (S what) && (PyData.strOk x && true)) && decide (max 0 (max 0 0) + 1 ≤ 64)) = true
  rw [hw, hx]; rfl
theorem dToS_eq (what : List Nat) (x : Str) : PyData.eqv (dTo what (.str x)) (dTo what (.str x)) = true := by
  show ((S what == S what) && ((x == x) && true)) = true
  rw [beq_self_eq_true, beq_self_eq_true]; rfl
theorem reprChar_small : ∀ q, q < 40 → 34 ≤ q → ∀ c, c < 128 → (Builtin.Str.reprChar q c).all (fun d => decide (d < 0x110000)) = true := by decide +kernel
theorem fold_small (q : Nat) (h1 : q < 40) (h2 : 34 ≤ q) : ∀ (l : List Nat) (acc : Array Nat), (∀ c ∈ l, c < 128) → (∀ d ∈ acc.toList, d < 0x110000) → ∀ d ∈ (l.foldl (fun out c => out ++ (Builtin.Str.reprChar q c).toArray) acc).toList, d < 0x110000
  | [], acc, _, h => h
  | c :: l, acc, hl, h => fold_small q h1 h2 l _ (fun d hd => hl d (List.mem_cons_of_mem _ hd)) fun d hd => by
    rw [Array.toList_append] at hd
    rcases List.mem_append.mp hd with hd | hd
    · exact h d hd
    · exact of_decide_eq_true (List.all_eq_true.mp (reprChar_small q h1 h2 c (hl c List.mem_cons_self)) d hd)
theorem quote_small (x : Str) : reprQuote x < 40 ∧ 34 ≤ reprQuote x := by
  unfold reprQuote
  split <;> decide
/-- a text of small signs may be shown -/
theorem shb_str {w : List Nat} (h : ∀ c ∈ w, c < 128) (hl : w.length ≤ 1000) : Shb (.str (S w)) := by
  have hlen : (PyData.str (S w)).shown.length ≤ 10 * (S w).length + 2 := by
    rw [show (PyData.str (S w)).shown = reprText (S w) by simp only [PyData.shown]]
    exact StrLaws.reprText_len (S w) fun c hc => by have := h c (by simpa using hc); omega
  refine ⟨by simp [PyData.showable], by simp [PyData.hasDict], by simp [PyData.depth], ?_, ?_⟩
  · have e9 : (S w).length = w.length := S_len w
    rw [e9] at hlen
    exact Nat.le_trans hlen (Nat.le_trans (m := 10002) (by omega) (by decide))
  · rw [show (PyData.str (S w)).shown = reprText (S w) by simp only [PyData.shown]]
    unfold PyData.strOk reprText
    have ⟨q1, q2⟩ := quote_small (S w)
    rw [← Array.all_toList, Array.toList_push, List.all_append, List.all_cons, List.all_nil, Bool.and_true, Bool.and_eq_true]
    refine ⟨List.all_eq_true.mpr fun d hd => decide_eq_true ?_, decide_eq_true (by omega)⟩
    rw [← Array.foldl_toList] at hd
    exact fold_small _ q1 q2 _ _ (fun c hc => h c (by simpa using hc)) (fun d hd => by
      have e : d = reprQuote (S w) := by simpa using hd
      omega) d hd
end My
/-! sorted(a dict with texts as keys, key = a def that tells (len(x), x)). -/
namespace My
open PySem PySem.Spec L2 SX LamX
open PyProof.Rows hiding St
/-- (len(x), x) -/
def keyW (x : Str) (c3 : Nat) (q1 q2 q3 q4 q5 : Pos) : Expr := .Tuple [.Call (.Name "len" q1) [.Name x q2] [] q3, .Name x q4] c3 q5
section
variable {prog : Program} {w : World} {A : Around} {s : Shared} {env : Env} {mg mb m : Str → Option Value} {x : Str} {z : Str} {t : Tok}
theorem keyW_body {c3 : Nat} {q1 q2 q3 q4 q5 : Pos} {E : Value → Shared → Prop} (hk : env.scope.kind = .function) (hl : env.kindOf x = some .local) (hx : (x == ("__debug__" : Str)) = false) (hn : s.heap.Ns env.locals m) (hm : m x = some (.str z t))
    (hg1 : env.kindOf "len" = some .globalImplicit) (hG : s.heap.Ns env.globals mg) (hG1 : mg "len" = none) (hB : s.heap.Ns env.builtins mb) (hB1 : mb "len" = some (.builtin "len")) (hz : z.length ≤ 100000) :
    wpAny (model prog w) A (eval (keyW x c3 q1 q2 q3 q4 q5) env) (PySem.W.KeyPure (.tuple [.int z.length, .str z]) s) E s := by
  unfold keyW
  refine wpAny_Tuple_spliced ?_
  show wpAny _ _ (spliced ((false, eval _ env) :: (false, eval _ env) :: [])) _ _ s
  refine Calls.spliced_cons (wpAny_Call_Name_kw (Calls.Name_function_global hk hg1 (Calls.loadGlobal_builtin hG hG1 hB hB1 ?_) (by decide)))
  refine PyProof.Rows.callWith_builtin1 (e := .Name x q2) (rest := []) (Calls.spliced_cons (name_local hk hl hn hm hx (Calls.spliced_nil ?_))) (by rfl) (by rfl)
  refine len_str (by omega) ?_
  refine Calls.spliced_cons (name_local (s := { s with toks := s.toks + 1 + 1 }) hk hl hn hm hx (Calls.spliced_nil ⟨(by show 2 ≤ sizeLine; decide), ?_⟩))
  refine ⟨_, _, rfl, fun b o e => Heap.get?_push_of_some _ e, ?_⟩
  refine Reads.tuple (Heap.get?_push_size _ rfl) rfl rfl ?_
  exact (ReadsAll.cons (.int _ _) (ReadsAll.cons (.str _ _) .nil) : ReadsAll _ _ _ ([] ++ ([] ++ [])))
end
/-- a def that tells the key -/
structure KeyWF (K : PySem.W.Frag) (mg : Str → Option Value) (g : Str) : Prop where
  ex : ∃ (f : Addr) (fd : FuncData) (x qual : Str) (st : Stmt) (c3 : Nat) (q1 q2 q3 q4 q5 rp : Pos), mg g = some (.ref f) ∧ Fun K g qual st f fd ∧ defBody st = [.Return (some (keyW x c3 q1 q2 q3 q4 q5)) rp] ∧ FnScope [x] [x] (defScope st) ∧
    (defScope st).names.lookup x = some NameKind.local ∧ (x == ("__debug__" : Str)) = false ∧ (defScope st).names.lookup ("len" : Str) = some NameKind.globalImplicit ∧ Binds K fd [x] []
section
variable {P : Program} {w : World} {mg mb : Str → Option Value}
theorem keyW_fun {K : PySem.W.Frag} {g : Str} (F : KeyWF K mg g) : ∃ f : Addr, mg g = some (.ref f) ∧ ∀ {A : Around} {s : Shared} {z : Str} {t : Tok}, A.depth < recursionLimit → K.In s.heap → s.heap.NoLimit → s.heap.Ns mainGlobals mg → mg "len" = none →
    s.heap.Ns builtinsNs mb → mb "len" = some (.builtin "len") → z.length ≤ 100000 →
    wpAny (model P w) A (call (.ref f) [.str z t]) (PySem.W.KeyPure (.tuple [.int z.length, .str z]) s) (fun _ _ => False) s := by
  obtain ⟨f, fd, x, qual, st, c3, q1, q2, q3, q4, q5, rp, hm, Fu, hb, S, hloc, hx, hlen, hbi⟩ := F.ex
  refine ⟨f, hm, fun {A s z t} hA KX lim hG hG1 hB hB1 hz => ?_⟩
  obtain ⟨oc, od, kV, doc, pm, an, cdv, ct, osl, rfl, lk, hcd⟩ := Fu.ex
  refine wpAny_call ?_
  refine codeAny_call_function (body := defBody st) hA (KX _ _ lk) rfl S.co S.gen rfl (PySem.W.codeRec_of KX hcd) (hbi s [.str z t] KX rfl _ _ _ _ ?_)
  refine wpAny_newFunctionEnv_cells S.kind (fun y hy => ?_) fun env he s1 x1 => ?_
  · obtain rfl : y = (x, Value.str z t) := List.mem_singleton.mp hy
    exact .inl hloc
  · subst he
    obtain ⟨h1, tk, rfl, hk⟩ := id x1.done
    refine ⟨lim.keeps hk, codeAny_func ?_⟩
    rw [hb]
    refine wpAny_execs_cons (wpAny_Return_some ?_)
    refine wpAny_mono (keyW_body (x := x) (z := z) (t := t) (mg := mg) (mb := mb) (m := bindL (fun y => (defScope st).names.lookup y) [(x, Value.str z t)] fun _ => none) S.kind hloc hx x1.toInCall.ns ?_ hlen (hG.keeps hk) hG1 (hB.keeps hk) hB1 hz) (fun v s' hq => ?_) (fun _ _ z => z)
    · simp [bindL, hloc]
    · obtain ⟨h2, tk2, rfl, hk2, r⟩ := hq
      exact ⟨h2, tk2, rfl, fun b o e => hk2 b o (hk b o e), r⟩
end
/-! ### the order -/
def keyWD (b : List Nat) : PyData := .tuple [.int ((b.length : Nat) : Int), .str (S b)]
theorem keyW_lt (x y : List Nat) : PySem.W.dataLt (keyWD x) (keyWD y) = decide (Mon.slt x y) := key_lt (x, []) (y, [])
def leW (x y : List Nat) : Bool := !decide (Mon.slt y x)
theorem leW_data (x y : List Nat) : PySem.W.dataLe false keyWD x y = leW x y := by
  show (!PySem.W.dataLt (keyWD y) (keyWD x)) = _
  rw [keyW_lt]; rfl
theorem sltW_tri (x y : List Nat) (h1 : ¬ Mon.slt x y) (h2 : ¬ Mon.slt y x) : x = y := by
  unfold Mon.slt at h1 h2
  have hl : x.length = y.length := by
    by_cases a : x.length < y.length
    · exact absurd (.inl a) h1
    · by_cases b : y.length < x.length
      · exact absurd (.inl b) h2
      · omega
  have a : ¬ x < y := fun h => h1 (.inr ⟨hl, h⟩)
  have b : ¬ y < x := fun h => h2 (.inr ⟨hl.symm, h⟩)
  exact List.le_antisymm (List.not_lt.mp b) (List.not_lt.mp a)
theorem leW_total (x y : List Nat) : (leW x y || leW y x) = true := by
  unfold leW
  by_cases h : Mon.slt y x
  · have : ¬ Mon.slt x y := fun g => Mon.slt_irr _ (Mon.slt_trans g h)
    simp [this]
  · simp [h]
theorem leW_trans (x y z : List Nat) (h1 : leW x y = true) (h2 : leW y z = true) : leW x z = true := by
  unfold leW at *
  simp only [Bool.not_eq_true', decide_eq_false_iff_not] at *
  intro h
  by_cases c : Mon.slt y x
  · exact h1 c
  · by_cases d : Mon.slt x y
    · exact h2 (Mon.slt_trans h d)
    · have e := sltW_tri x y d c
      subst e
      exact h2 h
def srtW (ws : List (List Nat)) : List (List Nat) := ws.mergeSort leW
theorem srtW_perm (ws : List (List Nat)) : (srtW ws).Perm ws := List.mergeSort_perm _ _
theorem srtW_sorted (ws : List (List Nat)) (nd : ws.Nodup) : (srtW ws).Pairwise Mon.slt := by
  have h1 : (srtW ws).Pairwise fun a b => leW a b = true := List.pairwise_mergeSort leW_trans leW_total ws
  have h2 : (srtW ws).Pairwise fun a b => a ≠ b := (srtW_perm ws).nodup_iff.mpr nd
  refine (List.Pairwise.and h1 h2).imp fun {a b} h => ?_
  obtain ⟨h, n⟩ := h
  unfold leW at h
  simp only [Bool.not_eq_true', decide_eq_false_iff_not] at h
  by_cases c : Mon.slt a b
  · exact c
  · exact absurd (sltW_tri a b c h) n
theorem keyW_alike (c d : List Nat) : PySem.W.alike (keyWD c) (keyWD d) = true := by
  simp [keyWD, PySem.W.alike, PySem.W.alikeAll]
theorem keyW_depth (c : List Nat) : (keyWD c).depth = 1 := by simp [keyWD, PyData.depth, PyData.depthAll]
theorem merge_congr {α : Type} {le1 le2 : α → α → Bool} (h : ∀ a b, le1 a b = le2 a b) (l : List α) : l.mergeSort le1 = l.mergeSort le2 := by
  have : le1 = le2 := funext fun a => funext fun b => h a b
  rw [this]
/-! ### the rule -/
section
variable {X : Cx} {pins : List (Addr × Obj)} {σ : L2.St} {H : Hp} {s : Shared} {k : Nat}
theorem txV_vals : ∀ {ws : List (List Nat)} {us : List Value}, PySem.W.EachIs (fun (u : Value) (w : List Nat) => ∃ t, u = .str (S w) t) us ws → Vals (txV ws) us
  | [], us, e => by
    have h : us.length = 0 := by rw [e.length]; rfl
    rw [List.length_eq_zero_iff.mp h]
    exact .nil
  | w :: ws, us, e => by
    cases e with
    | cons e1 e2 => exact .cons e1 (txV_vals e2)
theorem each_at : ∀ {us : List Value} {ws : List (List Nat)}, us.length = ws.length → (∀ (j : Nat) (u : Value) (w : List Nat), us[j]? = some u → ws[j]? = some w → ∃ t, u = .str (S w) t) → PySem.W.EachIs (fun (u : Value) (w : List Nat) => ∃ t, u = .str (S w) t) us ws
  | [], [], _, _ => .nil
  | [], _ :: _, h, _ => nomatch h
  | _ :: _, [], h, _ => nomatch h
  | u :: us, w :: ws, h, f => .cons (f 0 u w rfl rfl) (each_at (Nat.succ.inj h) fun j u w e1 e2 => f (j + 1) u w e1 e2)
theorem sort_goW {f : Addr} {a : Addr} {kvs : List (Key × V)} {ws : List (List Nat)} {Q : VK} (hcalm : X.calm = true) (hr : Room k X.A) (I : Inv X pins σ H s) (hd : H a = some (.dK kvs)) (hks : kvs.map (·.1) = ws.map fun w => Sum.inr (S w)) (hw : ∀ w ∈ ws, w.length ≤ 100000)
    (hcall : ∀ (h : Heap) (tk : Nat) (w : List Nat) (t : Tok), (∀ b o, s.heap.get? b = some o → h.get? b = some o) → w.length ≤ 100000 →
      wpAny (model X.prog X.w) X.A.in1.in1 (call (.ref f) [.str (S w) t]) (PySem.W.KeyPure (keyWD w) { s with heap := h, toks := tk }) (fun _ _ => False) { s with heap := h, toks := tk })
    (q : ∀ p : Addr, H p = none → Q (.ref p) (L2.upd H p (.lst (txV (srtW ws))))) :
    wpAny (model X.prog X.w) X.A (call (.builtin "sorted") [.ref a] [(Str.ofString "key", .ref f)]) (EP X pins σ Q) X.xe s := by
  have hun := hr.units
  obtain ⟨z, lo, vs, rel, dd⟩ := dk_rd I.hok (.inl hd)
  obtain ⟨ep, hat⟩ := dd.dictAt
  have hkeys : vs.map (·.1) = ws.map fun w => Sum.inr (S w) := rel.keys.symm.trans hks
  have hl : vs.length = ws.length := by
    have e := congrArg List.length hkeys
    rw [List.length_map, List.length_map] at e
    exact e
  have hlk : kvs.length = vs.length := rel.length
  have h16 : vs.length ≤ sizeLine := by rw [← hlk]; exact z
  refine PyProof.Rows.call_function_entry_kw PyProof.Rows.kind_sorted PyProof.Rows.plain_sorted PyProof.Rows.entry_sorted (PyProof.Rows.ksk_s1 _ _) ?_
  unfold Builtin.«sorted»
  refine wpAny_bind (m := checkCount "sorted" 1 1 _) (wpAny_pure ?_)
  refine wpAny_bind (PySem.W.kdu_collect (A := X.A.in1) (PySem.W.kdl_dict (knd := mixKind X.prog X.w) (kvs := vs) (ep := ep) lo) (I.ok.hd hcalm) hat h16 fun h' tk acc hk hacc => ?_)
  have hal : acc.toList.length = ws.length := by rw [Array.length_toList, hacc.1, hl]
  have hE : PySem.W.EachIs (fun (u : Value) (w : List Nat) => ∃ t, u = .str (S w) t) acc.toList ws := each_at hal fun j v w e e4 => by
    obtain ⟨k, x, e1, e2⟩ := hacc.2 j v (by rw [← Array.getElem?_toList]; exact e)
    have e3 : (vs.map (·.1))[j]? = some k := by rw [List.getElem?_map, e1]; all_goals rfl
    rw [hkeys, List.getElem?_map, e4] at e3
    have e5 : Sum.inr (S w) = k := Option.some.inj e3
    subst e5
    rcases keyIs_shape (show keyIs (Sum.inr (S w)) v = true from e2) with ⟨i, t, ek, ev⟩ | ⟨z, t, ek, ev⟩
    · cases ek
    · cases ek
      exact ⟨t, ev⟩
  have I1 : Inv X pins σ H { s with heap := h', toks := tk } := I.kept hk
  have hasz : acc.toList.length ≤ sizeLine := by rw [hal, ← hl]; exact h16
  refine wpAny_bind (wpAny_newList ?_ hasz)
  have hoL : (h'.push (seqObj "list" acc.toList.toArray 0)).get? h'.objs.size = some (seqObj "list" acc.toList.toArray 0) := Heap.get?_push_size _ rfl
  show wpAny _ _ _ _ _ { s with heap := h'.push (seqObj "list" acc.toList.toArray 0), toks := tk }
  have hold : ∀ b o, s.heap.get? b = some o → (h'.push (seqObj "list" acc.toList.toArray 0)).get? b = some o := fun b o e => Heap.get?_push_of_some _ (hk b o e)
  have hne : ∀ {b : Addr} {o : Obj}, s.heap.get? b = some o → b ≠ h'.objs.size := fun e => Nat.ne_of_lt (Heap.lt_size (hk _ _ e))
  refine wpAny_bind (wpAny_holding ?_)
  refine PySem.W.list_sort_key_data (A := X.A.in1) (s := { s with heap := h'.push (seqObj "list" acc.toList.toArray 0), toks := tk }) (b := false) keyWD hoL hE (PySem.W.AllAlike.of fun _ _ => keyW_alike _ _) (PySem.W.Sortable.tuples fun _ => ⟨_, _, rfl⟩) (by rw [← hal]; exact hasz)
    (fun x _ => by rw [keyW_depth]; show X.A.units + 1 + 1 + 1 < cLine; omega) (PyProof.Rows.ksk_l1 _ _) (PyProof.Rows.ksk_t1 _ _) (fun v w hR hx h tk2 kp => ?_) fun out c h2 tk2 kp hD hlo eo => ?_
  · obtain ⟨t, rfl⟩ := hR
    exact hcall h tk2 w t (fun b o e => kp b o (hne e) (hold b o e)) (hw w hx)
  · rw [merge_congr leW_data] at eo
    have hlen : (txV (srtW ws)).length ≤ sizeLine := by rw [txV_len, (srtW_perm ws).length_eq, ← hl]; exact h16
    refine wpAny_pure ⟨_, rfl, .ref h'.objs.size, L2.upd H h'.objs.size (.lst (txV (srtW ws))), I1.laid (t' := tk2) (fun b u e => ?_) (Nat.le_refl _)
      (show ObjOk X.prog X.w _ _ _ (.lst (txV (srtW ws))) from ⟨hlen, out, c, txV_vals eo, hD⟩), rfl, q _ (I1.hok.fresh (Nat.le_refl _))⟩
    exact kp b u (Nat.ne_of_lt (Heap.lt_size e)) (Heap.get?_push_of_some _ e)
def qSortDW (vs : List V) (H1 : Hp) (Q : VK) : Prop := ∃ (a : Addr) (kvs : List (Key × V)) (ws : List (List Nat)), vs = [.ref a] ∧ H1 a = some (.dK kvs) ∧ kvs.map (·.1) = (ws.map fun w => Sum.inr (S w)) ∧ (∀ w ∈ ws, w.length ≤ 100000) ∧
  ∀ p : Addr, H1 p = none → Q (.ref p) (L2.upd H1 p (.lst (txV (srtW ws))))
def tSortDW (t : TA) : TE := fun σ H Q => t σ H fun vs H1 => qSortDW vs H1 Q
theorem pe_sortDW {e : Expr} {t : TA} {g : Str} {p pos gpos kpos : Pos} (F : KeyWF X.K X.mg g) (hc : X.calm = true) (hr : Room k X.A) (hg : Gl X "sorted") (hgg : Gl X g) (hm : X.mg "sorted" = none) (hml : X.mg "len" = none) (ha : PA X [e] t) (hdb : (g == ("__debug__" : Str)) = false := by decide)
    (he : backTo pos (starEach [e] X.env) = (false, eval e X.env) :: backTo pos (starEach [] X.env) := by rfl) (hpl : (backTo pos (starEach [e] X.env)).any (·.1) = false := by rfl) :
    PE X (.Call (.Name "sorted" p) [e] [⟨some "key", .Name g gpos, kpos⟩] pos) (tSortDW t) := by
  refine ⟨fun pins s σ H Q I h => ?_⟩
  refine wpAny_Call_Name_kw (ld_blt I hg hm boot_sorted ?_)
  refine PyProof.Rows.callWith_kw (thn (ha.run pos pins s σ H _ I h) fun us s1 ⟨vs, H1, I1, r1, q1⟩ => ?_) he hpl
  obtain ⟨a, kvs, ws, rfl, hd, hks, hw, q⟩ := q1
  obtain rfl := Vals.ref1 r1
  obtain ⟨mb, hb1, hb2⟩ := I1.mod.blt
  obtain ⟨f, hmf, hcl⟩ := keyW_fun (P := X.prog) (w := X.w) (mb := mb) F
  show wpAny _ _ (evalAll ((do let v ← eval (.Name g gpos) X.env; standAt pos; pure v) :: [])) _ _ s1
  refine wpAny_evalAll_cons (wpAny_bind (ld_glob I1 hgg hmf (wpAny_bind (wpAny_standAt (wpAny_pure (wpAny_evalAll_nil ?_)))) hdb))
  show wpAny _ _ (call (.builtin "sorted") [.ref a] [(Str.ofString "key", .ref f)]) _ _ s1
  refine sort_goW hc hr I1 hd hks hw (fun h tk w t kp hz => ?_) q
  exact hcl (A := X.A.in1.in1) (s := { s1 with heap := h, toks := tk }) (by exact hr.depth) (I1.kIn.keeps kp) (I1.nolimit.keeps kp) ((I1.mod.glob.keeps I1.bk).keeps kp) hml ((hb1.keeps I1.bk).keeps kp) ((hb2 "len" (by decide)).trans boot_len) hz
theorem rd_tSortDW {t : TA} {σ : L2.St} {H : Hp} {Q : VK} (h : t σ H fun vs H1 => qSortDW vs H1 Q) : tSortDW t σ H Q := h
end
end My
/-! Subwords: which words can be put into a word; the dict that gathers them. -/
namespace Mon
theorem sub_snoc {u w : List Nat} {c : Nat} : List.Sublist u (w ++ [c]) ↔ List.Sublist u w ∨ ∃ v, u = v ++ [c] ∧ List.Sublist v w := by
  rw [List.sublist_append_iff]
  constructor
  · rintro ⟨a, b, rfl, h1, h2⟩
    rcases List.sublist_cons_iff.mp h2 with h | ⟨r, rfl, h⟩
    · rw [List.sublist_nil.mp h, List.append_nil]; exact .inl h1
    · rw [List.sublist_nil.mp h]; exact .inr ⟨a, rfl, h1⟩
  · rintro (h | ⟨v, rfl, h⟩)
    · exact ⟨u, [], by simp, h, by simp⟩
    · exact ⟨v, [c], rfl, h, List.Sublist.refl _⟩
/-- the subwords of at most n letters, in order -/
def sg (n : Nat) (w : List Nat) : List (List Nat) := (aw 4 n).filter fun u => decide (List.Sublist u w)
theorem mem_sg {n : Nat} {w u : List Nat} (hw : Lt 4 w) : u ∈ sg n w ↔ u.length ≤ n ∧ List.Sublist u w := by
  unfold sg
  rw [List.mem_filter, mem_aw, decide_eq_true_iff]
  exact ⟨fun ⟨⟨_, h⟩, g⟩ => ⟨h, g⟩, fun ⟨h, g⟩ => ⟨⟨fun c hc => hw c (g.subset hc), h⟩, g⟩⟩
theorem sg_so (n : Nat) (w : List Nat) : (sg n w).Pairwise slt := (aw_so 4 n).filter _
theorem sg_due {n k : Nat} {w : List Nat} (hk : n ≤ k) : ((aw 4 k).filter fun u => decide (u.length ≤ n) && decide (List.Sublist u w)) = sg n w := by
  refine sorted_ext (R := slt) slt_irr (fun a b => slt_trans a b) ((aw_so 4 k).filter _) (sg_so n w) fun u => ?_
  unfold sg
  rw [List.mem_filter, List.mem_filter, mem_aw, mem_aw, Bool.and_eq_true, decide_eq_true_iff, decide_eq_true_iff]
  exact ⟨fun ⟨⟨h1, _⟩, h2, h3⟩ => ⟨⟨h1, h2⟩, h3⟩, fun ⟨⟨h1, h2⟩, h3⟩ => ⟨⟨h1, by omega⟩, h2, h3⟩⟩
theorem slt_nd {ws : List (List Nat)} (h : ws.Pairwise slt) : ws.Nodup := List.Pairwise.imp (S := (· ≠ ·)) (fun {a b} hab e => slt_irr b (by rw [e] at hab; exact hab)) h
/-! ### gathered -/
def mrg (ks us : List (List Nat)) : List (List Nat) := us.foldl (fun a u => if u ∈ a then a else a ++ [u]) ks
theorem mrg_cons (ks us : List (List Nat)) (u : List Nat) : mrg ks (u :: us) = mrg (if u ∈ ks then ks else ks ++ [u]) us := rfl
theorem mem_mrg : ∀ {us ks : List (List Nat)} {x : List Nat}, x ∈ mrg ks us ↔ x ∈ ks ∨ x ∈ us
  | [], ks, x => by simp [mrg]
  | u :: us, ks, x => by
    rw [mrg_cons, mem_mrg (us := us)]
    by_cases h : u ∈ ks
    · rw [if_pos h, List.mem_cons]
      constructor
      · rintro (a | a)
        · exact .inl a
        · exact .inr (.inr a)
      · rintro (a | rfl | a)
        · exact .inl a
        · exact .inl h
        · exact .inr a
    · rw [if_neg h, List.mem_cons, List.mem_append, List.mem_singleton, or_assoc]
theorem mrg_nd : ∀ {us ks : List (List Nat)}, ks.Nodup → (mrg ks us).Nodup
  | [], ks, h => h
  | u :: us, ks, h => by
    rw [mrg_cons]
    refine mrg_nd ?_
    by_cases c : u ∈ ks
    · rw [if_pos c]; exact h
    · rw [if_neg c, List.nodup_append]
      exact ⟨h, List.pairwise_singleton _ _, fun a ha b hb e => c (by rw [← List.mem_singleton.mp hb, ← e]; exact ha)⟩
/-- what is there behind w -/
structure Gat (n : Nat) (w : List Nat) (ks : List (List Nat)) : Prop where
  nd : ks.Nodup
  mem : ∀ u, u ∈ ks ↔ u.length ≤ n ∧ List.Sublist u w
/-- one letter more -/
def more (n c : Nat) (ks : List (List Nat)) : List (List Nat) := (ks.filter fun u => decide (u.length < n)).map (· ++ [c])
theorem Gat.zero (n : Nat) : Gat n [] [[]] := ⟨List.pairwise_singleton _ _, fun u => by
  rw [List.mem_singleton, List.sublist_nil]
  exact ⟨fun e => ⟨by rw [e]; exact Nat.zero_le _, e⟩, fun h => h.2⟩⟩
theorem Gat.snoc {n c : Nat} {w : List Nat} {ks : List (List Nat)} (g : Gat n w ks) : Gat n (w ++ [c]) (mrg ks (mrg [] (more n c ks))) := by
  refine ⟨mrg_nd g.nd, fun u => ?_⟩
  rw [mem_mrg, mem_mrg, g.mem, sub_snoc]
  unfold more
  constructor
  · rintro (⟨h1, h2⟩ | h | h)
    · exact ⟨h1, .inl h2⟩
    · exact nomatch h
    · obtain ⟨v, hv, rfl⟩ := List.mem_map.mp h
      obtain ⟨hv, hl⟩ := List.mem_filter.mp hv
      have hl := of_decide_eq_true hl
      exact ⟨by rw [List.length_append]; exact hl, .inr ⟨v, rfl, ((g.mem v).mp hv).2⟩⟩
  · rintro ⟨h1, h2 | ⟨v, rfl, h2⟩⟩
    · exact .inl ⟨h1, h2⟩
    · have hl : v.length < n := by rw [List.length_append] at h1; exact h1
      exact .inr (.inr (List.mem_map.mpr ⟨v, List.mem_filter.mpr ⟨(g.mem v).mpr ⟨by omega, h2⟩, decide_eq_true hl⟩, rfl⟩))
theorem aw4_len : ∀ n, n ≤ 4 → (aw 4 n).length ≤ 341
  | 0, _ => by decide +kernel
  | 1, _ => by decide +kernel
  | 2, _ => by decide +kernel
  | 3, _ => by decide +kernel
  | 4, _ => by decide +kernel
  | n + 5, h => absurd h (by omega)
theorem nd_le {α : Type} [DecidableEq α] : ∀ {ks l : List α}, ks.Nodup → (∀ u ∈ ks, u ∈ l) → ks.length ≤ l.length
  | [], l, _, _ => Nat.zero_le _
  | k :: ks, l, h, s => by
    have hk := s k List.mem_cons_self
    have := nd_le (ks := ks) (l := l.erase k) (List.nodup_cons.mp h).2 fun u hu => (List.mem_erase_of_ne fun e => (List.nodup_cons.mp h).1 (by rw [e] at hu; exact hu)).mpr (s u (List.mem_cons_of_mem _ hu))
    rw [List.length_erase_of_mem hk] at this
    have := List.length_pos_of_mem hk
    simp only [List.length_cons]
    omega
theorem Gat.len {n : Nat} {w : List Nat} {ks : List (List Nat)} (g : Gat n w ks) (hw : Lt 4 w) (hn : n ≤ 4) : ks.length ≤ 341 :=
  Nat.le_trans (nd_le g.nd fun u hu => let ⟨h1, h2⟩ := (g.mem u).mp hu; mem_aw.mpr ⟨fun c hc => hw c (h2.subset hc), h1⟩) (aw4_len n hn)
theorem Gat.srt {n : Nat} {w : List Nat} {ks : List (List Nat)} (g : Gat n w ks) (hw : Lt 4 w) : My.srtW ks = sg n w :=
  sorted_ext (R := slt) slt_irr (fun a b => slt_trans a b) (My.srtW_sorted ks g.nd) (sg_so n w) fun u => by
    rw [(My.srtW_perm ks).mem_iff, g.mem, mem_sg hw]
/-! ### put in letter by letter -/
def gp (one w : List Nat) : Nat := w.foldl (fun a c => if a < one.length ∧ one.getD a 0 = c then a + 1 else a) 0
theorem gp_snoc (one w : List Nat) (c : Nat) : gp one (w ++ [c]) = if gp one w < one.length ∧ one.getD (gp one w) 0 = c then gp one w + 1 else gp one w := by
  unfold gp; rw [List.foldl_append]; rfl
theorem takeS_snoc {one : List Nat} {a : Nat} (h : a < one.length) : one.take (a + 1) = one.take a ++ [one.getD a 0] := by
  rw [List.take_succ, List.getD_eq_getElem?_getD, List.getElem?_eq_getElem h]; rfl
theorem gp_inv (one : List Nat) : ∀ w, gp one w ≤ one.length ∧ List.Sublist (one.take (gp one w)) w ∧ (gp one w < one.length → ¬ List.Sublist (one.take (gp one w + 1)) w) := by
  refine rev_ind ⟨Nat.zero_le _, by simp [gp], fun h s => ?_⟩ fun w c ⟨h1, h2, h3⟩ => ?_
  · have := List.sublist_nil.mp s
    have h4 := takeS_snoc h
    rw [this] at h4
    exact absurd h4.symm (by simp)
  · rw [gp_snoc]
    by_cases k : gp one w < one.length ∧ one.getD (gp one w) 0 = c
    · rw [if_pos k]
      obtain ⟨k1, k2⟩ := k
      refine ⟨k1, ?_, fun h s => ?_⟩
      · rw [takeS_snoc k1, k2]; exact h2.append (List.Sublist.refl _)
      · rw [takeS_snoc h] at s
        rcases sub_snoc.mp s with s | ⟨v, e, s⟩
        · exact h3 k1 ((List.sublist_append_left _ _).trans s)
        · have := List.append_inj_left' e rfl
          rw [← this] at s
          exact h3 k1 s
    · rw [if_neg k]
      refine ⟨h1, h2.trans (List.sublist_append_left _ _), fun h s => ?_⟩
      rcases sub_snoc.mp s with s | ⟨v, e, s⟩
      · exact h3 h s
      · rw [takeS_snoc h] at e
        have := List.append_inj_right' e rfl
        exact k ⟨h, by simpa using this⟩
theorem gp_iff (one w : List Nat) : gp one w = one.length ↔ List.Sublist one w := by
  obtain ⟨h1, h2, h3⟩ := gp_inv one w
  constructor
  · intro e
    rw [e, List.take_length] at h2
    exact h2
  · intro s
    by_cases c : gp one w < one.length
    · exact absurd ((List.take_sublist _ _).trans s) (h3 c)
    · omega
end Mon
namespace My
open PySem PySem.Spec L2 SX Mon
/-- a dict with these words -/
def kT (ws : List (List Nat)) : List (Key × V) := ws.map fun w => ((.inr (S w) : Key), V.bl true)
theorem putK_kT (ks : List (List Nat)) (u : List Nat) : putK (kT ks) (.inr (S u)) (.bl true) = kT (if u ∈ ks then ks else ks ++ [u]) := by
  have e : ((kT ks).any fun kv => decide (kv.1 = (.inr (S u) : Key))) = decide (u ∈ ks) := by
    rw [Bool.eq_iff_iff, List.any_eq_true, decide_eq_true_iff]
    unfold kT
    constructor
    · rintro ⟨x, hx, h⟩
      obtain ⟨w, hw, rfl⟩ := List.mem_map.mp hx
      have h := of_decide_eq_true h
      rw [← S_inj (Sum.inr.inj h)]; exact hw
    · intro h
      exact ⟨_, List.mem_map.mpr ⟨u, h, rfl⟩, decide_eq_true rfl⟩
  unfold putK
  rw [e]
  by_cases h : u ∈ ks
  · rw [if_pos h, decide_eq_true h, if_pos rfl]
    unfold kT
    rw [List.map_map]
    refine List.map_congr_left fun w hw => ?_
    show (if (Sum.inr (S w) : Key) = .inr (S u) then _ else _) = _
    split <;> rfl
  · rw [if_neg h, decide_eq_false h, if_neg Bool.false_ne_true]
    unfold kT
    rw [List.map_append]; rfl
theorem merge_kT : ∀ (us ks : List (List Nat)), mergeT (kT ks) (kT us) = kT (mrg ks us)
  | [], ks => rfl
  | u :: us, ks => by
    show mergeT (putK (kT ks) (.inr (S u)) (.bl true)) (kT us) = kT (mrg (if u ∈ ks then ks else ks ++ [u]) us)
    rw [putK_kT, merge_kT us]
theorem kT_keys (ws : List (List Nat)) : (kT ws).map (·.1) = ws.map fun w => (.inr (S w) : Key) := by unfold kT; rw [List.map_map]; rfl
end My
namespace My
open PySem PySem.Spec L2 SX LamX Mon
open PyProof.Rows hiding St
def top (i : Nat) : Stmt := PySem.Challenge.pw_wordfolds_k78_signatures_of_words.main.body.getD i (.Pass ⟨0, 0, 0, 0⟩)
abbrev s_is_number : Stmt := top 6
abbrev s_check_word : Stmt := top 9
abbrev s_by_words : Stmt := top 13
abbrev s_signature : Stmt := top 14
abbrev s__law_source : Stmt := top 16
abbrev s__law_draw : Stmt := top 17
abbrev s__law_all_words : Stmt := top 19
abbrev s__law_is_part : Stmt := top 22
abbrev s__law_said : Stmt := top 23
abbrev s__law_right : Stmt := top 24
abbrev s_law : Stmt := top 25
abbrev s_NoWord_init : Stmt := (C8.clsBody (top 3)).getD 0 (.Pass ⟨0, 0, 0, 0⟩)
abbrev s_NoLength_init : Stmt := (C8.clsBody (top 4)).getD 0 (.Pass ⟨0, 0, 0, 0⟩)
abbrev s__law_pick : Stmt := top 18
abbrev N_is_number : List Str := ["thing"]
theorem sc_is_number : FnScope N_is_number ["thing"] (defScope s_is_number) := ⟨rfl, rfl, rfl, by decide +kernel, rfl, by decide +kernel, by decide +kernel⟩
abbrev N_check_word : List Str := ["word", "letters", "most", "one"]
theorem sc_check_word : FnScope N_check_word ["word", "letters", "most"] (defScope s_check_word) := ⟨rfl, rfl, rfl, by decide +kernel, rfl, by decide +kernel, by decide +kernel⟩
abbrev N_by_words : List Str := ["word"]
theorem sc_by_words : FnScope N_by_words ["word"] (defScope s_by_words) := ⟨rfl, rfl, rfl, by decide +kernel, rfl, by decide +kernel, by decide +kernel⟩
abbrev N_signature : List Str := ["word", "length", "found", "letter", "one"]
theorem sc_signature : FnScope N_signature ["word", "length"] (defScope s_signature) := ⟨rfl, rfl, rfl, by decide +kernel, rfl, by decide +kernel, by decide +kernel⟩
abbrev N__law_source : List Str := ["cell"]
theorem sc__law_source : FnScope N__law_source ["cell"] (defScope s__law_source) := ⟨rfl, rfl, rfl, by decide +kernel, rfl, by decide +kernel, by decide +kernel⟩
abbrev N__law_draw : List Str := ["source", "many", "digit", "mixed"]
theorem sc__law_draw : FnScope N__law_draw ["source", "many"] (defScope s__law_draw) := ⟨rfl, rfl, rfl, by decide +kernel, rfl, by decide +kernel, by decide +kernel⟩
abbrev N__law_all_words : List Str := ["letters", "most", "found", "ends", "turn", "later", "word", "sign"]
theorem sc__law_all_words : FnScope N__law_all_words ["letters", "most"] (defScope s__law_all_words) := ⟨rfl, rfl, rfl, by decide +kernel, rfl, by decide +kernel, by decide +kernel⟩
abbrev N__law_is_part : List Str := ["one", "word", "at", "sign"]
theorem sc__law_is_part : FnScope N__law_is_part ["one", "word"] (defScope s__law_is_part) := ⟨rfl, rfl, rfl, by decide +kernel, rfl, by decide +kernel, by decide +kernel⟩
abbrev N__law_said : List Str := ["word", "length", "e"]
theorem sc__law_said : FnScope N__law_said ["word", "length"] (defScope s__law_said) := ⟨rfl, rfl, rfl, by decide +kernel, rfl, by decide +kernel, by decide +kernel⟩
abbrev N__law_right : List Str := ["source", "letters", "many", "word", "some", "size", "due", "found", "odd", "turn", "one"]
theorem sc__law_right : FnScope N__law_right ["source"] (defScope s__law_right) := ⟨rfl, rfl, rfl, by decide +kernel, rfl, by decide +kernel, by decide +kernel⟩
abbrev N_law : List Str := ["script", "cell", "source", "turn"]
theorem sc_law : FnScope N_law ["script"] (defScope s_law) := ⟨rfl, rfl, rfl, by decide +kernel, rfl, by decide +kernel, by decide +kernel⟩
abbrev N_NoWord_init : List Str := ["self", "word"]
theorem sc_NoWord_init : FnScope N_NoWord_init ["self", "word"] (defScope s_NoWord_init) := ⟨rfl, rfl, rfl, by decide +kernel, rfl, by decide +kernel, by decide +kernel⟩
abbrev N_NoLength_init : List Str := ["self", "length"]
theorem sc_NoLength_init : FnScope N_NoLength_init ["self", "length"] (defScope s_NoLength_init) := ⟨rfl, rfl, rfl, by decide +kernel, rfl, by decide +kernel, by decide +kernel⟩
abbrev N__law_pick : List Str := ["source", "some"]
theorem sc__law_pick : FnScope N__law_pick ["source", "some"] (defScope s__law_pick) := ⟨rfl, rfl, rfl, by decide +kernel, rfl, by decide +kernel, by decide +kernel⟩
structure Txt (K : PySem.W.Frag) (mg : Str → Option Value) : Prop where
  n_int : mg "int" = none
  n_isinstance : mg "isinstance" = none
  n_bool : mg "bool" = none
  n_str : mg "str" = none
  n_len : mg "len" = none
  n_dict : mg "dict" = none
  n_sorted : mg "sorted" = none
  n_abs : mg "abs" = none
  n_range : mg "range" = none
  n_repr : mg "repr" = none
  n_list : mg "list" = none
  c_SIGNS : ∃ u, mg "SIGNS" = some u ∧ RelV (.str (S [97, 98, 99, 100])) u
  c_MOST_TESTED : ∃ u, mg "MOST_TESTED" = some u ∧ RelV (.int 200) u
  c_MOST_LENGTH : ∃ u, mg "MOST_LENGTH" = some u ∧ RelV (.int 4) u
  k_by_words : KeyWF K mg "by_words"
/-- the classes of what flies -/
structure Zed where
  EW : Addr
  EL : Addr
  EB : Addr
structure Zok (K : PySem.W.Frag) (mg : Str → Option Value) (z : Zed) : Prop where
  gEW : mg "NoWord" = some (.ref z.EW)
  oEW : OexC K z.EW
  xfEW : XfC K z.EW
  noEW_word : PySem.W.findIn K (.ref z.EW) "word" = some none
  gEL : mg "NoLength" = some (.ref z.EL)
  oEL : OexC K z.EL
  xfEL : XfC K z.EL
  noEL_length : PySem.W.findIn K (.ref z.EL) "length" = some none
  gEB : mg "FoldError" = some (.ref z.EB)
  xmEW_EW : PySem.W.exmOne K (.ref z.EW) (.ref z.EW) = some true
  xmEW_EL : PySem.W.exmOne K (.ref z.EW) (.ref z.EL) = some false
  xmEW_EB : PySem.W.exmOne K (.ref z.EW) (.ref z.EB) = some true
  xmEL_EW : PySem.W.exmOne K (.ref z.EL) (.ref z.EW) = some false
  xmEL_EL : PySem.W.exmOne K (.ref z.EL) (.ref z.EL) = some true
  xmEL_EB : PySem.W.exmOne K (.ref z.EL) (.ref z.EB) = some true
/-! ### promises -/
/-- a value that is a number, or none -/
inductive IsNum (H : Hp) : V → Bool → Prop
  | int (i : Int) : IsNum H (.int i) true
  | bl (b : Bool) : IsNum H (.bl b) false
  | non : IsNum H .non false
  | str (x : Str) : IsNum H (.str x) false
  | seq {a : Addr} {b : Bool} {xs : List V} (h : H a = some (Bx b xs)) : IsNum H (.ref a) false
def sp_is_number (_ : PySem.W.Frag) : Sp := fun vs H Q _ => ∃ (v : V) (b : Bool), vs = [v] ∧ IsNum H v b ∧ ∀ H', Same H H' → Q (.bl b) H'
/-- no word over abcd of at most 200 letters, and its data -/
inductive BadW (H : Hp) : V → PyData → Prop
  | non : BadW H .non .none
  | int (i : Int) (s : Shb (.int i)) : BadW H (.int i) (.int i)
  | tru : BadW H (.bl true) (.bool true)
  | str (w : List Nat) (hb : 200 < w.length ∨ ∃ c ∈ w, ¬ (97 ≤ c ∧ c < 101)) (hl : w.length ≤ 1000) (ho : OkW w) (s : Shb (.str (S w))) : BadW H (.str (S w)) (.str (S w))
  | lst {a : Addr} (h : H a = some (.lst [.str (S [97])])) : BadW H (.ref a) (.list [.str (S [97])])
  | tup {a : Addr} (h : H a = some (.tup [.str (S [97])])) : BadW H (.ref a) (.tuple [.str (S [97])])
/-- no length, and its data -/
inductive BadL (H : Hp) : V → PyData → Prop
  | int (i : Int) (h : i < 0 ∨ 4 < i) (s : Shb (.int i)) : BadL H (.int i) (.int i)
  | non : BadL H .non .none
  | tru : BadL H (.bl true) (.bool true)
  | str : BadL H (.str (S [49])) (.str (S [49]))
  | lst {a : Addr} (h : H a = some (.lst [.int 2])) : BadL H (.ref a) (.list [.int 2])
def sp_check_word (z : Zed) (_ : PySem.W.Frag) : Sp := fun vs H Q E => ∃ v : V, vs = [v, .int 4, .int 200] ∧ ((∃ w, v = .str (S w) ∧ Lt 4 w ∧ w.length ≤ 200 ∧ ∀ H', Same H H' → Q .non H') ∨ ∃ d, BadW H v d ∧ Fly E H z.EW "word" v)
def sp_by_words (_ : PySem.W.Frag) : Sp := fun vs H Q _ => ∃ w : List Nat, vs = [.str (S w)] ∧ w.length ≤ 1000 ∧ ∀ p H', H p = none → Same H H' → H' p = some (.tup [vI w.length, .str (S w)]) → Q (.ref p) H'
def sp_signature (z : Zed) (_ : PySem.W.Frag) : Sp := fun vs H Q E => ∃ v l : V, vs = [v, l] ∧ ((∃ d, BadW H v d ∧ Fly E H z.EW "word" v) ∨
  ∃ w, v = .str (S w) ∧ Lt 4 w ∧ w.length ≤ 200 ∧ ((∃ d, BadL H l d ∧ Fly E H z.EL "length" l) ∨ ∃ n : Nat, n ≤ 4 ∧ l = vI n ∧ ∀ p H', H p = none → Same H H' → H' p = some (.lst (txV (sg n w))) → Q (.ref p) H'))
def cWord : List Nat := [119, 111, 114, 100]
def cLen : List Nat := [108, 101, 110, 103, 116, 104]
def sp__law_said (z : Zed) (_ : PySem.W.Frag) : Sp := fun vs H Q _ => ∃ v l : V, vs = [v, l] ∧ ((∃ d, BadW H v d ∧ Told H Q cWord (.str d.shown)) ∨
  ∃ w, v = .str (S w) ∧ Lt 4 w ∧ w.length ≤ 200 ∧ ((∃ d, BadL H l d ∧ Told H Q cLen (.str d.shown)) ∨ ∃ n : Nat, n ≤ 4 ∧ l = vI n ∧ ∀ p H', H p = none → Same H H' → H' p = some (.lst (txV (sg n w))) → Q (.ref p) H'))
/-- the source of draws -/
def Src (H : Hp) (p : Addr) : Prop := ∃ a b c : Int, H p = some (.lst [.int a, .int b, .int c]) ∧ 0 ≤ a
theorem Src.same {H H' : Hp} {p : Addr} (s : Src H p) (k : Kq H H') : Src H' p := let ⟨a, b, c, h, r⟩ := s; ⟨a, b, c, k.1 _ _ h, r⟩
def sp__law_source (_ : PySem.W.Frag) : Sp := fun vs H Q _ => ∃ i : Int, vs = [.int i] ∧ ∀ p H', H p = none → Same H H' → Src H' p → Q (.ref p) H'
def sp__law_draw (_ : PySem.W.Frag) : Sp := fun vs H Q _ => ∃ (p : Addr) (n : Int), vs = [.ref p, .int n] ∧ Src H p ∧ 0 < n ∧ n < 1000000 ∧ ∀ (d : Int) (H' : Hp), 0 ≤ d → d < n → Src H' p → ExB p H H' → Q (.int d) H'
def spPick : Sp := fun vs H Q _ => ∃ (p q : Addr) (xs : List V), vs = [.ref p, .ref q] ∧ Src H p ∧ H q = some (.lst xs) ∧ q ≠ p ∧ 1 ≤ xs.length ∧ xs.length ≤ 100 ∧ ∀ (i : Nat) (x : V) (H' : Hp), xs[i]? = some x → Src H' p → ExB p H H' → Q x H'
def sp__law_pick_i (_ : PySem.W.Frag) : Sp := spPick
def sp__law_pick_s (_ : PySem.W.Frag) : Sp := spPick
def sp__law_all_words (_ : PySem.W.Frag) : Sp := fun vs H Q _ => ∃ most : Nat, vs = [.int 4, .int (most : Nat)] ∧ most ≤ 4 ∧ ∀ p H', H p = none → Same H H' → H' p = some (.lst (txV (aw 4 most))) → Q (.ref p) H'
def sp__law_is_part (_ : PySem.W.Frag) : Sp := fun vs H Q _ => ∃ one w : List Nat, vs = [.str (S one), .str (S w)] ∧ one.length ≤ 1000 ∧ w.length ≤ 1000 ∧ ∀ H', Same H H' → Q (.bl (decide (List.Sublist one w))) H'
def sp__law_right (_ : PySem.W.Frag) : Sp := fun vs H Q _ => ∃ p : Addr, vs = [.ref p] ∧ Src H p ∧ ∀ H', Src H' p → ExB p H H' → Q (.bl true) H'
def sp_law (K : PySem.W.Frag) : Sp := fun vs H Q _ => ∃ (a : Addr) (ns : List Int), vs = [.ref a] ∧ SqL K H a (ns.map V.int) ∧ ns.length ≤ 63 ∧ ∀ H', Q (.bl true) H'
end My
namespace My
open PySem PySem.Spec L2 SX LamX Mon
open PyProof.Rows hiding St
local macro_rules | `(tactic| walk_at "kb") => `(tactic| first | exact kb_str_str | exact kb_str_int | exact kb_str_bool | exact kb_str_list | exact kb_str_tuple | exact kb_int_str | exact kb_int_int | exact kb_int_bool | exact kb_int_list | exact kb_int_tuple | exact kb_bool_str | exact kb_bool_int | exact kb_bool_bool | exact kb_bool_list | exact kb_bool_tuple | exact kb_list_str | exact kb_list_int | exact kb_list_bool | exact kb_list_list | exact kb_list_tuple | exact kb_tuple_str | exact kb_tuple_int | exact kb_tuple_bool | exact kb_tuple_list | exact kb_tuple_tuple | exact kb_NoneType_str | exact kb_NoneType_int | exact kb_NoneType_bool | exact kb_NoneType_list | exact kb_NoneType_tuple)
local macro_rules | `(tactic| walk_at "hp") => `(tactic| first | assumption | exact upd_same | (refine (upd_ne (by first | assumption | (apply Ne.symm; assumption))).trans ?_; walk_at "hp"))
local macro_rules | `(tactic| walk_at "sq") => `(tactic| first | assumption | exact SqL.of (by walk_at "hp"))
local macro_rules | `(tactic| walk_at "sqt") => `(tactic| first | assumption | exact SqT.of (by walk_at "hp"))
local macro_rules | `(tactic| walk_at "ar") => `(tactic| first | omega | (dsimp only; omega) | (unfold CMul; omega) | (unfold CDiv; omega) | (unfold CPow; refine ⟨?_, ?_, ?_⟩ <;> decide) | (simp only [List.length_cons, List.length_nil]; decide))
local macro_rules | `(tactic| walk_at "rd") => `(tactic| first
  | with_reducible refine rd_seq ?_
  | with_reducible refine rd_asg ?_
  | with_reducible refine rd_if ?_
  | with_reducible refine rd_ret ?_
  | with_reducible refine rd_drop ?_
  | with_reducible refine rd_name ?_
  | with_reducible refine rd_sub ?_
  | ((with_reducible refine' rd_var ?e ?_); (case e => exact rfl))
  | with_reducible refine rd_c ?_
  | with_reducible refine rd_op ?_
  | with_reducible refine rd_un ?_
  | with_reducible refine rd_I0 ?_
  | ((with_reducible refine' rd_I ?c ?_); (case c => walk_at "ar"))
  | with_reducible refine rd_U ?_
  | with_reducible refine rd_eqI ?_
  | with_reducible refine rd_neI ?_
  | with_reducible refine rd_eqS ?_
  | with_reducible refine rd_neS ?_
  | with_reducible refine rd_eqB ?_
  | with_reducible refine rd_neB ?_
  | with_reducible refine rd_test ?_
  | with_reducible refine rd_B ?_
  | with_reducible refine rd_and ?_
  | with_reducible refine rd_or ?_
  | with_reducible refine rd_not ?_
  | with_reducible refine rd_andV ?_
  | with_reducible refine rd_orV ?_
  | with_reducible refine rd_notV ?_
  | with_reducible refine rd_ifE ?_
  | with_reducible refine rd_isN ?_
  | with_reducible refine rd_notN ?_
  | with_reducible refine rd_cons ?_
  | with_reducible refine rd_nil ?_
  | with_reducible refine rd_lst ?_
  | with_reducible refine rd_tup ?_
  | with_reducible refine rd_CB ?_
  | with_reducible refine rd_call ?_
  | with_reducible refine rd_sl ?_
  | with_reducible refine rd_part ?_
  | with_reducible refine rd_nopart ?_
  | with_reducible refine rd_par ?_
  | with_reducible refine rd_two ?_
  | with_reducible refine rd_next ?_
  | with_reducible refine rd_retN ?_
  | with_reducible refine rd_bool ?_
  | with_reducible refine rd_int ?_
  | with_reducible refine rd_intI ?_
  | with_reducible refine rd_intB ?_
  | with_reducible refine rd_ltS ?_
  | with_reducible refine rd_leS ?_
  | with_reducible refine rd_gtS ?_
  | with_reducible refine rd_geS ?_
  | with_reducible refine rd_inC ?_
  | with_reducible refine rd_notInC ?_
  | with_reducible refine rd_abs ?_
  | with_reducible refine rd_max2 ?_
  | with_reducible refine rd_min2 ?_
  | with_reducible refine rd_M1 ?_
  | with_reducible refine rd_isStr ?_
  | ((with_reducible refine' rd_len ?b ?_); (case b => (simp only [List.length_cons, List.length_nil]; decide)))
  | ((with_reducible refine' rd_listS ?b ?_); (case b => first | (simp only [List.length_take, List.length_cons, List.length_nil]; omega) | omega))
  | ((with_reducible refine' rd_isi ?ty ?h ?_); (case ty => first | exact ty_str | exact ty_int | exact ty_bl | exact ty_non | exact ty_lst (by walk_at "hp") | exact ty_tup (by walk_at "hp")); (case h => walk_at "kb"))
  | with_reducible refine rd_lc ?_
  | with_reducible refine rd_for ?_
  | with_reducible refine rd_iList ?_
  | with_reducible refine rd_iTup ?_
  | with_reducible refine rd_iRng1 ?_
  | with_reducible refine rd_iRng2 ?_
  | with_reducible refine rd_iRng3 ?_
  | with_reducible refine rd_iStr ?_
  | with_reducible refine rd_qIs ?_
  | with_reducible refine rd_whb ?_
  | ((with_reducible refine' rd_qIl ?sq ?_); (case sq => walk_at "sq"))
  | ((with_reducible refine' rd_qItu ?sq ?_); (case sq => walk_at "sqt"))
  | ((with_reducible refine' rd_qIr1 ?b1 ?b2 ?_); (case b1 => walk_at "ar"); (case b2 => walk_at "ar"))
  | ((with_reducible refine' rd_qIr2 ?b1 ?b2 ?b3 ?b4 ?_); (case b1 => walk_at "ar"); (case b2 => walk_at "ar"); (case b3 => walk_at "ar"); (case b4 => walk_at "ar"))
  | ((with_reducible refine' rd_qIr3 ?b1 ?b2 ?b3 ?b4 ?_); (case b1 => walk_at "ar"); (case b2 => walk_at "ar"); (case b3 => walk_at "ar"); (case b4 => walk_at "ar"))
  | ((with_reducible refine' rd_mulS ?b1 ?b2 ?b3 ?_); (case b1 => walk_at "ar"); (case b2 => walk_at "ar"); (case b3 => walk_at "ar"))
  | ((with_reducible refine' rd_slS_to ?b1 ?b2 ?_); (case b1 => walk_at "ar"); (case b2 => walk_at "ar"))
  | ((with_reducible refine' rd_slS_from ?b1 ?b2 ?_); (case b1 => walk_at "ar"); (case b2 => walk_at "ar"))
  | ((with_reducible refine' rd_slS_mid ?b1 ?b2 ?b3 ?b4 ?_); (case b1 => walk_at "ar"); (case b2 => walk_at "ar"); (case b3 => walk_at "ar"); (case b4 => walk_at "ar"))
  | ((with_reducible refine' rd_slL ?sq ?_); (case sq => walk_at "sq"))
  | with_reducible refine rd_true ?_
  | with_reducible refine rd_false ?_
  | with_reducible refine rd_nt ?_
  | with_reducible refine rd_nf ?_
  | ((with_reducible refine' rd_decT ?h ?_); (case h => omega))
  | ((with_reducible refine' rd_decF ?h ?_); (case h => omega))
  | ((with_reducible refine' rd_ndecT ?h ?_); (case h => omega))
  | ((with_reducible refine' rd_ndecF ?h ?_); (case h => omega))
  | ((with_reducible refine' rd_evT ?h ?_); (case h => first | exact rfl | (simp; done)))
  | ((with_reducible refine' rd_evF ?h ?_); (case h => first | exact rfl | (simp; done)))
  | ((with_reducible refine' rd_ixL ?sq ?a1 ?_); (case sq => walk_at "sq"); (case a1 => first | exact rfl | exact at_of (by omega) (by assumption)))
  | ((with_reducible refine' rd_ixT ?sq ?a1 ?_); (case sq => walk_at "sqt"); (case a1 => first | exact rfl | exact at_of (by omega) (by assumption)))
  | ((with_reducible refine' rd_lenL ?sq ?_); (case sq => walk_at "sq"))
  | ((with_reducible refine' rd_lenT ?sq ?_); (case sq => walk_at "sqt"))
  | ((with_reducible refine' rd_setL ?h ?j ?_); (case h => walk_at "hp"); (case j => exact rfl); (with_reducible refine id ?_))
  | ((with_reducible refine' rd_strlen ?l ?_); (case l => walk_at "ar"))
  | ((with_reducible refine' rd_cat ?l ?_); (case l => walk_at "ar")))
local macro_rules | `(tactic| walk_at "go") => `(tactic| ((try dsimp only); (repeat (walk_at "rd"))))
local macro_rules | `(tactic| walk_at "rd") => `(tactic| first
  | with_reducible refine rd_lstRg ?_
  | with_reducible refine rd_tRg1 ?_
  | with_reducible refine rd_tRg2 ?_
  | with_reducible refine rd_rg1 ?_
  | with_reducible refine rd_rg2 ?_
  | ((with_reducible refine' rd_qRg ?b ?_); (case b => refine ⟨?_, ?_, ?_, ?_⟩ <;> omega))
  | with_reducible refine rd_sortSet ?_
  | with_reducible refine rd_tDGet ?_
  | with_reducible refine rd_sDPut ?_
  | with_reducible refine rd_dnew ?_
  | with_reducible refine rd_iZipS ?_
  | with_reducible refine rd_zipS ?_
  | ((with_reducible refine' rd_inI ?sq ?_); (case sq => walk_at "sq"))
  | ((with_reducible refine' rd_notInI ?sq ?_); (case sq => walk_at "sq"))
  | with_reducible refine rd_chain ?_)

local macro_rules | `(tactic| walk_at "rd") => `(tactic| first
  | with_reducible refine rd_fld ?_
  | with_reducible refine rd_par3 ?_
  | with_reducible refine rd_sFld ?_
  | with_reducible refine rd_meth ?_
  | with_reducible refine rd_make ?_
  | with_reducible refine rd_iEnT ?_
  | with_reducible refine rd_iEnL ?_
  | with_reducible refine rd_iZipSL ?_
  | with_reducible refine rd_dIn ?_
  | with_reducible refine rd_dNotIn ?_
  | with_reducible refine rd_tDGet ?_
  | with_reducible refine rd_thenT ?_
  | with_reducible refine rd_sortLam ?_
  | with_reducible refine rd_tupRg ?_
  | with_reducible refine rd_bm ?_
  | ((with_reducible refine' rd_kTupT ?sq ?_); (case sq => walk_at "sqt"))
  | ((with_reducible refine' rd_kTupL ?sq ?_); (case sq => walk_at "sq"))
  | with_reducible refine rd_sDPut ?_
  | ((with_reducible refine' rd_enT ?sq ?_); (case sq => walk_at "sqt"))
  | ((with_reducible refine' rd_enL ?sq ?_); (case sq => walk_at "sq"))
  | ((with_reducible refine' rd_zipSL ?sq ?_); (case sq => walk_at "sq")))

local macro_rules | `(tactic| walk_at "rd") => `(tactic| first
  | with_reducible refine rd_callS ?_
  | with_reducible refine rd_makeS ?_
  | with_reducible refine rd_methS ?_
  | with_reducible refine rd_xf ?_
  | with_reducible refine rd_mkO ?_)

def abc4 : List Nat := [97, 98, 99, 100]
theorem abc4_iff (c : Nat) : c ∈ abc4 ↔ 97 ≤ c ∧ c < 101 := by
  unfold abc4
  simp only [List.mem_cons, List.not_mem_nil, or_false]
  omega
section
variable {P : Program} {w : World} {K : PySem.W.Frag} {mg : Str → Option Value} {base : Heap}
theorem ok__law_source {f : Addr} {fd : FuncData} (F : Fun K "_law_source" "_law_source" s__law_source f fd) (T : Txt K mg) : FnOk P w K mg base CX0 1 f fd ["cell"] (sp__law_source K) := by
  refine F.ok sc__law_source (fun vs H Q E h => by repeat (first | (obtain ⟨rfl, _⟩ := h; rfl) | obtain ⟨_, h⟩ := h)) (fun cdv A outer s H vs Q E hr h => ?_)
  refine ⟨_, (pss_cons (ps_set (i := 0) sc__law_source.nd rfl (Or.inl rfl) (pe_callB cq_abs rfl T.n_abs boot_abs (pa_cons (pv 0) pa_nil)))
  (pss_one (ps_ret (pe_lst (pa_cons (pe_op op_mul (pv 0) (pe_callTy cq_int rfl T.n_int boot_int (pa_cons (pe_cmpR op_ge (pv 0) (pe_op op_pow pe_int pe_int) (nomark _)) pa_nil))) (pa_cons (pe_op op_mod (pe_callTy cq_int rfl T.n_int boot_int (pa_cons (pv 0) pa_nil)) pe_int) (pa_cons pe_int pa_nil))))))), ?_⟩
  try dsimp only [cxOf, Cx.nox, Cx.wish]
  obtain ⟨i, rfl, k⟩ := h
  walk_at "go"
  intro p np
  exact k p _ np (Same.new np) ⟨_, _, _, upd_same, Int.mul_nonneg (by split <;> omega) (by split <;> omega)⟩
theorem ok__law_draw {f : Addr} {fd : FuncData} (F : Fun K "_law_draw" "_law_draw" s__law_draw f fd) (T : Txt K mg) : FnOk P w K mg base CX0 1 f fd ["source", "many"] (sp__law_draw K) := by
  refine F.ok sc__law_draw (fun vs H Q E h => by repeat (first | (obtain ⟨rfl, _⟩ := h; rfl) | obtain ⟨_, h⟩ := h)) (fun cdv A outer s H vs Q E hr h => ?_)
  refine ⟨_, (pss_cons (ps_if (pt_cmpR op_gt (pe_ix ix_list (pv 0) pe_int (fun _ _ => rfl)) pe_int (nomark _)) (pss_cons (ps_set (i := 2) sc__law_draw.nd rfl (Or.inl rfl) (pe_op op_mod (pe_callTy cq_int rfl T.n_int boot_int (pa_cons (pe_ix ix_list (pv 0) pe_int (fun _ _ => rfl)) pa_nil)) (pv 1)))
  (pss_cons (ps_asg (pe_op op_fdiv (pe_ix ix_list (pv 0) pe_int (fun _ _ => rfl)) (pv 1)) (pg_sub (pv 0) pe_int set_list))
  (pss_one (ps_ret (pv 2))))) pss_nil)
  (pss_cons (ps_asg (pe_op op_add (pe_ix ix_list (pv 0) pe_int (fun _ _ => rfl)) pe_int) (pg_sub (pv 0) pe_int set_list))
  (pss_cons (ps_set (i := 3) sc__law_draw.nd rfl (Or.inl rfl) (pe_op op_mod (pe_callTy cq_int rfl T.n_int boot_int (pa_cons (pe_op op_mul (pe_op op_add (pe_op op_add (pe_ix ix_list (pv 0) pe_int (fun _ _ => rfl)) (pe_op op_mul pe_int (pe_ix ix_list (pv 0) pe_int (fun _ _ => rfl)))) pe_int) pe_int) pa_nil)) pe_int))
  (pss_cons (ps_set (i := 3) sc__law_draw.nd rfl (Or.inl rfl) (pe_op op_mod (pe_callTy cq_int rfl T.n_int boot_int (pa_cons (pe_op op_mul (pv 3) (pe_op op_add (pe_op op_fdiv (pv 3) pe_int) pe_int)) pa_nil)) pe_int))
  (pss_one (ps_ret (pe_op op_mod (pe_callTy cq_int rfl T.n_int boot_int (pa_cons (pe_op op_fdiv (pe_op op_mod (pe_callTy cq_int rfl T.n_int boot_int (pa_cons (pe_op op_mul (pv 3) (pe_op op_add (pe_op op_fdiv (pv 3) pe_int) pe_int)) pa_nil)) pe_int) pe_int) pa_nil)) (pv 1)))))))), ?_⟩
  try dsimp only [cxOf, Cx.nox, Cx.wish]
  obtain ⟨p, n, rfl, ⟨a, b, c, hp, ha⟩, hn, hn2, k⟩ := h
  walk_at "go"
  refine rd_dec (fun h1 => ?_) (fun h1 => ?_)
  · walk_at "go"
    refine k _ _ (Int.emod_nonneg _ (by omega)) (Int.emod_lt_of_pos _ hn) ⟨_, _, _, upd_same, Int.ediv_nonneg ha (by omega)⟩ ExB.upd
  · walk_at "go"
    exact k _ _ (Int.emod_nonneg _ (by omega)) (Int.emod_lt_of_pos _ hn) ⟨a, b, c + 1, upd_same, ha⟩ ExB.upd
theorem Src.ne {H : Hp} {p q : Addr} (s : Src H p) (n : H q = none) : q ≠ p := by
  obtain ⟨a, b, c, h, _⟩ := s
  exact (ne_of_none h n).symm
theorem Src.new {H : Hp} {p q : Addr} {o : HO} (s : Src H p) (n : H q = none) : Src (L2.upd H q o) p := by
  obtain ⟨a, b, c, h, h2⟩ := s
  exact ⟨a, b, c, by rw [upd_ne (ne_of_none h n)]; exact h, h2⟩
theorem Src.upd {H : Hp} {p q : Addr} {o : HO} (s : Src H p) (n : q ≠ p) : Src (L2.upd H q o) p := by
  obtain ⟨a, b, c, h, h2⟩ := s
  exact ⟨a, b, c, by rw [upd_ne n.symm]; exact h, h2⟩
theorem ok__law_pick_i {f : Addr} {fd : FuncData} (F : Fun K "_law_pick" "_law_pick" s__law_pick f fd) (T : Txt K mg) (C__law_draw : Cal P w K mg base 1 "_law_draw" (sp__law_draw K)) : FnOk P w K mg base CX0 2 f fd ["source", "some"] (sp__law_pick_i K) := by
  refine F.ok sc__law_pick (fun vs H Q E h => by repeat (first | (obtain ⟨rfl, _⟩ := h; rfl) | obtain ⟨_, h⟩ := h)) (fun cdv A outer s H vs Q E hr h => ?_)
  refine ⟨_, (pss_one (ps_ret (pe_ix ix_list (pv 1) (pe_c C__law_draw hr (by decide) rfl (pa_cons (pv 0) (pa_cons (pe_callB cq_len rfl T.n_len boot_len (pa_cons (pv 1) pa_nil)) pa_nil))) (fun _ _ => rfl)))), ?_⟩
  try dsimp only [cxOf, Cx.nox, Cx.wish]
  obtain ⟨p, q, xs, rfl, S, hq, hne, h1, h100, k⟩ := h
  walk_at "go"
  refine ⟨p, (xs.length : Nat), rfl, S, by omega, by omega, fun d H1 h0 h2 S1 X1 => ?_⟩
  have hq1 := X1 _ _ hne hq
  obtain ⟨i, rfl⟩ : ∃ i : Nat, d = i := ⟨d.toNat, by omega⟩
  obtain ⟨x, hx⟩ : ∃ x, xs[i]? = some x := ⟨_, List.getElem?_eq_getElem (by omega)⟩
  refine rd_ixL (SqL.of hq1) (atI_nat hx) ?_
  exact k i x H1 hx S1 X1
theorem ok__law_pick_s {f : Addr} {fd : FuncData} (F : Fun K "_law_pick" "_law_pick" s__law_pick f fd) (T : Txt K mg) (C__law_draw : Cal P w K mg base 1 "_law_draw" (sp__law_draw K)) : FnOk P w K mg base CX0 2 f fd ["source", "some"] (sp__law_pick_s K) := by
  refine F.ok sc__law_pick (fun vs H Q E h => by repeat (first | (obtain ⟨rfl, _⟩ := h; rfl) | obtain ⟨_, h⟩ := h)) (fun cdv A outer s H vs Q E hr h => ?_)
  refine ⟨_, (pss_one (ps_ret (pe_ix ix_list (pv 1) (pe_c C__law_draw hr (by decide) rfl (pa_cons (pv 0) (pa_cons (pe_callB cq_len rfl T.n_len boot_len (pa_cons (pv 1) pa_nil)) pa_nil))) (fun _ _ => rfl)))), ?_⟩
  try dsimp only [cxOf, Cx.nox, Cx.wish]
  obtain ⟨p, q, xs, rfl, S, hq, hne, h1, h100, k⟩ := h
  walk_at "go"
  refine ⟨p, (xs.length : Nat), rfl, S, by omega, by omega, fun d H1 h0 h2 S1 X1 => ?_⟩
  have hq1 := X1 _ _ hne hq
  obtain ⟨i, rfl⟩ : ∃ i : Nat, d = i := ⟨d.toNat, by omega⟩
  obtain ⟨x, hx⟩ : ∃ x, xs[i]? = some x := ⟨_, List.getElem?_eq_getElem (by omega)⟩
  refine rd_ixL (SqL.of hq1) (atI_nat hx) ?_
  exact k i x H1 hx S1 X1
theorem ok_is_number {f : Addr} {fd : FuncData} (F : Fun K "is_number" "is_number" s_is_number f fd) (T : Txt K mg) : FnOk P w K mg base CX0 1 f fd ["thing"] (sp_is_number K) := by
  refine F.ok sc_is_number (fun vs H Q E h => by repeat (first | (obtain ⟨rfl, _⟩ := h; rfl) | obtain ⟨_, h⟩ := h)) (fun cdv A outer s H vs Q E hr h => ?_)
  refine ⟨_, (pss_one (ps_ret (pe_and (pe_callB call_isi rfl T.n_isinstance boot_isinstance (pa_cons (pv 0) (pa_cons (pe_bltn (v := .ty "int") rfl T.n_int boot_int rfl) pa_nil))) (pe_one (pe_not (pe_callB call_isi rfl T.n_isinstance boot_isinstance (pa_cons (pv 0) (pa_cons (pe_bltn (v := .ty "bool") rfl T.n_bool boot_bool rfl) pa_nil)))))))), ?_⟩
  try dsimp only [cxOf, Cx.nox, Cx.wish]
  obtain ⟨v, b, rfl, hv, k⟩ := h
  cases hv with
  | int i =>
    walk_at "go"
    exact k _ (Same.refl _)
  | bl b =>
    walk_at "go"
    exact k _ (Same.refl _)
  | non =>
    walk_at "go"
    exact k _ (Same.refl _)
  | str x =>
    walk_at "go"
    exact k _ (Same.refl _)
  | @seq a b xs h =>
    cases b
    · have h : H a = some (.lst xs) := h
      walk_at "go"
      exact k _ (Same.refl _)
    · have h : H a = some (.tup xs) := h
      walk_at "go"
      exact k _ (Same.refl _)
theorem ok_NoWord_init {f : Addr} {fd : FuncData} {z : Zed} (Z : Zok K mg z) (F : Fun K "__init__" "NoWord.__init__" s_NoWord_init f fd) (T : Txt K mg) : FnOk P w K mg base CX0 1 f fd ["self", "word"] (spE1 K z.EW "word") := by
  refine F.ok sc_NoWord_init (fun vs H Q E h => by repeat (first | (obtain ⟨rfl, _⟩ := h; rfl) | obtain ⟨_, h⟩ := h)) (fun cdv A outer s H vs Q E hr h => ?_)
  refine ⟨_, (pss_one (ps_ost (pv 0) (pv 1))), ?_⟩
  try dsimp only [cxOf, Cx.nox, Cx.wish]
  obtain ⟨a, v, rfl, ha, k⟩ := h
  exact rd_ostN ⟨_, rfl, rfl, rfl⟩ ⟨_, rfl, rfl, rfl⟩ Z.oEW Z.noEW_word ha fun dx ndx ne => k dx ndx ne
theorem ok_NoLength_init {f : Addr} {fd : FuncData} {z : Zed} (Z : Zok K mg z) (F : Fun K "__init__" "NoLength.__init__" s_NoLength_init f fd) (T : Txt K mg) : FnOk P w K mg base CX0 1 f fd ["self", "length"] (spE1 K z.EL "length") := by
  refine F.ok sc_NoLength_init (fun vs H Q E h => by repeat (first | (obtain ⟨rfl, _⟩ := h; rfl) | obtain ⟨_, h⟩ := h)) (fun cdv A outer s H vs Q E hr h => ?_)
  refine ⟨_, (pss_one (ps_ost (pv 0) (pv 1))), ?_⟩
  try dsimp only [cxOf, Cx.nox, Cx.wish]
  obtain ⟨a, v, rfl, ha, k⟩ := h
  exact rd_ostN ⟨_, rfl, rfl, rfl⟩ ⟨_, rfl, rfl, rfl⟩ Z.oEL Z.noEL_length ha fun dx ndx ne => k dx ndx ne
theorem ok_by_words {f : Addr} {fd : FuncData} (F : Fun K "by_words" "by_words" s_by_words f fd) (T : Txt K mg) : FnOk P w K mg base CX0 1 f fd ["word"] (sp_by_words K) := by
  refine F.ok sc_by_words (fun vs H Q E h => by repeat (first | (obtain ⟨rfl, _⟩ := h; rfl) | obtain ⟨_, h⟩ := h)) (fun cdv A outer s H vs Q E hr h => ?_)
  refine ⟨_, (pss_one (ps_ret (pe_tup (pa_cons (pe_callB cq_lenS rfl T.n_len boot_len (pa_cons (pv 0) pa_nil)) (pa_cons (pv 0) pa_nil))))), ?_⟩
  try dsimp only [cxOf, Cx.nox, Cx.wish]
  obtain ⟨w, rfl, hw, k⟩ := h
  walk_at "go"
  intro p np
  exact k p _ np (Same.new np) upd_same
theorem ok_check_word {f : Addr} {fd : FuncData} {z : Zed} (Z : Zok K mg z) (F : Fun K "check_word" "check_word" s_check_word f fd) (T : Txt K mg) (C_NoWord_init : MkE P w K mg base 1 "NoWord" z.EW (spE1 K z.EW "word")) : FnOk P w K mg base (L2.CX P w) 3 f fd ["word", "letters", "most"] (sp_check_word z K) := by
  refine F.okX sc_check_word (fun vs H Q E h => by repeat (first | (obtain ⟨rfl, _⟩ := h; rfl) | obtain ⟨_, h⟩ := h)) (fun cdv A outer s H vs Q E hr h => ?_)
  refine ⟨_, (pss_one (ps_if (PW.pt (pw_or (pt_not (pt_val (pe_callB call_isi rfl T.n_isinstance boot_isinstance (pa_cons (pv 0) (pa_cons (pe_bltn (v := .ty "str") rfl T.n_str boot_str rfl) pa_nil))))) (pw_or (pt_cmpR op_gt (pe_callB cq_lenS rfl T.n_len boot_len (pa_cons (pv 0) pa_nil)) (pv 2) (nomark _)) (pw_or1 (pt_cmpR (op_neD hr.units) (pe_lc (own := [("one", 3)]) rfl sc_check_word.nd (pi_str (pv 0)) (blkOk_by (N := N_check_word) (sc := defScope s_check_word) (by decide +kernel)) (fun _ _ _ _ _ => (pg_name (i := 3) sc_check_word.nd rfl (Or.inl rfl))) (fun _ _ _ _ _ => (pts_one (pt_cmpR oq_notInC (pv 3) (pe_slice C8.sl_txt (C8.pe_gc rfl T.c_SIGNS) po_none (po_some (pv 1))) rfl))) (fun _ _ _ _ _ => (pv 3))) (pe_lst pa_nil) (nomark _)))))) (pss_one (ps_raiseE rfl (takes_of rfl rfl rfl rfl) C_NoWord_init hr (by decide) rfl (pa_cons (pv 0) pa_nil))) pss_nil)), ?_⟩
  try dsimp only [cxOf, Cx.nox, Cx.wish]
  obtain ⟨v, rfl, h⟩ := h
  rcases h with ⟨w, rfl, hw, hl, k⟩ | ⟨d, hb, fly⟩
  · walk_at "go"
    refine lcS (l := w) (fun c => !decide (c ∈ abc4)) (fun c => .str (S [c])) (by omega) (fun _ => rfl) ?_ ?_ ?_
    · intro c hc H1 s1 Q1 q1
      walk_at "go"
      exact q1 _ (Same.refl _)
    · intro c hc _ H1 s1 Q1 q1
      walk_at "go"
      exact q1 _ (Same.refl _)
    · intro D H1 nD s1 hD
      have he : w.filter (fun c => !decide (c ∈ abc4)) = [] := List.filter_eq_nil_iff.mpr fun c hc => by
        rw [decide_eq_true ((abc4_iff c).mpr (hw c hc))]; simp
      rw [he] at hD
      walk_at "go"
      intro p2 np2
      have s2 := s1.trans (Same.new (o := .lst []) np2)
      have hD2 := (Same.new (o := .lst []) np2) _ _ hD
      have hp2 : (L2.upd H1 p2 (.lst [])) p2 = some (.lst []) := upd_same
      generalize L2.upd H1 p2 (.lst []) = H2 at *
      refine rd_neLI (ns := []) (ms := []) (SqL.of hD2) (SqL.of hp2) ?_
      walk_at "go"
      exact k _ s2
  · cases hb with
    | non =>
      walk_at "go"
      exact rd_mkE1 fun d nd => fly d _ (Same.refl _) nd
    | int i s =>
      walk_at "go"
      exact rd_mkE1 fun d nd => fly d _ (Same.refl _) nd
    | tru =>
      walk_at "go"
      exact rd_mkE1 fun d nd => fly d _ (Same.refl _) nd
    | str w hb hl ho s =>
      by_cases c : w.length ≤ 200
      · walk_at "go"
        refine lcS (l := w) (fun c => !decide (c ∈ abc4)) (fun c => .str (S [c])) (by omega) (fun _ => rfl) ?_ ?_ ?_
        · intro c hc H1 s1 Q1 q1
          walk_at "go"
          exact q1 _ (Same.refl _)
        · intro c hc _ H1 s1 Q1 q1
          walk_at "go"
          exact q1 _ (Same.refl _)
        · intro D H1 nD s1 hD
          obtain ⟨x, hx, hx2⟩ := hb.resolve_left (by omega)
          have hin : x ∈ w.filter (fun c => !decide (c ∈ abc4)) := List.mem_filter.mpr ⟨hx, by rw [decide_eq_false (fun h => hx2 ((abc4_iff x).mp h))]; rfl⟩
          have hok : ∀ v ∈ (w.filter (fun c => !decide (c ∈ abc4))).map (fun c => [c]), OkW v := fun v hv => by
            obtain ⟨c, hc, rfl⟩ := List.mem_map.mp hv
            intro y hy
            rw [List.mem_singleton.mp hy]
            exact ho c (List.mem_filter.mp hc).1
          have eD : (List.map (fun c => V.str (S [c])) (w.filter (fun c => !decide (c ∈ abc4)))) = ((w.filter (fun c => !decide (c ∈ abc4))).map (fun c => [c])).map fun w => V.str (S w) := by rw [List.map_map]; rfl
          rw [eD] at hD
          generalize w.filter (fun c => !decide (c ∈ abc4)) = fl at *
          walk_at "go"
          intro p2 np2
          have s2 := s1.trans (Same.new (o := .lst []) np2)
          have hD2 := (Same.new (o := .lst []) np2) _ _ hD
          have hp2 : (L2.upd H1 p2 (.lst [])) p2 = some (.lst []) := upd_same
          generalize L2.upd H1 p2 (.lst []) = H2 at *
          refine rd_neLS (ns := fl.map (fun c => [c])) (ms := []) (SqL.of hD2) (SqL.of hp2) hok (fun v hv => by cases hv) ?_
          rw [decide_eq_false (fun e => by
            cases fl with
            | nil => exact nomatch hin
            | cons a b => exact nomatch e)]
          walk_at "go"
          exact rd_mkE1 fun d nd => fly d _ s2 nd
      · walk_at "go"
        exact rd_mkE1 fun d nd => fly d _ (Same.refl _) nd
    | lst h =>
      walk_at "go"
      exact rd_mkE1 fun d nd => fly d _ (Same.refl _) nd
    | tup h =>
      walk_at "go"
      exact rd_mkE1 fun d nd => fly d _ (Same.refl _) nd
end
end My
namespace My
open PySem PySem.Spec L2 SX LamX Mon
open PyProof.Rows hiding St
local macro_rules | `(tactic| walk_at "kb") => `(tactic| first | exact kb_str_str | exact kb_str_int | exact kb_str_bool | exact kb_str_list | exact kb_str_tuple | exact kb_int_str | exact kb_int_int | exact kb_int_bool | exact kb_int_list | exact kb_int_tuple | exact kb_bool_str | exact kb_bool_int | exact kb_bool_bool | exact kb_bool_list | exact kb_bool_tuple | exact kb_list_str | exact kb_list_int | exact kb_list_bool | exact kb_list_list | exact kb_list_tuple | exact kb_tuple_str | exact kb_tuple_int | exact kb_tuple_bool | exact kb_tuple_list | exact kb_tuple_tuple | exact kb_NoneType_str | exact kb_NoneType_int | exact kb_NoneType_bool | exact kb_NoneType_list | exact kb_NoneType_tuple)
local macro_rules | `(tactic| walk_at "hp") => `(tactic| first | assumption | exact upd_same | (refine (upd_ne (by first | assumption | (apply Ne.symm; assumption))).trans ?_; walk_at "hp"))
local macro_rules | `(tactic| walk_at "sq") => `(tactic| first | assumption | exact SqL.of (by walk_at "hp"))
local macro_rules | `(tactic| walk_at "sqt") => `(tactic| first | assumption | exact SqT.of (by walk_at "hp"))
local macro_rules | `(tactic| walk_at "ar") => `(tactic| first | omega | (dsimp only; omega) | (unfold CMul; omega) | (unfold CDiv; omega) | (unfold CPow; refine ⟨?_, ?_, ?_⟩ <;> decide) | (simp only [List.length_cons, List.length_nil]; decide))
local macro_rules | `(tactic| walk_at "rd") => `(tactic| first
  | with_reducible refine rd_seq ?_
  | with_reducible refine rd_asg ?_
  | with_reducible refine rd_if ?_
  | with_reducible refine rd_ret ?_
  | with_reducible refine rd_drop ?_
  | with_reducible refine rd_name ?_
  | with_reducible refine rd_sub ?_
  | ((with_reducible refine' rd_var ?e ?_); (case e => exact rfl))
  | with_reducible refine rd_c ?_
  | with_reducible refine rd_op ?_
  | with_reducible refine rd_un ?_
  | with_reducible refine rd_I0 ?_
  | ((with_reducible refine' rd_I ?c ?_); (case c => walk_at "ar"))
  | with_reducible refine rd_U ?_
  | with_reducible refine rd_eqI ?_
  | with_reducible refine rd_neI ?_
  | with_reducible refine rd_eqS ?_
  | with_reducible refine rd_neS ?_
  | with_reducible refine rd_eqB ?_
  | with_reducible refine rd_neB ?_
  | with_reducible refine rd_test ?_
  | with_reducible refine rd_B ?_
  | with_reducible refine rd_and ?_
  | with_reducible refine rd_or ?_
  | with_reducible refine rd_not ?_
  | with_reducible refine rd_andV ?_
  | with_reducible refine rd_orV ?_
  | with_reducible refine rd_notV ?_
  | with_reducible refine rd_ifE ?_
  | with_reducible refine rd_isN ?_
  | with_reducible refine rd_notN ?_
  | with_reducible refine rd_cons ?_
  | with_reducible refine rd_nil ?_
  | with_reducible refine rd_lst ?_
  | with_reducible refine rd_tup ?_
  | with_reducible refine rd_CB ?_
  | with_reducible refine rd_call ?_
  | with_reducible refine rd_sl ?_
  | with_reducible refine rd_part ?_
  | with_reducible refine rd_nopart ?_
  | with_reducible refine rd_par ?_
  | with_reducible refine rd_two ?_
  | with_reducible refine rd_next ?_
  | with_reducible refine rd_retN ?_
  | with_reducible refine rd_bool ?_
  | with_reducible refine rd_int ?_
  | with_reducible refine rd_intI ?_
  | with_reducible refine rd_intB ?_
  | with_reducible refine rd_ltS ?_
  | with_reducible refine rd_leS ?_
  | with_reducible refine rd_gtS ?_
  | with_reducible refine rd_geS ?_
  | with_reducible refine rd_inC ?_
  | with_reducible refine rd_notInC ?_
  | with_reducible refine rd_abs ?_
  | with_reducible refine rd_max2 ?_
  | with_reducible refine rd_min2 ?_
  | with_reducible refine rd_M1 ?_
  | with_reducible refine rd_isStr ?_
  | ((with_reducible refine' rd_len ?b ?_); (case b => (simp only [List.length_cons, List.length_nil]; decide)))
  | ((with_reducible refine' rd_listS ?b ?_); (case b => first | (simp only [List.length_take, List.length_cons, List.length_nil]; omega) | omega))
  | ((with_reducible refine' rd_isi ?ty ?h ?_); (case ty => first | exact ty_str | exact ty_int | exact ty_bl | exact ty_non | exact ty_lst (by walk_at "hp") | exact ty_tup (by walk_at "hp")); (case h => walk_at "kb"))
  | with_reducible refine rd_lc ?_
  | with_reducible refine rd_for ?_
  | with_reducible refine rd_iList ?_
  | with_reducible refine rd_iTup ?_
  | with_reducible refine rd_iRng1 ?_
  | with_reducible refine rd_iRng2 ?_
  | with_reducible refine rd_iRng3 ?_
  | with_reducible refine rd_iStr ?_
  | with_reducible refine rd_qIs ?_
  | with_reducible refine rd_whb ?_
  | ((with_reducible refine' rd_qIl ?sq ?_); (case sq => walk_at "sq"))
  | ((with_reducible refine' rd_qItu ?sq ?_); (case sq => walk_at "sqt"))
  | ((with_reducible refine' rd_qIr1 ?b1 ?b2 ?_); (case b1 => walk_at "ar"); (case b2 => walk_at "ar"))
  | ((with_reducible refine' rd_qIr2 ?b1 ?b2 ?b3 ?b4 ?_); (case b1 => walk_at "ar"); (case b2 => walk_at "ar"); (case b3 => walk_at "ar"); (case b4 => walk_at "ar"))
  | ((with_reducible refine' rd_qIr3 ?b1 ?b2 ?b3 ?b4 ?_); (case b1 => walk_at "ar"); (case b2 => walk_at "ar"); (case b3 => walk_at "ar"); (case b4 => walk_at "ar"))
  | ((with_reducible refine' rd_mulS ?b1 ?b2 ?b3 ?_); (case b1 => walk_at "ar"); (case b2 => walk_at "ar"); (case b3 => walk_at "ar"))
  | ((with_reducible refine' rd_slS_to ?b1 ?b2 ?_); (case b1 => walk_at "ar"); (case b2 => walk_at "ar"))
  | ((with_reducible refine' rd_slS_from ?b1 ?b2 ?_); (case b1 => walk_at "ar"); (case b2 => walk_at "ar"))
  | ((with_reducible refine' rd_slS_mid ?b1 ?b2 ?b3 ?b4 ?_); (case b1 => walk_at "ar"); (case b2 => walk_at "ar"); (case b3 => walk_at "ar"); (case b4 => walk_at "ar"))
  | ((with_reducible refine' rd_slL ?sq ?_); (case sq => walk_at "sq"))
  | with_reducible refine rd_true ?_
  | with_reducible refine rd_false ?_
  | with_reducible refine rd_nt ?_
  | with_reducible refine rd_nf ?_
  | ((with_reducible refine' rd_decT ?h ?_); (case h => omega))
  | ((with_reducible refine' rd_decF ?h ?_); (case h => omega))
  | ((with_reducible refine' rd_ndecT ?h ?_); (case h => omega))
  | ((with_reducible refine' rd_ndecF ?h ?_); (case h => omega))
  | ((with_reducible refine' rd_evT ?h ?_); (case h => first | exact rfl | (simp; done)))
  | ((with_reducible refine' rd_evF ?h ?_); (case h => first | exact rfl | (simp; done)))
  | ((with_reducible refine' rd_ixL ?sq ?a1 ?_); (case sq => walk_at "sq"); (case a1 => first | exact rfl | exact at_of (by omega) (by assumption)))
  | ((with_reducible refine' rd_ixT ?sq ?a1 ?_); (case sq => walk_at "sqt"); (case a1 => first | exact rfl | exact at_of (by omega) (by assumption)))
  | ((with_reducible refine' rd_lenL ?sq ?_); (case sq => walk_at "sq"))
  | ((with_reducible refine' rd_lenT ?sq ?_); (case sq => walk_at "sqt"))
  | ((with_reducible refine' rd_setL ?h ?j ?_); (case h => walk_at "hp"); (case j => exact rfl); (with_reducible refine id ?_))
  | ((with_reducible refine' rd_strlen ?l ?_); (case l => walk_at "ar"))
  | ((with_reducible refine' rd_cat ?l ?_); (case l => walk_at "ar")))
local macro_rules | `(tactic| walk_at "go") => `(tactic| ((try dsimp only); (repeat (walk_at "rd"))))
local macro_rules | `(tactic| walk_at "rd") => `(tactic| first
  | with_reducible refine rd_lstRg ?_
  | with_reducible refine rd_tRg1 ?_
  | with_reducible refine rd_tRg2 ?_
  | with_reducible refine rd_rg1 ?_
  | with_reducible refine rd_rg2 ?_
  | ((with_reducible refine' rd_qRg ?b ?_); (case b => refine ⟨?_, ?_, ?_, ?_⟩ <;> omega))
  | with_reducible refine rd_sortSet ?_
  | with_reducible refine rd_tDGet ?_
  | with_reducible refine rd_sDPut ?_
  | with_reducible refine rd_dnew ?_
  | with_reducible refine rd_iZipS ?_
  | with_reducible refine rd_zipS ?_
  | ((with_reducible refine' rd_inI ?sq ?_); (case sq => walk_at "sq"))
  | ((with_reducible refine' rd_notInI ?sq ?_); (case sq => walk_at "sq"))
  | with_reducible refine rd_chain ?_)

local macro_rules | `(tactic| walk_at "rd") => `(tactic| first
  | with_reducible refine rd_fld ?_
  | with_reducible refine rd_par3 ?_
  | with_reducible refine rd_sFld ?_
  | with_reducible refine rd_meth ?_
  | with_reducible refine rd_make ?_
  | with_reducible refine rd_iEnT ?_
  | with_reducible refine rd_iEnL ?_
  | with_reducible refine rd_iZipSL ?_
  | with_reducible refine rd_dIn ?_
  | with_reducible refine rd_dNotIn ?_
  | with_reducible refine rd_tDGet ?_
  | with_reducible refine rd_thenT ?_
  | with_reducible refine rd_sortLam ?_
  | with_reducible refine rd_tupRg ?_
  | with_reducible refine rd_bm ?_
  | ((with_reducible refine' rd_kTupT ?sq ?_); (case sq => walk_at "sqt"))
  | ((with_reducible refine' rd_kTupL ?sq ?_); (case sq => walk_at "sq"))
  | with_reducible refine rd_sDPut ?_
  | ((with_reducible refine' rd_enT ?sq ?_); (case sq => walk_at "sqt"))
  | ((with_reducible refine' rd_enL ?sq ?_); (case sq => walk_at "sq"))
  | ((with_reducible refine' rd_zipSL ?sq ?_); (case sq => walk_at "sq")))

local macro_rules | `(tactic| walk_at "rd") => `(tactic| first
  | with_reducible refine rd_dnewT ?_
  | with_reducible refine rd_iKeys ?_
  | with_reducible refine rd_dget2' ?_
  | with_reducible refine rd_dget1 ?_
  | with_reducible refine rd_dsetdT' ?_
  | with_reducible refine rd_bmD ?_
  | with_reducible refine rd_bmS ?_)

local macro_rules | `(tactic| walk_at "rd") => `(tactic| first
  | with_reducible refine rd_callS ?_
  | with_reducible refine rd_makeS ?_
  | with_reducible refine rd_methS ?_
  | with_reducible refine rd_xf ?_
  | with_reducible refine rd_mkO ?_)

/-- a comprehension over the keys of a locked dict, with an if -/
theorem lcK_invF {σ : L2.St} {H : Hp} {Q : VK} {tt : TT} {te : TE} {vs : List Nat} {d : Addr} {o : Obj} {kvs : List (Key × V)} {j : Nat} (Pv : Addr → Nat → List V → Hp → Prop) (hn : kvs.length ≤ 50000) (hw : ∀ x, wipe ((wipe σ vs).set j (some x)) vs = wipe σ vs)
    (hG : ∀ D i acc H', Pv D i acc H' → H' d = some (.frz o (.dK kvs))) (h0 : ∀ D, H D = none → Pv D 0 [] (L2.upd H D (.lst [])))
    (hs : ∀ (D : Addr) (i : Nat) (k : Key) (v : V) (acc : List V) (H' : Hp), kvs[i]? = some (k, v) → H D = none → acc.length ≤ i → Pv D i acc H' → H' D = some (.lst acc) → ∀ (N : Hp → Prop) (Q : VK), (∀ H2, H2 D = some (.lst acc) → Pv D (i + 1) acc H2 → N H2) →
      (∀ y H2, H2 D = some (.lst acc) → Pv D (i + 1) (acc ++ [y]) (L2.upd H2 D (.lst (acc ++ [y]))) → Q y H2) → tt ((wipe σ vs).set j (some (kV k))) H' fun b H2 => if b = true then te ((wipe σ vs).set j (some (kV k))) H2 Q else N H2)
    (q : ∀ (D : Addr) (acc : List V) (H' : Hp), H D = none → acc.length ≤ kvs.length → Pv D kvs.length acc H' → H' D = some (.lst acc) → Q (.ref D) H') : LcG (Itk d o kvs) (gName j) tt te vs σ Q H := by
  intro D hD
  refine lc_it (walk_keys (d := d) (o := o) (kvs := kvs)) (fun i H' => ∃ acc : List V, H' D = some (.lst acc) ∧ acc.length ≤ i ∧ Pv D i acc H') ⟨[], upd_same, Nat.le_refl _, h0 D hD⟩ (fun i H' _ ⟨acc, _, _, p⟩ => hG D i acc H' p) ?_ ?_
  · rintro i x H1 H1' hi ⟨acc, ha, hl, p⟩ ⟨rfl, k, v, hkv, rfl⟩
    refine ⟨hw _, ?_⟩
    refine hs D i k v acc _ hkv hD hl p ha _ _ (fun H2 h2 p2 => ⟨acc, h2, by omega, p2⟩) fun y H2 h2 p2 => ⟨acc, h2, szlt (by omega), acc ++ [y], upd_same, by rw [List.length_append]; show acc.length + 1 ≤ i + 1; omega, p2⟩
  · rintro H1 ⟨acc, ha, hl, p⟩
    exact q D acc H1 hD hl p ha
theorem rd_qLockK {t : TE} {σ : L2.St} {H : Hp} {Q : VK} {d : Addr} {kvs : List (Key × V)} (h : H d = some (.dK kvs)) (q : ∀ od, t σ (L2.upd H d (.frz od (.dK kvs))) fun v H' => H' d = some (.frz od (.dK kvs)) ∧ Q v (L2.upd H' d (.dK kvs))) : tLockE t σ H Q := ⟨d, _, h, trivial, q⟩
def Pw (H : Hp) (a : Addr) (u : List Nat) : Prop := H a = some (.tup [.str (S u), .bl true])
theorem Pw.kt {H H' : Hp} {a : Addr} {u : List Nat} (k : Kt H H') (h : Pw H a u) : Pw H' a u := k _ _ h
theorem pairPw {K : PySem.W.Frag} {H : Hp} : ∀ {as : List Addr} {xs : List (List Nat)}, RL Pw H as xs → Paired (fun p (kv : Key × V) => SqT K H p [kV kv.1, kv.2]) as (kT xs)
  | [], [], _ => .nil
  | [], _ :: _, h => absurd h.1 (by simp)
  | _ :: _, [], h => absurd h.1 (by simp)
  | a :: as, x :: xs, h => .cons (SqT.of (h.2 0 a x rfl rfl)) (pairPw ⟨by simpa using h.1, fun i b y e1 e2 => h.2 (i + 1) b y e1 e2⟩)
theorem kT_get {ks : List (List Nat)} {j : Nat} {k : Key} {v : V} (h : (kT ks)[j]? = some (k, v)) : ∃ u, ks[j]? = some u ∧ k = .inr (S u) ∧ v = .bl true := by
  unfold kT at h
  rw [List.getElem?_map] at h
  cases e : ks[j]? with
  | none => rw [e] at h; cases h
  | some u => rw [e] at h; cases h; exact ⟨u, rfl, rfl, rfl⟩
theorem more_snoc (n c : Nat) (ks : List (List Nat)) (u : List Nat) : more n c (ks ++ [u]) = more n c ks ++ if u.length < n then [u ++ [c]] else [] := by
  unfold more
  rw [List.filter_append, List.map_append]
  congr 1
  by_cases h : u.length < n
  · rw [if_pos h, List.filter_cons, if_pos (decide_eq_true h)]; rfl
  · rw [if_neg h, List.filter_cons, if_neg (by rw [decide_eq_false h]; exact Bool.false_ne_true)]; rfl
section
variable {P : Program} {w : World} {K : PySem.W.Frag} {mg : Str → Option Value} {base : Heap}
theorem ok_signature {f : Addr} {fd : FuncData} {z : Zed} (Z : Zok K mg z) (F : Fun K "signature" "signature" s_signature f fd) (T : Txt K mg) (C_check_word : CalX P w K mg base 3 "check_word" (sp_check_word z K)) (C_is_number : Cal P w K mg base 1 "is_number" (sp_is_number K)) (C_NoLength_init : MkE P w K mg base 1 "NoLength" z.EL (spE1 K z.EL "length")) (C_by_words : Cal P w K mg base 1 "by_words" (sp_by_words K)) : FnOk P w K mg base (L2.CX P w) 4 f fd ["word", "length"] (sp_signature z K) := by
  refine F.okX sc_signature (fun vs H Q E h => by repeat (first | (obtain ⟨rfl, _⟩ := h; rfl) | obtain ⟨_, h⟩ := h)) (fun cdv A outer s H vs Q E hr h => ?_)
  refine ⟨_, (pss_cons (ps_expr (pe_cX C_check_word hr (by decide) rfl (takes_of rfl rfl rfl rfl) (pa_cons (pv 0) (pa_cons (pe_callB cq_lenS rfl T.n_len boot_len (pa_cons (C8.pe_gc rfl T.c_SIGNS) pa_nil)) (pa_cons (C8.pe_gc rfl T.c_MOST_TESTED) pa_nil)))))
  (pss_cons (ps_if (PW.pt (pw_or (pt_not (pt_val (pe_c C_is_number hr (by decide) rfl (pa_cons (pv 1) pa_nil)))) (pw_or1 (pt_not (pt_chain op_le op_le pe_int (pv 1) (C8.pe_gc rfl T.c_MOST_LENGTH)))))) (pss_one (ps_raiseE rfl (takes_of rfl rfl rfl rfl) C_NoLength_init hr (by decide) rfl (pa_cons (pv 1) pa_nil))) pss_nil)
  (pss_cons (ps_set (i := 2) sc_signature.nd rfl (Or.inl rfl) (pe_disp (pps_cons (pe_strS [] rfl) pe_bl pps_nil) rfl rfl (by decide) (by decide)))
  (pss_cons (ps_for PassesOwn.leaving rfl (pi_str (pv 0)) (pg_name (i := 3) sc_signature.nd rfl (Or.inr rfl))
  (pss_one (ps_expr (pe_bm PySem.F.plainAttrs_dict PySem.F.slot_dict_update PySem.F.type_dict_update mt_updK (pv 2) (pa_cons (pe_callTy (call_dictP rfl) rfl T.n_dict boot_dict (pa_cons (pe_lock (pe_lc (own := [("one", 4)]) rfl sc_signature.nd (pi_keys (pv 2)) (blkOk_by (N := N_signature) (sc := defScope s_signature) (by decide +kernel)) (fun _ _ _ _ _ => (pg_name (i := 4) sc_signature.nd rfl (Or.inl rfl))) (fun _ _ _ _ _ => (pts_one (pt_cmpR op_lt (pe_callB cq_lenS rfl T.n_len boot_len (pa_cons (pv 4) pa_nil)) (pv 1) (nomark _)))) (fun _ _ _ _ _ => (pe_tup (pa_cons (pe_op oq_addS (pv 4) (pv 3)) (pa_cons pe_bl pa_nil)))))) pa_nil)) pa_nil)))))
  (pss_one (ps_ret (pe_sortDW T.k_by_words rfl hr rfl rfl T.n_sorted T.n_len (pa_cons (pv 2) pa_nil)))))))), ?_⟩
  try dsimp only [cxOf, Cx.nox, Cx.wish]
  obtain ⟨v, l, rfl, h⟩ := h
  rcases h with ⟨d, hb, fly⟩ | ⟨w, rfl, hw, hl, h⟩
  · walk_at "go"
    exact ⟨v, rfl, .inr ⟨d, hb, fly⟩⟩
  · walk_at "go"
    refine ⟨_, rfl, .inl ⟨w, rfl, hw, hl, fun H1 s1 => ?_⟩⟩
    rcases h with ⟨d, hb, fly⟩ | ⟨n, hn, rfl, k⟩
    · cases hb with
      | int i hi s =>
        walk_at "go"
        refine ⟨.int i, true, rfl, .int i, fun H2 s2 => ?_⟩
        by_cases c : 0 ≤ i
        · walk_at "go"
          exact rd_mkE1 fun d nd => fly d _ (s1.trans s2) nd
        · walk_at "go"
          exact rd_mkE1 fun d nd => fly d _ (s1.trans s2) nd
      | non =>
        walk_at "go"
        refine ⟨.non, false, rfl, .non, fun H2 s2 => ?_⟩
        walk_at "go"
        exact rd_mkE1 fun d nd => fly d _ (s1.trans s2) nd
      | tru =>
        walk_at "go"
        refine ⟨.bl true, false, rfl, .bl _, fun H2 s2 => ?_⟩
        walk_at "go"
        exact rd_mkE1 fun d nd => fly d _ (s1.trans s2) nd
      | str =>
        walk_at "go"
        refine ⟨.str _, false, rfl, .str _, fun H2 s2 => ?_⟩
        walk_at "go"
        exact rd_mkE1 fun d nd => fly d _ (s1.trans s2) nd
      | lst h =>
        walk_at "go"
        refine ⟨.ref _, false, rfl, .seq (b := false) (s1 _ _ h), fun H2 s2 => ?_⟩
        walk_at "go"
        exact rd_mkE1 fun d nd => fly d _ (s1.trans s2) nd
    · walk_at "go"
      refine ⟨vI n, true, rfl, .int _, fun H2 s2 => ?_⟩
      have s12 := s1.trans s2
      walk_at "go"
      refine rd_disp1 fun fo nfo => ?_
      walk_at "go"
      refine ⟨upd_same, .inr (S []), rfl, ?_⟩
      have hfo : (L2.upd (L2.upd H2 fo (.dK [])) fo (.dK [((.inr (S []) : Key), V.bl true)])) fo = some (.dK (kT [[]])) := upd_same
      have s3 : Same H (L2.upd (L2.upd H2 fo (.dK [])) fo (.dK [((.inr (S []) : Key), V.bl true)])) := s12.trans (Same.mut (Same.new nfo) nfo)
      have nfoH : H fo = none := Same.nn s12 nfo
      generalize L2.upd (L2.upd H2 fo (.dK [])) fo (.dK [((.inr (S []) : Key), V.bl true)]) = H3 at *
      walk_at "go"
      refine forS (l := w) (fun i σ' H' => ∃ v3 ks, σ' = [some (.str (S w)), some (vI n), some (.ref fo), v3, none] ∧ Gat n (w.take i) ks ∧ H' fo = some (.dK (kT ks)) ∧ Same H H') ⟨_, [[]], rfl, Gat.zero n, hfo, s3⟩ ?_ ?_
      · rintro i c σ' H4 hc ⟨v3, ks, rfl, g, hf4, s4⟩
        have hkl := g.len (fun c hc => hw c (List.mem_of_mem_take hc)) hn
        have hkt : (kT ks).length = ks.length := by unfold kT; rw [List.length_map]
        walk_at "go"
        refine ⟨.inr (.inr (.inl ⟨rfl, .inl ⟨_, hf4⟩⟩)), ?_⟩
        walk_at "go"
        refine rd_qLockK hf4 fun od => ?_
        have hff : (L2.upd H4 fo (.frz od (.dK (kT ks)))) fo = some (.frz od (.dK (kT ks))) := upd_same
        have hback : ∀ H', Same (L2.upd H4 fo (.frz od (.dK (kT ks)))) H' → Same H4 (L2.upd H' fo (.dK (kT ks))) := fun H' s a o h => by
          by_cases e : a = fo
          · subst e; rw [upd_same, ← h, hf4]
          · rw [upd_ne e]; exact s _ _ (by rw [upd_ne e]; exact h)
        have hnone : ∀ D, (L2.upd H4 fo (.frz od (.dK (kT ks)))) D = none → H4 D = none := fun D h => by
          by_cases e : D = fo
          · subst e; rw [upd_same] at h; cases h
          · rw [upd_ne e] at h; exact h
        generalize L2.upd H4 fo (.frz od (.dK (kT ks))) = HF at *
        walk_at "go"
        refine ⟨fo, od, rfl, .inl ⟨_, hff, ?_⟩⟩
        refine lcK_invF (fun D i acc H' => Same HF H' ∧ ∃ bs, acc = refs bs ∧ RL Pw H' bs (more n c (ks.take i))) (by omega) (fun _ => rfl) (fun D i acc H' h => h.1 _ _ hff) (fun D nD => ⟨Same.new nD, [], rfl, RL.nil⟩) ?_ ?_
        · rintro D j kk vv acc H5 hkv nD hal ⟨s5, bs, rfl, R5⟩ hD5 N Q1 qN qQ
          obtain ⟨u, hu, rfl, rfl⟩ := kT_get hkv
          have hul := ((g.mem u).mp (List.mem_of_getElem? hu)).1
          have et : ks.take (j + 1) = ks.take j ++ [u] := by rw [List.take_add_one, hu]; rfl
          walk_at "go"
          refine rd_strlen (by omega) ?_
          walk_at "go"
          refine rd_dec (fun hlt => ?_) (fun hlt => ?_)
          · walk_at "go"
            refine rd_cat (by rw [List.length_singleton]; omega) ?_
            walk_at "go"
            intro q2 nq2
            have s6 : Same H5 (L2.upd H5 q2 (.tup [.str (S (u ++ [c])), .bl true])) := Same.new nq2
            have hq6 : (L2.upd H5 q2 (.tup [.str (S (u ++ [c])), .bl true])) q2 = some (.tup [.str (S (u ++ [c])), .bl true]) := upd_same
            generalize L2.upd H5 q2 (.tup [.str (S (u ++ [c])), .bl true]) = H6 at *
            refine qQ _ _ (s6 _ _ hD5) ⟨Same.mut (s5.trans s6) nD, bs ++ [q2], refs_snoc.symm, ?_⟩
            rw [et, more_snoc, if_pos (by omega)]
            exact ((R5.keep fun a x h => s6 _ _ h).app (RL.one (P := Pw) hq6)).keep fun a x h => Pw.kt (Kt.updL (s6 _ _ hD5)) h
          · refine qN _ hD5 ⟨s5, bs, rfl, ?_⟩
            rw [et, more_snoc, if_neg (by omega), List.append_nil]
            exact R5
        · rintro D acc H5 nD hal ⟨s5, bs, rfl, R5⟩ hD5
          rw [hkt, List.take_length] at R5
          have hus : (more n c ks).length ≤ ks.length := by unfold more; rw [List.length_map]; exact List.length_filter_le _ _
          refine ⟨s5 _ _ hff, ?_⟩
          have nD4 := hnone D nD
          have hDf : D ≠ fo := by rintro rfl; rw [hff] at nD; cases nD
          have s45 := hback H5 s5
          have hf6 : (L2.upd H5 fo (.dK (kT ks))) fo = some (.dK (kT ks)) := upd_same
          have hD6 : (L2.upd H5 fo (.dK (kT ks))) D = some (.lst (refs bs)) := by rw [upd_ne hDf]; exact hD5
          have R6 : RL Pw (L2.upd H5 fo (.dK (kT ks))) bs (more n c ks) := R5.keep fun a x h => (upd_ne (by rintro rfl; have := (s5 _ _ hff).symm.trans h; cases this)).trans h
          generalize L2.upd H5 fo (.dK (kT ks)) = H6 at *
          walk_at "go"
          refine ⟨D, bs, kT (more n c ks), rfl, SqL.of hD6, pairPw R6, fun dd ndd => ?_⟩
          rw [show mergeK [] (kT (more n c ks)) = mergeT [] (kT (more n c ks)) from rfl]
          have em : mergeT [] (kT (more n c ks)) = kT (mrg [] (more n c ks)) := merge_kT _ []
          have hml := mergeT_len (kT (more n c ks)) []
          rw [em] at hml ⊢
          have hk2 : (kT (more n c ks)).length = (more n c ks).length := by unfold kT; rw [List.length_map]
          rw [List.length_nil] at hml
          have s67 : Same H6 (L2.upd H6 dd (.dK (kT (mrg [] (more n c ks))))) := Same.new ndd
          have hdd : (L2.upd H6 dd (.dK (kT (mrg [] (more n c ks))))) dd = some (.dK (kT (mrg [] (more n c ks)))) := upd_same
          have hfd : fo ≠ dd := ne_of_none hf6 ndd
          generalize L2.upd H6 dd (.dK (kT (mrg [] (more n c ks)))) = H7 at *
          walk_at "go"
          refine rd_updK (s67 _ _ hf6) hdd hfd (by omega) ?_
          rw [merge_kT]
          have ew : w.take (i + 1) = w.take i ++ [c] := by rw [List.take_add_one, hc]; rfl
          exact ⟨_, _, rfl, by rw [ew]; exact g.snoc, upd_same, Same.mut ((s4.trans s45).trans s67) nfoH⟩
      · rintro σ' H4 ⟨v3, ks, rfl, g, hf4, s4⟩
        rw [List.take_length] at g
        walk_at "go"
        refine rd_tSortDW ?_
        walk_at "go"
        refine ⟨fo, kT ks, ks, rfl, hf4, kT_keys ks, fun u hu => by have := ((g.mem u).mp hu).1; omega, fun p np => ?_⟩
        rw [g.srt hw]
        exact k p _ (Same.nn s4 np) (s4.trans (Same.new np)) upd_same
end
end My
namespace My
open PySem PySem.Spec L2 SX LamX Mon
open PyProof.Rows hiding St
local macro_rules | `(tactic| walk_at "kb") => `(tactic| first | exact kb_str_str | exact kb_str_int | exact kb_str_bool | exact kb_str_list | exact kb_str_tuple | exact kb_int_str | exact kb_int_int | exact kb_int_bool | exact kb_int_list | exact kb_int_tuple | exact kb_bool_str | exact kb_bool_int | exact kb_bool_bool | exact kb_bool_list | exact kb_bool_tuple | exact kb_list_str | exact kb_list_int | exact kb_list_bool | exact kb_list_list | exact kb_list_tuple | exact kb_tuple_str | exact kb_tuple_int | exact kb_tuple_bool | exact kb_tuple_list | exact kb_tuple_tuple | exact kb_NoneType_str | exact kb_NoneType_int | exact kb_NoneType_bool | exact kb_NoneType_list | exact kb_NoneType_tuple)
local macro_rules | `(tactic| walk_at "hp") => `(tactic| first | assumption | exact upd_same | (refine (upd_ne (by first | assumption | (apply Ne.symm; assumption))).trans ?_; walk_at "hp"))
local macro_rules | `(tactic| walk_at "sq") => `(tactic| first | assumption | exact SqL.of (by walk_at "hp"))
local macro_rules | `(tactic| walk_at "sqt") => `(tactic| first | assumption | exact SqT.of (by walk_at "hp"))
local macro_rules | `(tactic| walk_at "ar") => `(tactic| first | omega | (dsimp only; omega) | (unfold CMul; omega) | (unfold CDiv; omega) | (unfold CPow; refine ⟨?_, ?_, ?_⟩ <;> decide) | (simp only [List.length_cons, List.length_nil]; decide))
local macro_rules | `(tactic| walk_at "rd") => `(tactic| first
  | with_reducible refine rd_seq ?_
  | with_reducible refine rd_asg ?_
  | with_reducible refine rd_if ?_
  | with_reducible refine rd_ret ?_
  | with_reducible refine rd_drop ?_
  | with_reducible refine rd_name ?_
  | with_reducible refine rd_sub ?_
  | ((with_reducible refine' rd_var ?e ?_); (case e => exact rfl))
  | with_reducible refine rd_c ?_
  | with_reducible refine rd_op ?_
  | with_reducible refine rd_un ?_
  | with_reducible refine rd_I0 ?_
  | ((with_reducible refine' rd_I ?c ?_); (case c => walk_at "ar"))
  | with_reducible refine rd_U ?_
  | with_reducible refine rd_eqI ?_
  | with_reducible refine rd_neI ?_
  | with_reducible refine rd_eqS ?_
  | with_reducible refine rd_neS ?_
  | with_reducible refine rd_eqB ?_
  | with_reducible refine rd_neB ?_
  | with_reducible refine rd_test ?_
  | with_reducible refine rd_B ?_
  | with_reducible refine rd_and ?_
  | with_reducible refine rd_or ?_
  | with_reducible refine rd_not ?_
  | with_reducible refine rd_andV ?_
  | with_reducible refine rd_orV ?_
  | with_reducible refine rd_notV ?_
  | with_reducible refine rd_ifE ?_
  | with_reducible refine rd_isN ?_
  | with_reducible refine rd_notN ?_
  | with_reducible refine rd_cons ?_
  | with_reducible refine rd_nil ?_
  | with_reducible refine rd_lst ?_
  | with_reducible refine rd_tup ?_
  | with_reducible refine rd_CB ?_
  | with_reducible refine rd_call ?_
  | with_reducible refine rd_sl ?_
  | with_reducible refine rd_part ?_
  | with_reducible refine rd_nopart ?_
  | with_reducible refine rd_par ?_
  | with_reducible refine rd_two ?_
  | with_reducible refine rd_next ?_
  | with_reducible refine rd_retN ?_
  | with_reducible refine rd_bool ?_
  | with_reducible refine rd_int ?_
  | with_reducible refine rd_intI ?_
  | with_reducible refine rd_intB ?_
  | with_reducible refine rd_ltS ?_
  | with_reducible refine rd_leS ?_
  | with_reducible refine rd_gtS ?_
  | with_reducible refine rd_geS ?_
  | with_reducible refine rd_inC ?_
  | with_reducible refine rd_notInC ?_
  | with_reducible refine rd_abs ?_
  | with_reducible refine rd_max2 ?_
  | with_reducible refine rd_min2 ?_
  | with_reducible refine rd_M1 ?_
  | with_reducible refine rd_isStr ?_
  | ((with_reducible refine' rd_len ?b ?_); (case b => (simp only [List.length_cons, List.length_nil]; decide)))
  | ((with_reducible refine' rd_listS ?b ?_); (case b => first | (simp only [List.length_take, List.length_cons, List.length_nil]; omega) | omega))
  | ((with_reducible refine' rd_isi ?ty ?h ?_); (case ty => first | exact ty_str | exact ty_int | exact ty_bl | exact ty_non | exact ty_lst (by walk_at "hp") | exact ty_tup (by walk_at "hp")); (case h => walk_at "kb"))
  | with_reducible refine rd_lc ?_
  | with_reducible refine rd_for ?_
  | with_reducible refine rd_iList ?_
  | with_reducible refine rd_iTup ?_
  | with_reducible refine rd_iRng1 ?_
  | with_reducible refine rd_iRng2 ?_
  | with_reducible refine rd_iRng3 ?_
  | with_reducible refine rd_iStr ?_
  | with_reducible refine rd_qIs ?_
  | with_reducible refine rd_whb ?_
  | ((with_reducible refine' rd_qIl ?sq ?_); (case sq => walk_at "sq"))
  | ((with_reducible refine' rd_qItu ?sq ?_); (case sq => walk_at "sqt"))
  | ((with_reducible refine' rd_qIr1 ?b1 ?b2 ?_); (case b1 => walk_at "ar"); (case b2 => walk_at "ar"))
  | ((with_reducible refine' rd_qIr2 ?b1 ?b2 ?b3 ?b4 ?_); (case b1 => walk_at "ar"); (case b2 => walk_at "ar"); (case b3 => walk_at "ar"); (case b4 => walk_at "ar"))
  | ((with_reducible refine' rd_qIr3 ?b1 ?b2 ?b3 ?b4 ?_); (case b1 => walk_at "ar"); (case b2 => walk_at "ar"); (case b3 => walk_at "ar"); (case b4 => walk_at "ar"))
  | ((with_reducible refine' rd_mulS ?b1 ?b2 ?b3 ?_); (case b1 => walk_at "ar"); (case b2 => walk_at "ar"); (case b3 => walk_at "ar"))
  | ((with_reducible refine' rd_slS_to ?b1 ?b2 ?_); (case b1 => walk_at "ar"); (case b2 => walk_at "ar"))
  | ((with_reducible refine' rd_slS_from ?b1 ?b2 ?_); (case b1 => walk_at "ar"); (case b2 => walk_at "ar"))
  | ((with_reducible refine' rd_slS_mid ?b1 ?b2 ?b3 ?b4 ?_); (case b1 => walk_at "ar"); (case b2 => walk_at "ar"); (case b3 => walk_at "ar"); (case b4 => walk_at "ar"))
  | ((with_reducible refine' rd_slL ?sq ?_); (case sq => walk_at "sq"))
  | with_reducible refine rd_true ?_
  | with_reducible refine rd_false ?_
  | with_reducible refine rd_nt ?_
  | with_reducible refine rd_nf ?_
  | ((with_reducible refine' rd_decT ?h ?_); (case h => omega))
  | ((with_reducible refine' rd_decF ?h ?_); (case h => omega))
  | ((with_reducible refine' rd_ndecT ?h ?_); (case h => omega))
  | ((with_reducible refine' rd_ndecF ?h ?_); (case h => omega))
  | ((with_reducible refine' rd_evT ?h ?_); (case h => first | exact rfl | (simp; done)))
  | ((with_reducible refine' rd_evF ?h ?_); (case h => first | exact rfl | (simp; done)))
  | ((with_reducible refine' rd_ixL ?sq ?a1 ?_); (case sq => walk_at "sq"); (case a1 => first | exact rfl | exact at_of (by omega) (by assumption)))
  | ((with_reducible refine' rd_ixT ?sq ?a1 ?_); (case sq => walk_at "sqt"); (case a1 => first | exact rfl | exact at_of (by omega) (by assumption)))
  | ((with_reducible refine' rd_lenL ?sq ?_); (case sq => walk_at "sq"))
  | ((with_reducible refine' rd_lenT ?sq ?_); (case sq => walk_at "sqt"))
  | ((with_reducible refine' rd_setL ?h ?j ?_); (case h => walk_at "hp"); (case j => exact rfl); (with_reducible refine id ?_))
  | ((with_reducible refine' rd_strlen ?l ?_); (case l => walk_at "ar"))
  | ((with_reducible refine' rd_cat ?l ?_); (case l => walk_at "ar")))
local macro_rules | `(tactic| walk_at "go") => `(tactic| ((try dsimp only); (repeat (walk_at "rd"))))
local macro_rules | `(tactic| walk_at "rd") => `(tactic| first
  | with_reducible refine rd_lstRg ?_
  | with_reducible refine rd_tRg1 ?_
  | with_reducible refine rd_tRg2 ?_
  | with_reducible refine rd_rg1 ?_
  | with_reducible refine rd_rg2 ?_
  | ((with_reducible refine' rd_qRg ?b ?_); (case b => refine ⟨?_, ?_, ?_, ?_⟩ <;> omega))
  | with_reducible refine rd_sortSet ?_
  | with_reducible refine rd_tDGet ?_
  | with_reducible refine rd_sDPut ?_
  | with_reducible refine rd_dnew ?_
  | with_reducible refine rd_iZipS ?_
  | with_reducible refine rd_zipS ?_
  | ((with_reducible refine' rd_inI ?sq ?_); (case sq => walk_at "sq"))
  | ((with_reducible refine' rd_notInI ?sq ?_); (case sq => walk_at "sq"))
  | with_reducible refine rd_chain ?_)

local macro_rules | `(tactic| walk_at "rd") => `(tactic| first
  | with_reducible refine rd_fld ?_
  | with_reducible refine rd_par3 ?_
  | with_reducible refine rd_sFld ?_
  | with_reducible refine rd_meth ?_
  | with_reducible refine rd_make ?_
  | with_reducible refine rd_iEnT ?_
  | with_reducible refine rd_iEnL ?_
  | with_reducible refine rd_iZipSL ?_
  | with_reducible refine rd_dIn ?_
  | with_reducible refine rd_dNotIn ?_
  | with_reducible refine rd_tDGet ?_
  | with_reducible refine rd_thenT ?_
  | with_reducible refine rd_sortLam ?_
  | with_reducible refine rd_tupRg ?_
  | with_reducible refine rd_bm ?_
  | ((with_reducible refine' rd_kTupT ?sq ?_); (case sq => walk_at "sqt"))
  | ((with_reducible refine' rd_kTupL ?sq ?_); (case sq => walk_at "sq"))
  | with_reducible refine rd_sDPut ?_
  | ((with_reducible refine' rd_enT ?sq ?_); (case sq => walk_at "sqt"))
  | ((with_reducible refine' rd_enL ?sq ?_); (case sq => walk_at "sq"))
  | ((with_reducible refine' rd_zipSL ?sq ?_); (case sq => walk_at "sq")))

local macro_rules | `(tactic| walk_at "rd") => `(tactic| first
  | with_reducible refine rd_dnewT ?_
  | with_reducible refine rd_iKeys ?_
  | with_reducible refine rd_dget2' ?_
  | with_reducible refine rd_dget1 ?_
  | with_reducible refine rd_dsetdT' ?_
  | with_reducible refine rd_bmD ?_
  | with_reducible refine rd_bmS ?_)

local macro_rules | `(tactic| walk_at "rd") => `(tactic| first
  | with_reducible refine rd_callS ?_
  | with_reducible refine rd_makeS ?_
  | with_reducible refine rd_methS ?_
  | with_reducible refine rd_xf ?_
  | with_reducible refine rd_mkO ?_)

def abcd4 : List Nat := [97, 98, 99, 100]
theorem pow4 (t : Nat) (h : t ≤ 4) : 4 ^ t ≤ 256 := Nat.pow_le_pow_right (n := 4) (by omega) h
theorem aw4s : ∀ t, t ≤ 4 → (aw 4 t).length ≤ 341 := by decide +kernel
section
variable {P : Program} {w : World} {K : PySem.W.Frag} {mg : Str → Option Value} {base : Heap}
theorem ok__law_all_words {f : Addr} {fd : FuncData} (F : Fun K "_law_all_words" "_law_all_words" s__law_all_words f fd) (T : Txt K mg) : FnOk P w K mg base CX0 1 f fd ["letters", "most"] (sp__law_all_words K) := by
  refine F.ok sc__law_all_words (fun vs H Q E h => by repeat (first | (obtain ⟨rfl, _⟩ := h; rfl) | obtain ⟨_, h⟩ := h)) (fun cdv A outer s H vs Q E hr h => ?_)
  refine ⟨_, (pss_cons (ps_par (i := 2) (j := 3) rfl sc__law_all_words.nd rfl rfl (by decide) rfl rfl (pa_cons (pe_lst (pa_cons (pe_strS [] rfl) pa_nil)) (pa_cons (pe_lst (pa_cons (pe_strS [] rfl) pa_nil)) pa_nil)) (by rfl))
  (pss_cons (ps_for PassesOwn.never rfl (pi_range1 rfl T.n_range (pa_cons (pv 1) pa_nil)) (pg_name (i := 4) sc__law_all_words.nd rfl (Or.inl rfl))
  (pss_cons (ps_set (i := 5) sc__law_all_words.nd rfl (Or.inl rfl) (pe_lst pa_nil))
  (pss_cons (ps_for PassesOwn.never rfl (pi_list (pv 3)) (pg_name (i := 6) sc__law_all_words.nd rfl (Or.inr rfl))
  (pss_one (ps_expr (pe_bm PySem.F.plainAttrs_list PySem.F.slot_list_extend PySem.F.type_list_extend mt_extend (pv 5) (pa_cons (pe_lc (own := [("sign", 7)]) rfl sc__law_all_words.nd (pi_str (pe_slice C8.sl_txt (pe_strS [97, 98, 99, 100] rfl) po_none (po_some (pv 0)))) (blkOk_by (N := N__law_all_words) (sc := defScope s__law_all_words) (by decide +kernel)) (fun _ _ _ _ _ => (pg_name (i := 7) sc__law_all_words.nd rfl (Or.inl rfl))) (fun _ _ _ _ _ => pts_nil) (fun _ _ _ _ _ => (pe_op oq_addS (pv 6) (pv 7)))) pa_nil)))))
  (pss_one (ps_par (i := 2) (j := 3) rfl sc__law_all_words.nd rfl rfl (by decide) rfl rfl (pa_cons (pe_op op_cat (pv 2) (pv 5)) (pa_cons (pv 5) pa_nil)) (by rfl))))))
  (pss_one (ps_ret (pv 2))))), ?_⟩
  try dsimp only [cxOf, Cx.nox, Cx.wish]
  obtain ⟨most, rfl, hmost, k⟩ := h
  walk_at "go"
  intro fa nfa
  walk_at "go"
  intro la nla
  have s1 : Same H (L2.upd (L2.upd H fa (.lst [.str (S [])])) la (.lst [.str (S [])])) := (Same.new nfa).trans (Same.new nla)
  have hfa : (L2.upd (L2.upd H fa (.lst [.str (S [])])) la (.lst [.str (S [])])) fa = some (.lst (txV (aw 4 0))) := (Same.new nla) _ _ upd_same
  have hla : (L2.upd (L2.upd H fa (.lst [.str (S [])])) la (.lst [.str (S [])])) la = some (.lst (txV (wl 4 0))) := upd_same
  generalize L2.upd (L2.upd H fa (.lst [.str (S [])])) la (.lst [.str (S [])]) = H1 at *
  walk_at "go"
  try refine ⟨_, _, rfl, ?_⟩
  walk_at "go"
  refine forR (n := most) (fun t σ' H' => ∃ (fa la : Addr) (v4 v5 v6 v7 : Option V), σ' = [some (.int 4), some (.int (most : Nat)), some (.ref fa), some (.ref la), v4, v5, v6, v7] ∧ Same H H' ∧ H fa = none ∧ H' fa = some (.lst (txV (aw 4 t))) ∧ H' la = some (.lst (txV (wl 4 t)))) ⟨fa, la, _, _, _, _, rfl, s1, nfa, hfa, hla⟩ ?_ ?_
  · rintro t σ' H2 ht ⟨fa, la, v4, v5, v6, v7, rfl, s2, nfa2, hfa2, hla2⟩
    have hb := pow4 t (by omega)
    have hb1 := pow4 (t + 1) (by omega)
    have wlt := wl_len 4 t
    have wlt1 := wl_len 4 (t + 1)
    walk_at "go"
    intro lo nlo
    have hlo : (L2.upd H2 lo (.lst [])) lo = some (.lst (txV (lU 4 (wl 4 t) 0 0))) := upd_same
    have s3 : Same H2 (L2.upd H2 lo (.lst [])) := Same.new nlo
    generalize L2.upd H2 lo (.lst []) = H3 at *
    walk_at "go"
    refine rd_qIl (SqL.of (s3 _ _ hla2)) ?_
    refine forL (wl 4 t) (fun w => V.str (S w)) (fun i σ' H' => ∃ (v4 v6 v7 : Option V), σ' = [some (.int 4), some (.int (most : Nat)), some (.ref fa), some (.ref la), v4, some (.ref lo), v6, v7] ∧ Same H2 H' ∧ H' lo = some (.lst (txV (lU 4 (wl 4 t) i 0)))) ⟨_, _, _, rfl, s3, hlo⟩ (fun i σ' H' _ ⟨_, _, _, _, s, _⟩ => SqL.of (s _ _ hla2)) ?_ ?_
    · rintro i u σ' H4 hu ⟨v4, v6, v7, rfl, s4, hlo4⟩
      have hi : i < (wl 4 t).length := (List.getElem?_eq_some_iff.mp hu).1
      have hul := ((mem_wl t u).mp (List.mem_of_getElem? hu)).2
      have egu : (wl 4 t).getD i [] = u := getD_some hu
      walk_at "go"
      refine ⟨tyL hlo4, ?_⟩
      walk_at "go"
      refine lcS (l := (List.range 4).map fun l => 97 + l) (fun _ => true) (fun c => .str (S (u ++ [c]))) (by rw [List.length_map, List.length_range]; omega) (fun _ => rfl) (fun y _ => pt_yes) ?_ ?_
      · intro c hc _ H5 s5 Q5 q5
        walk_at "go"
        refine rd_cat (by rw [hul]; show t + 1 ≤ 100000; omega) ?_
        exact q5 _ (Same.refl _)
      · intro D5 H5 nD5 s5 hD5
        have eD : (List.map (fun c => V.str (S (u ++ [c]))) (List.filter (fun _ => true) ((List.range 4).map fun l => 97 + l))) = txV ((List.range 4).map fun l => u ++ [97 + l]) := by
          rw [List.filter_eq_self.mpr (fun _ _ => rfl)]
          unfold txV
          rw [List.map_map, List.map_map]
          rfl
        rw [eD] at hD5
        have hlo5 := s5 _ _ hlo4
        have hll := lU_len 4 (wl 4 t) i 0
        walk_at "go"
        refine ⟨lo, D5, _, _, rfl, rfl, hlo5, hD5, sz (by rw [txV_len, txV_len, List.length_map, List.length_range]; omega), ?_⟩
        refine ⟨_, _, _, rfl, Same.updN (s4.trans s5) nlo, ?_⟩
        rw [upd_same, ← lU_row hi]
        unfold lU
        rw [egu]
        unfold txV
        simp
    · rintro σ' H4 ⟨v4, v6, v7, rfl, s4, hlo4⟩
      rw [lU_all] at hlo4
      walk_at "go"
      have hfa4 := s4 _ _ hfa2
      have hal := aw4s t (by omega)
      refine rd_catL hfa4 hlo4 (by rw [txV_len, txV_len]; omega) fun p5 np5 => ?_
      walk_at "go"
      refine ⟨p5, lo, _, _, _, _, rfl, (s2.trans s4).trans (Same.new np5), Same.nn (s2.trans s4) np5, ?_, ?_⟩
      · rw [upd_same, aw_succ]
        unfold txV
        rw [List.map_append]
      · exact (Same.new np5) _ _ hlo4
  · rintro σ' H2 ⟨fa, la, v4, v5, v6, v7, rfl, s2, nfa2, hfa2, hla2⟩
    walk_at "go"
    exact k fa H2 nfa2 s2 hfa2
theorem ok__law_is_part {f : Addr} {fd : FuncData} (F : Fun K "_law_is_part" "_law_is_part" s__law_is_part f fd) (T : Txt K mg) : FnOk P w K mg base CX0 1 f fd ["one", "word"] (sp__law_is_part K) := by
  refine F.ok sc__law_is_part (fun vs H Q E h => by repeat (first | (obtain ⟨rfl, _⟩ := h; rfl) | obtain ⟨_, h⟩ := h)) (fun cdv A outer s H vs Q E hr h => ?_)
  refine ⟨_, (pss_cons (ps_set (i := 2) sc__law_is_part.nd rfl (Or.inl rfl) pe_int)
  (pss_cons (ps_for PassesOwn.never rfl (pi_str (pv 1)) (pg_name (i := 3) sc__law_is_part.nd rfl (Or.inl rfl))
  (pss_one (ps_set (i := 2) sc__law_is_part.nd rfl (Or.inl rfl) (pe_op op_add (pv 2) (pe_callTy cq_int rfl T.n_int boot_int (pa_cons (pe_and (pe_cmpR op_lt (pv 2) (pe_callB cq_lenS rfl T.n_len boot_len (pa_cons (pv 0) pa_nil)) (nomark _)) (pe_one (pe_cmpR op_eq (pe_slice C8.sl_txt (pv 0) (po_some (pv 2)) (po_some (pe_op op_add (pv 2) pe_int))) (pv 3) (nomark _)))) pa_nil))))))
  (pss_one (ps_ret (pe_cmpR op_eq (pv 2) (pe_callB cq_lenS rfl T.n_len boot_len (pa_cons (pv 0) pa_nil)) (nomark _)))))), ?_⟩
  try dsimp only [cxOf, Cx.nox, Cx.wish]
  obtain ⟨one, u, rfl, h1, hu, k⟩ := h
  walk_at "go"
  refine forS (l := u) (fun i σ' H' => ∃ v3, σ' = [some (.str (S one)), some (.str (S u)), some (.int (gp one (u.take i) : Nat)), v3] ∧ Same H H') ⟨_, rfl, Same.refl _⟩ ?_ ?_
  · rintro i c σ' H1 hc ⟨v3, rfl, s1⟩
    have hg := (gp_inv one (u.take i)).1
    have et : u.take (i + 1) = u.take i ++ [c] := by rw [List.take_add_one, hc]; rfl
    have es := gp_snoc one (u.take i) c
    rw [← et] at es
    generalize hgg : gp one (u.take i) = g at *
    walk_at "go"
    refine rd_dec (fun hlt => ?_) (fun hlt => ?_)
    · walk_at "go"
      have e1 : List.take (((g : Nat) : Int) + 1 - ((g : Nat) : Int)).toNat (List.drop ((g : Nat) : Int).toNat one) = [one.getD g 0] := by
        rw [show (((g : Nat) : Int) + 1 - ((g : Nat) : Int)).toNat = 1 by omega, show ((g : Nat) : Int).toNat = g by omega]
        have hg2 : g < one.length := by omega
        rw [List.drop_eq_getElem_cons hg2, List.getD_eq_getElem?_getD, List.getElem?_eq_getElem hg2]
        rfl
      rw [e1]
      walk_at "go"
      refine ⟨some (.str (S [c])), ?_, s1⟩
      have hg2 : g < one.length := by omega
      have e2 : ((g : Nat) : Int) + (if decide ([one.getD g 0] = [c]) = true then 1 else 0) = ((if g < one.length ∧ one.getD g 0 = c then g + 1 else g : Nat) : Int) := by
        by_cases hcc : one.getD g 0 = c <;> simp only [hcc, hg2, and_self, and_true, and_false, decide_true, List.cons.injEq, decide_false, if_true, if_false, Bool.false_eq_true] <;> omega
      rw [es, ← e2]
      rfl
    · walk_at "go"
      refine ⟨some (.str (S [c])), ?_, s1⟩
      have h9 : ¬ (g < one.length ∧ one.getD g 0 = c) := fun h => hlt (by omega)
      rw [es, if_neg h9]; simp
  · rintro σ' H1 ⟨v3, rfl, s1⟩
    rw [List.take_length]
    walk_at "go"
    have e : decide (((gp one u : Nat) : Int) = (one.length : Nat)) = decide (List.Sublist one u) := decide_eq_decide.mpr ⟨fun h => (gp_iff one u).mp (by omega), fun h => by rw [(gp_iff one u).mpr h]⟩
    rw [e]
    exact k _ s1
theorem BadW.shb {H : Hp} {v : V} {d : PyData} (b : BadW H v d) : Shb d := by
  cases b with
  | non => exact shb_of (by decide +kernel)
  | int i s => exact s
  | tru => exact shb_of (by decide +kernel)
  | str w _ _ _ s => exact s
  | lst h => exact shb_of (by decide +kernel)
  | tup h => exact shb_of (by decide +kernel)
theorem BadW.dp {K : PySem.W.Frag} {H : Hp} {v : V} {d : PyData} (b : BadW H v d) : Dp K H v d := by
  cases b with
  | non => exact .non
  | int i s => exact .int _
  | tru => exact .bl _
  | str w _ _ _ s => exact .str _
  | lst h => exact .lst (SqL.of h) (.cons (.str _) .nil)
  | tup h => exact .tup (SqT.of h) (.cons (.str _) .nil)
theorem BadW.same {H H' : Hp} {v : V} {d : PyData} (b : BadW H v d) (s : Same H H') : BadW H' v d := by
  cases b with
  | non => exact .non
  | int i s => exact .int i s
  | tru => exact .tru
  | str w a b c s => exact .str w a b c s
  | lst h => exact .lst (s _ _ h)
  | tup h => exact .tup (s _ _ h)
theorem BadL.shb {H : Hp} {v : V} {d : PyData} (b : BadL H v d) : Shb d := by
  cases b with
  | non => exact shb_of (by decide +kernel)
  | int i _ s => exact s
  | tru => exact shb_of (by decide +kernel)
  | str => exact shb_of (by decide +kernel)
  | lst h => exact shb_of (by decide +kernel)
theorem BadL.dp {K : PySem.W.Frag} {H : Hp} {v : V} {d : PyData} (b : BadL H v d) : Dp K H v d := by
  cases b with
  | non => exact .non
  | int i _ s => exact .int _
  | tru => exact .bl _
  | str => exact .str _
  | lst h => exact .lst (SqL.of h) (.cons (.int _) .nil)
theorem BadL.same {H H' : Hp} {v : V} {d : PyData} (b : BadL H v d) (s : Same H H') : BadL H' v d := by
  cases b with
  | non => exact .non
  | int i h s => exact .int i h s
  | tru => exact .tru
  | str => exact .str
  | lst h => exact .lst (s _ _ h)
theorem ok__law_said {f : Addr} {fd : FuncData} {z : Zed} (Z : Zok K mg z) (F : Fun K "_law_said" "_law_said" s__law_said f fd) (T : Txt K mg) (C_signature : CalX P w K mg base 4 "signature" (sp_signature z K)) : FnG P w K mg base L2.CX0 5 f fd ["word", "length"] (sp__law_said z K) := by
  refine okG F sc__law_said (fun vs H Q E h => by repeat (first | (obtain ⟨rfl, _⟩ := h; rfl) | obtain ⟨_, h⟩ := h)) (fun cdv A outer s H vs Q E gd0 hr h => ?_)
  have gd : (A.deeper (envOfC "_law_said" (defScope s__law_said) s.heap.objs.size f cdv)).guards = some [] := gd0
  refine ⟨_, (pss_one (ps_tryA rfl rfl sc__law_said.nd L2.takes0 (fun W pn xe tk po => (pss_one (ps_ret (pe_cX C_signature hr (by decide) rfl tk (pa_cons (pv 0) (pa_cons (pv 1) pa_nil)))))) (Cls3.named (i := 2) rfl rfl ⟨rfl, by decide, .inl Z.gEW⟩ (fun a oe cls d pn hz hf => (pss_one (ps_ret (pe_tup (pa_cons (pe_strS [119, 111, 114, 100] rfl) (pa_cons (pe_callB (cq_reprAK K rfl gd hr.units) rfl T.n_repr boot_repr (pa_cons (pe_xf Z.xfEW Z.noEW_word hz hf (pv 2)) pa_nil)) pa_nil)))))) (Cls3.named (i := 2) rfl rfl ⟨rfl, by decide, .inl Z.gEL⟩ (fun a oe cls d pn hz hf => (pss_one (ps_ret (pe_tup (pa_cons (pe_strS [108, 101, 110, 103, 116, 104] rfl) (pa_cons (pe_callB (cq_reprAK K rfl gd hr.units) rfl T.n_repr boot_repr (pa_cons (pe_xf Z.xfEL Z.noEL_length hz hf (pv 2)) pa_nil)) pa_nil)))))) (Cls3.one ⟨rfl, by decide, .inl Z.gEB⟩ (fun a oe cls d pn hz hf => (pss_one (ps_ret (pe_strS [111, 116, 104, 101, 114] rfl)))) Cls3.nil))))), ?_⟩
  try dsimp only [cxOf, Cx.nox, Cx.wish]
  obtain ⟨v, l, rfl, h⟩ := h
  walk_at "go"
  rcases h with ⟨d, hb, kt⟩ | ⟨u, rfl, hu, hl, h⟩
  · refine ⟨v, l, rfl, .inl ⟨d, hb, fun dx H4 s4 nd => ?_⟩⟩
    refine ⟨true, Z.xmEW_EW, fun _ a na => ?_, fun h => nomatch h⟩
    have s5 := s4.trans (Same.new nd (o := .xd [("word", v)]))
    have hd : (L2.upd H4 dx (.xd [("word", v)])) dx = some (.xd [("word", v)]) := upd_same
    generalize L2.upd H4 dx (.xd [("word", v)]) = H5 at *
    refine rd_doS ?_
    walk_at "go"
    refine ⟨rfl, rfl, dx, _, _, rfl, hd, rfl, ?_⟩
    walk_at "go"
    have hs := hb.shb
    refine ⟨v, d, rfl, (hb.same s5).dp, hs.sh, hs.nd, hs.dp, hs.sz, ?_⟩
    walk_at "go"
    intro q nq
    exact kt q _ (s5.trans (Same.new nq)) upd_same
  · refine ⟨.str (S u), l, rfl, .inr ⟨u, rfl, hu, hl, ?_⟩⟩
    rcases h with ⟨d, hb, kt⟩ | ⟨n, hn, rfl, k⟩
    · refine .inl ⟨d, hb, fun dx H4 s4 nd => ?_⟩
      refine ⟨false, Z.xmEL_EW, (fun h => nomatch h), fun _ => ⟨true, Z.xmEL_EL, fun _ a na => ?_, fun h => nomatch h⟩⟩
      have s5 := s4.trans (Same.new nd (o := .xd [("length", l)]))
      have hd : (L2.upd H4 dx (.xd [("length", l)])) dx = some (.xd [("length", l)]) := upd_same
      generalize L2.upd H4 dx (.xd [("length", l)]) = H5 at *
      refine rd_doS ?_
      walk_at "go"
      refine ⟨rfl, rfl, dx, _, _, rfl, hd, rfl, ?_⟩
      walk_at "go"
      have hs := hb.shb
      refine ⟨l, d, rfl, (hb.same s5).dp, hs.sh, hs.nd, hs.dp, hs.sz, ?_⟩
      walk_at "go"
      intro q nq
      exact kt q _ (s5.trans (Same.new nq)) upd_same
    · exact .inr ⟨n, hn, rfl, fun p H1 np s1 hp => k p H1 np s1 hp⟩
end
end My
namespace My
open PySem PySem.Spec L2 SX LamX Mon
open PyProof.Rows hiding St
local macro_rules | `(tactic| walk_at "kb") => `(tactic| first | exact kb_str_str | exact kb_str_int | exact kb_str_bool | exact kb_str_list | exact kb_str_tuple | exact kb_int_str | exact kb_int_int | exact kb_int_bool | exact kb_int_list | exact kb_int_tuple | exact kb_bool_str | exact kb_bool_int | exact kb_bool_bool | exact kb_bool_list | exact kb_bool_tuple | exact kb_list_str | exact kb_list_int | exact kb_list_bool | exact kb_list_list | exact kb_list_tuple | exact kb_tuple_str | exact kb_tuple_int | exact kb_tuple_bool | exact kb_tuple_list | exact kb_tuple_tuple | exact kb_NoneType_str | exact kb_NoneType_int | exact kb_NoneType_bool | exact kb_NoneType_list | exact kb_NoneType_tuple)
local macro_rules | `(tactic| walk_at "hp") => `(tactic| first | assumption | exact upd_same | (refine (upd_ne (by first | assumption | (apply Ne.symm; assumption))).trans ?_; walk_at "hp"))
local macro_rules | `(tactic| walk_at "sq") => `(tactic| first | assumption | exact SqL.of (by walk_at "hp"))
local macro_rules | `(tactic| walk_at "sqt") => `(tactic| first | assumption | exact SqT.of (by walk_at "hp"))
local macro_rules | `(tactic| walk_at "ar") => `(tactic| first | omega | (dsimp only; omega) | (unfold CMul; omega) | (unfold CDiv; omega) | (unfold CPow; refine ⟨?_, ?_, ?_⟩ <;> decide) | (simp only [List.length_cons, List.length_nil]; decide))
local macro_rules | `(tactic| walk_at "rd") => `(tactic| first
  | with_reducible refine rd_seq ?_
  | with_reducible refine rd_asg ?_
  | with_reducible refine rd_if ?_
  | with_reducible refine rd_ret ?_
  | with_reducible refine rd_drop ?_
  | with_reducible refine rd_name ?_
  | with_reducible refine rd_sub ?_
  | ((with_reducible refine' rd_var ?e ?_); (case e => exact rfl))
  | with_reducible refine rd_c ?_
  | with_reducible refine rd_op ?_
  | with_reducible refine rd_un ?_
  | with_reducible refine rd_I0 ?_
  | ((with_reducible refine' rd_I ?c ?_); (case c => walk_at "ar"))
  | with_reducible refine rd_U ?_
  | with_reducible refine rd_eqI ?_
  | with_reducible refine rd_neI ?_
  | with_reducible refine rd_eqS ?_
  | with_reducible refine rd_neS ?_
  | with_reducible refine rd_eqB ?_
  | with_reducible refine rd_neB ?_
  | with_reducible refine rd_test ?_
  | with_reducible refine rd_B ?_
  | with_reducible refine rd_and ?_
  | with_reducible refine rd_or ?_
  | with_reducible refine rd_not ?_
  | with_reducible refine rd_andV ?_
  | with_reducible refine rd_orV ?_
  | with_reducible refine rd_notV ?_
  | with_reducible refine rd_ifE ?_
  | with_reducible refine rd_isN ?_
  | with_reducible refine rd_notN ?_
  | with_reducible refine rd_cons ?_
  | with_reducible refine rd_nil ?_
  | with_reducible refine rd_lst ?_
  | with_reducible refine rd_tup ?_
  | with_reducible refine rd_CB ?_
  | with_reducible refine rd_call ?_
  | with_reducible refine rd_sl ?_
  | with_reducible refine rd_part ?_
  | with_reducible refine rd_nopart ?_
  | with_reducible refine rd_par ?_
  | with_reducible refine rd_two ?_
  | with_reducible refine rd_next ?_
  | with_reducible refine rd_retN ?_
  | with_reducible refine rd_bool ?_
  | with_reducible refine rd_int ?_
  | with_reducible refine rd_intI ?_
  | with_reducible refine rd_intB ?_
  | with_reducible refine rd_ltS ?_
  | with_reducible refine rd_leS ?_
  | with_reducible refine rd_gtS ?_
  | with_reducible refine rd_geS ?_
  | with_reducible refine rd_inC ?_
  | with_reducible refine rd_notInC ?_
  | with_reducible refine rd_abs ?_
  | with_reducible refine rd_max2 ?_
  | with_reducible refine rd_min2 ?_
  | with_reducible refine rd_M1 ?_
  | with_reducible refine rd_isStr ?_
  | ((with_reducible refine' rd_len ?b ?_); (case b => (simp only [List.length_cons, List.length_nil]; decide)))
  | ((with_reducible refine' rd_listS ?b ?_); (case b => first | (simp only [List.length_take, List.length_cons, List.length_nil]; omega) | omega))
  | ((with_reducible refine' rd_isi ?ty ?h ?_); (case ty => first | exact ty_str | exact ty_int | exact ty_bl | exact ty_non | exact ty_lst (by walk_at "hp") | exact ty_tup (by walk_at "hp")); (case h => walk_at "kb"))
  | with_reducible refine rd_lc ?_
  | with_reducible refine rd_for ?_
  | with_reducible refine rd_iList ?_
  | with_reducible refine rd_iTup ?_
  | with_reducible refine rd_iRng1 ?_
  | with_reducible refine rd_iRng2 ?_
  | with_reducible refine rd_iRng3 ?_
  | with_reducible refine rd_iStr ?_
  | with_reducible refine rd_qIs ?_
  | with_reducible refine rd_whb ?_
  | ((with_reducible refine' rd_qIl ?sq ?_); (case sq => walk_at "sq"))
  | ((with_reducible refine' rd_qItu ?sq ?_); (case sq => walk_at "sqt"))
  | ((with_reducible refine' rd_qIr1 ?b1 ?b2 ?_); (case b1 => walk_at "ar"); (case b2 => walk_at "ar"))
  | ((with_reducible refine' rd_qIr2 ?b1 ?b2 ?b3 ?b4 ?_); (case b1 => walk_at "ar"); (case b2 => walk_at "ar"); (case b3 => walk_at "ar"); (case b4 => walk_at "ar"))
  | ((with_reducible refine' rd_qIr3 ?b1 ?b2 ?b3 ?b4 ?_); (case b1 => walk_at "ar"); (case b2 => walk_at "ar"); (case b3 => walk_at "ar"); (case b4 => walk_at "ar"))
  | ((with_reducible refine' rd_mulS ?b1 ?b2 ?b3 ?_); (case b1 => walk_at "ar"); (case b2 => walk_at "ar"); (case b3 => walk_at "ar"))
  | ((with_reducible refine' rd_slS_to ?b1 ?b2 ?_); (case b1 => walk_at "ar"); (case b2 => walk_at "ar"))
  | ((with_reducible refine' rd_slS_from ?b1 ?b2 ?_); (case b1 => walk_at "ar"); (case b2 => walk_at "ar"))
  | ((with_reducible refine' rd_slS_mid ?b1 ?b2 ?b3 ?b4 ?_); (case b1 => walk_at "ar"); (case b2 => walk_at "ar"); (case b3 => walk_at "ar"); (case b4 => walk_at "ar"))
  | ((with_reducible refine' rd_slL ?sq ?_); (case sq => walk_at "sq"))
  | with_reducible refine rd_true ?_
  | with_reducible refine rd_false ?_
  | with_reducible refine rd_nt ?_
  | with_reducible refine rd_nf ?_
  | ((with_reducible refine' rd_decT ?h ?_); (case h => omega))
  | ((with_reducible refine' rd_decF ?h ?_); (case h => omega))
  | ((with_reducible refine' rd_ndecT ?h ?_); (case h => omega))
  | ((with_reducible refine' rd_ndecF ?h ?_); (case h => omega))
  | ((with_reducible refine' rd_evT ?h ?_); (case h => first | exact rfl | (simp; done)))
  | ((with_reducible refine' rd_evF ?h ?_); (case h => first | exact rfl | (simp; done)))
  | ((with_reducible refine' rd_ixL ?sq ?a1 ?_); (case sq => walk_at "sq"); (case a1 => first | exact rfl | exact at_of (by omega) (by assumption)))
  | ((with_reducible refine' rd_ixT ?sq ?a1 ?_); (case sq => walk_at "sqt"); (case a1 => first | exact rfl | exact at_of (by omega) (by assumption)))
  | ((with_reducible refine' rd_lenL ?sq ?_); (case sq => walk_at "sq"))
  | ((with_reducible refine' rd_lenT ?sq ?_); (case sq => walk_at "sqt"))
  | ((with_reducible refine' rd_setL ?h ?j ?_); (case h => walk_at "hp"); (case j => exact rfl); (with_reducible refine id ?_))
  | ((with_reducible refine' rd_strlen ?l ?_); (case l => walk_at "ar"))
  | ((with_reducible refine' rd_cat ?l ?_); (case l => walk_at "ar")))
local macro_rules | `(tactic| walk_at "go") => `(tactic| ((try dsimp only); (repeat (walk_at "rd"))))
local macro_rules | `(tactic| walk_at "rd") => `(tactic| first
  | with_reducible refine rd_lstRg ?_
  | with_reducible refine rd_tRg1 ?_
  | with_reducible refine rd_tRg2 ?_
  | with_reducible refine rd_rg1 ?_
  | with_reducible refine rd_rg2 ?_
  | ((with_reducible refine' rd_qRg ?b ?_); (case b => refine ⟨?_, ?_, ?_, ?_⟩ <;> omega))
  | with_reducible refine rd_sortSet ?_
  | with_reducible refine rd_tDGet ?_
  | with_reducible refine rd_sDPut ?_
  | with_reducible refine rd_dnew ?_
  | with_reducible refine rd_iZipS ?_
  | with_reducible refine rd_zipS ?_
  | ((with_reducible refine' rd_inI ?sq ?_); (case sq => walk_at "sq"))
  | ((with_reducible refine' rd_notInI ?sq ?_); (case sq => walk_at "sq"))
  | with_reducible refine rd_chain ?_)

local macro_rules | `(tactic| walk_at "rd") => `(tactic| first
  | with_reducible refine rd_fld ?_
  | with_reducible refine rd_par3 ?_
  | with_reducible refine rd_sFld ?_
  | with_reducible refine rd_meth ?_
  | with_reducible refine rd_make ?_
  | with_reducible refine rd_iEnT ?_
  | with_reducible refine rd_iEnL ?_
  | with_reducible refine rd_iZipSL ?_
  | with_reducible refine rd_dIn ?_
  | with_reducible refine rd_dNotIn ?_
  | with_reducible refine rd_tDGet ?_
  | with_reducible refine rd_thenT ?_
  | with_reducible refine rd_sortLam ?_
  | with_reducible refine rd_tupRg ?_
  | with_reducible refine rd_bm ?_
  | ((with_reducible refine' rd_kTupT ?sq ?_); (case sq => walk_at "sqt"))
  | ((with_reducible refine' rd_kTupL ?sq ?_); (case sq => walk_at "sq"))
  | with_reducible refine rd_sDPut ?_
  | ((with_reducible refine' rd_enT ?sq ?_); (case sq => walk_at "sqt"))
  | ((with_reducible refine' rd_enL ?sq ?_); (case sq => walk_at "sq"))
  | ((with_reducible refine' rd_zipSL ?sq ?_); (case sq => walk_at "sq")))

local macro_rules | `(tactic| walk_at "rd") => `(tactic| first
  | with_reducible refine rd_dnewT ?_
  | with_reducible refine rd_iKeys ?_
  | with_reducible refine rd_dget2' ?_
  | with_reducible refine rd_dget1 ?_
  | with_reducible refine rd_dsetdT' ?_
  | with_reducible refine rd_bmD ?_
  | with_reducible refine rd_bmS ?_)

local macro_rules | `(tactic| walk_at "rd") => `(tactic| first
  | with_reducible refine rd_callS ?_
  | with_reducible refine rd_makeS ?_
  | with_reducible refine rd_methS ?_
  | with_reducible refine rd_xf ?_
  | with_reducible refine rd_mkO ?_)

theorem rd_ifI {c : Bool} {a b : Int} {σ : L2.St} {H : Hp} {Q : VK} (h : Q (.int (if c = true then a else b)) H) : if c = true then tC (.int a) σ H Q else tC (.int b) σ H Q := by
  cases c
  · exact h
  · exact h
theorem Src.obj {H : Hp} {p : Addr} (s : Src H p) : ∃ ys, H p = some (.lst ys) := let ⟨a, b, c, h, _⟩ := s; ⟨_, h⟩
theorem Src.ex {H H' : Hp} {p : Addr} (s : Src H p) (e : Same H H') : Src H' p := let ⟨a, b, c, h, r⟩ := s; ⟨a, b, c, e _ _ h, r⟩
theorem ltW {w : List Nat} (h : Lt 4 w) : ∀ c ∈ w, c < 128 := fun c hc => by have := h c hc; omega
theorem okS {w : List Nat} (h : ∀ c ∈ w, c < 128) : OkW w := fun c hc => Nat.lt_trans (h c hc) (by decide)
theorem sg_ok {n : Nat} {w : List Nat} (hw : Lt 4 w) : ∀ u ∈ sg n w, OkW u := fun u hu => okS fun c hc => ltW hw c (((mem_sg hw).mp hu).2.subset hc)
theorem sg_len (n : Nat) (w : List Nat) (hn : n ≤ 4) : (sg n w).length ≤ 341 := Nat.le_trans (List.length_filter_le _ _) (aw4s n hn)
section
variable {P : Program} {w : World} {K : PySem.W.Frag} {mg : Str → Option Value} {base : Heap}
theorem ok__law_right {f : Addr} {fd : FuncData} (F : Fun K "_law_right" "_law_right" s__law_right f fd) (T : Txt K mg) (C__law_draw : Cal P w K mg base 1 "_law_draw" (sp__law_draw K)) (C__law_pick_i : Cal P w K mg base 2 "_law_pick" (sp__law_pick_i K)) (C__law_pick_s : Cal P w K mg base 2 "_law_pick" (sp__law_pick_s K)) (C__law_all_words : Cal P w K mg base 1 "_law_all_words" (sp__law_all_words K)) (C__law_is_part : Cal P w K mg base 1 "_law_is_part" (sp__law_is_part K)) (C__law_said : CalG P w K mg base 5 "_law_said" (sp__law_said z K)) : FnG P w K mg base L2.CX0 6 f fd ["source"] (sp__law_right K) := by
  refine okG F sc__law_right (fun vs H Q E h => by repeat (first | (obtain ⟨rfl, _⟩ := h; rfl) | obtain ⟨_, h⟩ := h)) (fun cdv A outer s H vs Q E gd0 hr h => ?_)
  have gd : (A.deeper (envOfC "_law_right" (defScope s__law_right) s.heap.objs.size f cdv)).guards = some [] := gd0
  refine ⟨_, (pss_cons (ps_set (i := 1) sc__law_right.nd rfl (Or.inr rfl) (pe_op op_add pe_int (pe_c C__law_draw hr (by decide) rfl (pa_cons (pv 0) (pa_cons pe_int pa_nil)))))
  (pss_cons (ps_set (i := 2) sc__law_right.nd rfl (Or.inl rfl) (pe_c C__law_pick_i hr (by decide) rfl (pa_cons (pv 0) (pa_cons (pe_lst (pa_cons pe_int (pa_cons pe_int (pa_cons pe_int (pa_cons pe_int (pa_cons pe_int (pa_cons pe_int (pa_cons pe_int (pa_cons pe_int (pa_cons pe_int pa_nil)))))))))) pa_nil))))
  (pss_cons (ps_set (i := 3) sc__law_right.nd rfl (Or.inr rfl) (pe_joinE (pe_strS [] rfl) (pe_lc (own := [("turn", 9)]) rfl sc__law_right.nd (pi_range1 rfl T.n_range (pa_cons (pv 2) pa_nil)) (blkOk_by (N := N__law_right) (sc := defScope s__law_right) (by decide +kernel)) (fun _ _ _ _ _ => (pg_name (i := 9) sc__law_right.nd rfl (Or.inl rfl))) (fun _ _ _ _ _ => pts_nil) (fun _ _ _ _ _ => (pe_c C__law_pick_s hr (by decide) rfl (pa_cons (pv 0) (pa_cons (pe_callTy (call_listS rfl) rfl T.n_list boot_list (pa_cons (pe_slice C8.sl_txt (pe_strS [97, 98, 99, 100] rfl) po_none (po_some (pv 1))) pa_nil)) pa_nil)))))))
  (pss_cons (ps_set (i := 4) sc__law_right.nd rfl (Or.inl rfl) (pe_c C__law_all_words hr (by decide) rfl (pa_cons pe_int (pa_cons (pe_ifExp (pt_cmpR op_lt (pv 2) pe_int (nomark _)) pe_int pe_int) pa_nil))))
  (pss_cons (ps_for PassesOwn.never rfl (pi_range1 rfl T.n_range (pa_cons (pe_ifExp (pt_cmpR op_lt (pv 2) pe_int (nomark _)) pe_int pe_int) pa_nil)) (pg_name (i := 5) sc__law_right.nd rfl (Or.inr rfl))
  (pss_cons (ps_setLc (i := 6) (own := [("one", 10)]) rfl sc__law_right.nd rfl rfl (sw_true rfl rfl rfl (by decide +kernel)) (pi_list (pv 4)) (blkOk_by (N := N__law_right) (sc := defScope s__law_right) (by decide +kernel)) (fun _ _ _ _ _ => (pg_name (i := 10) sc__law_right.nd rfl (Or.inl rfl))) (fun _ _ _ _ _ => (pts_one (PW.pt (pw_and (pt_cmpR op_le (pe_callB cq_lenS rfl T.n_len boot_len (pa_cons (pv 10) pa_nil)) (pv 5) (nomark _)) (pw_and1 (pt_val (pe_c C__law_is_part hr (by decide) rfl (pa_cons (pv 10) (pa_cons (pv 3) pa_nil))))))))) (fun _ _ _ _ _ => (pv 10)))
  (pss_cons (ps_set (i := 7) sc__law_right.nd rfl (Or.inl rfl) (pe_cG C__law_said gd hr (by decide) rfl (pa_cons (pv 3) (pa_cons (pv 5) pa_nil))))
  (pss_cons (ps_if (PW.pt (pw_or (pt_cmpR (op_neD hr.units) (pv 7) (pv 6) (nomark _)) (pw_or1 (pt_not (pt_val (pe_callB call_isi rfl T.n_isinstance boot_isinstance (pa_cons (pv 7) (pa_cons (pe_bltn (v := .ty "list") rfl T.n_list boot_list rfl) pa_nil)))))))) (pss_one (ps_ret pe_bl)) pss_nil)
  (pss_cons (ps_expr (pe_bm PySem.F.plainAttrs_list PySem.F.slot_list_append PySem.F.type_list_append mt_append (pv 7) (pa_cons pe_non pa_nil)))
  (pss_one (ps_if (pt_cmpR (op_neD hr.units) (pe_cG C__law_said gd hr (by decide) rfl (pa_cons (pv 3) (pa_cons (pv 5) pa_nil))) (pv 6) (nomark _)) (pss_one (ps_ret pe_bl)) pss_nil)))))))
  (pss_cons (ps_for PassesOwn.never rfl (pi_tup (pe_tup (pa_cons (pe_un un_neg pe_int) (pa_cons pe_int (pa_cons pe_non (pa_cons pe_bl (pa_cons (pe_strS [49] rfl) (pa_cons (pe_op op_pow pe_int pe_int) (pa_cons (pe_lst (pa_cons pe_int pa_nil)) pa_nil))))))))) (pg_name (i := 8) sc__law_right.nd rfl (Or.inl rfl))
  (pss_one (ps_if (pt_cmpR (op_neD hr.units) (pe_cG C__law_said gd hr (by decide) rfl (pa_cons (pv 3) (pa_cons (pv 8) pa_nil))) (pe_tup (pa_cons (pe_strS [108, 101, 110, 103, 116, 104] rfl) (pa_cons (pe_callB (cq_reprAK K rfl gd hr.units) rfl T.n_repr boot_repr (pa_cons (pv 8) pa_nil)) pa_nil))) (nomark _)) (pss_one (ps_ret pe_bl)) pss_nil)))
  (pss_cons (ps_for PassesOwn.never rfl (pi_tup (pe_tup (pa_cons pe_non (pa_cons pe_int (pa_cons (pe_lst (pa_cons (pe_strS [97] rfl) pa_nil)) (pa_cons (pe_strS [101] rfl) (pa_cons (pe_op oq_addS (pv 3) (pe_strS [101] rfl)) (pa_cons (pe_strS [65] rfl) (pa_cons (pe_op op_mulS (pe_strS [97] rfl) pe_int) (pa_cons (pe_op oq_addS (pv 3) (pe_strS [32] rfl)) (pa_cons pe_bl (pa_cons (pe_tup (pa_cons (pe_strS [97] rfl) pa_nil)) (pa_cons (pe_op oq_addS (pv 3) (pe_op op_mulS (pe_strS [97] rfl) pe_int)) pa_nil))))))))))))) (pg_name (i := 8) sc__law_right.nd rfl (Or.inl rfl))
  (pss_one (ps_if (pt_cmpR (op_neD hr.units) (pe_cG C__law_said gd hr (by decide) rfl (pa_cons (pv 8) (pa_cons (pe_c C__law_pick_i hr (by decide) rfl (pa_cons (pv 0) (pa_cons (pe_lst (pa_cons pe_int (pa_cons pe_int (pa_cons (pe_un un_neg pe_int) (pa_cons pe_non pa_nil))))) pa_nil))) pa_nil))) (pe_tup (pa_cons (pe_strS [119, 111, 114, 100] rfl) (pa_cons (pe_callB (cq_reprAK K rfl gd hr.units) rfl T.n_repr boot_repr (pa_cons (pv 8) pa_nil)) pa_nil))) (nomark _)) (pss_one (ps_ret pe_bl)) pss_nil)))
  (pss_one (ps_ret pe_bl))))))))), ?_⟩
  try dsimp only [cxOf, Cx.nox, Cx.wish]
  obtain ⟨p, rfl, S0, k⟩ := h
  walk_at "go"
  refine ⟨p, 4, rfl, S0, by omega, by omega, fun d H1 d0 d1 S1 X1 => ?_⟩
  obtain ⟨m, rfl⟩ : ∃ m : Nat, d = (m : Int) := ⟨d.toNat, by omega⟩
  walk_at "go"
  intro q1 nq1
  have s12 : Same H1 (L2.upd H1 q1 (.lst [.int 0, .int 1, .int 2, .int 3, .int 5, .int 8, .int 13, .int 40, .int 200])) := Same.new nq1
  have hq1 : (L2.upd H1 q1 (.lst [.int 0, .int 1, .int 2, .int 3, .int 5, .int 8, .int 13, .int 40, .int 200])) q1 = some (.lst [.int 0, .int 1, .int 2, .int 3, .int 5, .int 8, .int 13, .int 40, .int 200]) := upd_same
  have hqp := S1.ne nq1
  have S2 := S1.ex s12
  generalize L2.upd H1 q1 (.lst [.int 0, .int 1, .int 2, .int 3, .int 5, .int 8, .int 13, .int 40, .int 200]) = H2 at *
  walk_at "go"
  refine ⟨p, q1, _, rfl, S2, hq1, hqp, by simp, by simp, fun i x H3 hx S3 X3 => ?_⟩
  have X03 : ExB p H H3 := (X1.trans (ExB.of s12)).trans X3
  obtain ⟨many, rfl, hmany⟩ : ∃ many : Nat, x = vI many ∧ many ≤ 200 := by
    match i, hx with
    | 0, hx => cases hx; exact ⟨0, rfl, by omega⟩
    | 1, hx => cases hx; exact ⟨1, rfl, by omega⟩
    | 2, hx => cases hx; exact ⟨2, rfl, by omega⟩
    | 3, hx => cases hx; exact ⟨3, rfl, by omega⟩
    | 4, hx => cases hx; exact ⟨5, rfl, by omega⟩
    | 5, hx => cases hx; exact ⟨8, rfl, by omega⟩
    | 6, hx => cases hx; exact ⟨13, rfl, by omega⟩
    | 7, hx => cases hx; exact ⟨40, rfl, by omega⟩
    | 8, hx => cases hx; exact ⟨200, rfl, by omega⟩
    | n + 9, hx => exact nomatch hx
  clear hx hq1 S2 S1 s12 X1 X3 nq1
  walk_at "go"
  refine lcR_inv (fun D i acc H' => Src H' p ∧ ExB p H3 H' ∧ D ≠ p ∧ ∃ cs : List Nat, acc = signs cs ∧ Lt 4 cs) (by omega) (fun _ => rfl) (fun D nD => ⟨S3.new nD, ExB.new nD, S3.ne nD, [], rfl, fun c hc => nomatch hc⟩) ?_ ?_
  · rintro D j acc H4 Q4 hj nD hal ⟨S4, X4, hDp, cs, rfl, hcs⟩ hD4 kk
    walk_at "go"
    intro q2 nq2
    have s45 := Same.new (o := .lst (signs (List.take (1 + (m : Int)).toNat [97, 98, 99, 100]))) nq2
    have hq2 : (L2.upd H4 q2 (.lst (signs (List.take (1 + (m : Int)).toNat [97, 98, 99, 100])))) q2 = some (.lst (signs (List.take (1 + (m : Int)).toNat [97, 98, 99, 100]))) := upd_same
    have hq2p := S4.ne nq2
    have S5 := S4.ex s45
    have hDq : D ≠ q2 := ne_of_none hD4 nq2
    generalize L2.upd H4 q2 (.lst (signs (List.take (1 + (m : Int)).toNat [97, 98, 99, 100]))) = H5 at *
    have hl2 : (signs (List.take (1 + (m : Int)).toNat [97, 98, 99, 100])).length = 1 + m := by
      unfold signs
      rw [List.length_map, List.length_take, show ([97, 98, 99, 100] : List Nat).length = 4 from rfl]
      omega
    walk_at "go"
    refine ⟨p, q2, _, rfl, S5, hq2, hq2p, by omega, by omega, fun i x H6 hx S6 X6 => ?_⟩
    obtain ⟨c, rfl, hc1, hc2⟩ : ∃ c, x = .str (S [c]) ∧ 97 ≤ c ∧ c < 101 := by
      unfold signs at hx
      rw [List.getElem?_map] at hx
      cases e : (List.take (1 + (m : Int)).toNat [97, 98, 99, 100])[i]? with
      | none => rw [e] at hx; cases hx
      | some c =>
        rw [e] at hx
        have hm := List.mem_of_mem_take (List.mem_of_getElem? e)
        exact ⟨c, (Option.some.inj hx).symm, (abc4_iff c).mp hm⟩
    have hD6 := X6 _ _ hDp (s45 _ _ hD4)
    have S7 := S6.upd (o := .lst (signs (cs ++ [c]))) hDp
    refine kk _ _ hD6 ⟨?_, ?_, hDp, cs ++ [c], ?_, ?_⟩
    · have e : signs cs ++ [V.str (S [c])] = signs (cs ++ [c]) := by unfold signs; rw [List.map_append]; rfl
      rw [e]; exact S7
    · exact ExB.mut ((X4.trans (ExB.of s45)).trans X6) nD
    · unfold signs; rw [List.map_append]; rfl
    · intro c' hc'
      rcases List.mem_append.mp hc' with h | h
      · exact hcs c' h
      · rw [List.mem_singleton.mp h]; exact ⟨hc1, hc2⟩
  rintro D acc H4 nD hal ⟨S4, X4, hDp, u, rfl, hu⟩ hD4
  have hul : u.length ≤ 200 := by
    unfold signs at hal
    rw [List.length_map] at hal
    omega
  have X04 := X03.trans X4
  clear X03 X4 S3 S0
  walk_at "go"
  refine rd_joinC (SqL.of hD4) (by omega) ?_
  walk_at "go"
  refine rd_ifI ?_
  obtain ⟨most, e1, hm3, hm4⟩ : ∃ most : Nat, (if decide (((many : Nat) : Int) < 9) = true then (4 : Int) else 3) = (most : Int) ∧ 3 ≤ most ∧ most ≤ 4 := by
    by_cases h : ((many : Nat) : Int) < 9
    · exact ⟨4, by rw [decide_eq_true h]; rfl, by omega, by omega⟩
    · exact ⟨3, by rw [decide_eq_false h]; rfl, by omega, by omega⟩
  rw [e1]
  walk_at "go"
  refine ⟨most, rfl, hm4, fun sm H5 nsm s5 hsm => ?_⟩
  have S5 := S4.ex s5
  have hsp := S4.ne nsm
  walk_at "go"
  refine rd_ifI ?_
  have e2 : (if decide (((many : Nat) : Int) < 9) = true then (5 : Int) else 4) = (most : Int) + 1 := by
    rw [← e1]; split <;> rfl
  rw [e2]
  have X05 := X04.trans (ExB.of s5)
  clear X04 S4 hD4 nD e1 e2
  walk_at "go"
  refine forR (n := most + 1) (fun i σ' H' => ∃ v5 v6 v7, σ' = [some (.ref p), some (.int (1 + (m : Int))), some (vI many), some (.str (S u)), some (.ref sm), v5, v6, v7, none, none, none] ∧ Same H5 H') ⟨_, _, _, rfl, Same.refl _⟩ ?_ ?_
  · rintro i σ' H6 hi ⟨v5, v6, v7, rfl, s6⟩
    walk_at "go"
    refine rd_qIl (SqL.of (s6 _ _ hsm)) ?_
    refine lcL (aw 4 most) (fun w => V.str (S w)) (SqL.of (s6 _ _ hsm)) (fun v => decide (v.length ≤ i) && decide (List.Sublist v u)) (fun v => V.str (S v)) (by have := aw4s most hm4; omega) (fun _ => rfl) ?_ ?_ ?_
    · intro v hv H7 s7 Q7 q7
      have hv4 := (mem_aw.mp hv).2
      walk_at "go"
      refine rd_dec (fun hle => ?_) (fun hle => ?_)
      · walk_at "go"
        refine ⟨v, u, rfl, by omega, by omega, fun H8 s8 => ?_⟩
        walk_at "go"
        rw [decide_eq_true (show v.length ≤ i by omega), Bool.true_and] at q7
        exact q7 _ s8
      · rw [decide_eq_false (show ¬ v.length ≤ i by omega), Bool.false_and] at q7
        exact q7 _ (Same.refl _)
    · intro v hv _ H7 s7 Q7 q7
      walk_at "go"
      exact q7 _ (Same.refl _)
    · intro D H7 nD s7 hD
      rw [sg_due (by omega)] at hD
      walk_at "go"
      refine ⟨.str (S u), _, rfl, .inr ⟨u, rfl, hu, hul, .inr ⟨i, by omega, by rw [Int.zero_add], fun f1 H8 nf1 s8 hf1 => ?_⟩⟩⟩
      have hD8 := s8 _ _ hD
      walk_at "go"
      refine rd_neLS (SqL.of hf1) (SqL.of hD8) (sg_ok hu) (sg_ok hu) ?_
      rw [decide_eq_true rfl]
      walk_at "go"
      refine ⟨tyL hf1, ?_⟩
      walk_at "go"
      refine rd_app hf1 (by rw [txV_len]; have := sg_len i u (by omega); omega) ?_
      have s9 : Same H7 (L2.upd H8 f1 (.lst (txV (sg i u) ++ [.non]))) := Same.mut s8 nf1
      have hD9 := s9 _ _ hD
      generalize L2.upd H8 f1 (.lst (txV (sg i u) ++ [.non])) = H9 at *
      walk_at "go"
      refine ⟨.str (S u), _, rfl, .inr ⟨u, rfl, hu, hul, .inr ⟨i, by omega, by rw [Int.zero_add], fun f2 H10 nf2 s10 hf2 => ?_⟩⟩⟩
      have hD10 := s10 _ _ hD9
      walk_at "go"
      refine rd_neLS (SqL.of hf2) (SqL.of hD10) (sg_ok hu) (sg_ok hu) ?_
      rw [decide_eq_true rfl]
      walk_at "go"
      exact ⟨_, _, _, rfl, ((s6.trans s7).trans s9).trans s10⟩
  · rintro σ' H6 ⟨v5, v6, v7, rfl, s6⟩
    have S6 := S5.ex s6
    have X06 := X05.trans (ExB.of s6)
    clear X05 S5 s5 hsm nsm s6
    walk_at "go"
    intro a1 na1
    have sA : Same H6 (L2.upd H6 a1 (.lst [.int 2])) := Same.new na1
    have ha1 : (L2.upd H6 a1 (.lst [.int 2])) a1 = some (.lst [.int 2]) := upd_same
    generalize L2.upd H6 a1 (.lst [.int 2]) = H7 at *
    walk_at "go"
    intro t1 nt1
    have sB : Same H7 (L2.upd H7 t1 (.tup [.int (-1), .int 5, .non, .bl true, .str (S [49]), .int (10 ^ Int.toNat 20), .ref a1])) := Same.new nt1
    have ht1 : (L2.upd H7 t1 (.tup [.int (-1), .int 5, .non, .bl true, .str (S [49]), .int (10 ^ Int.toNat 20), .ref a1])) t1 = some (.tup [.int (-1), .int 5, .non, .bl true, .str (S [49]), .int (10 ^ Int.toNat 20), .ref a1]) := upd_same
    have ha1 := sB _ _ ha1
    generalize L2.upd H7 t1 (.tup [.int (-1), .int 5, .non, .bl true, .str (S [49]), .int (10 ^ Int.toNat 20), .ref a1]) = H8 at *
    have s68 := sA.trans sB
    have S8 := S6.ex s68
    have X08 := X06.trans (ExB.of s68)
    walk_at "go"
    try refine rd_qItu (SqT.of ht1) ?_
    refine forT (K := K) [.int (-1), .int 5, .non, .bl true, .str (S [49]), .int (10 ^ Int.toNat 20), .ref a1] id (fun i σ' H' => ∃ v8, σ' = [some (.ref p), some (.int (1 + (m : Int))), some (vI many), some (.str (S u)), some (.ref sm), v5, v6, v7, v8, none, none] ∧ Same H8 H') ⟨_, rfl, Same.refl _⟩ (fun i σ' H' _ ⟨_, _, s⟩ => by rw [List.map_id]; exact SqT.of (s _ _ ht1)) ?_ ?_
    · rintro i y σ' H9 hy ⟨v8, rfl, s9⟩
      obtain ⟨d, bad⟩ : ∃ d, BadL H9 y d := by
        match i, hy with
        | 0, h => cases h; exact ⟨_, .int (-1) (.inl (by omega)) (shb_of (by decide +kernel))⟩
        | 1, h => cases h; exact ⟨_, .int 5 (.inr (by omega)) (shb_of (by decide +kernel))⟩
        | 2, h => cases h; exact ⟨_, .non⟩
        | 3, h => cases h; exact ⟨_, .tru⟩
        | 4, h => cases h; exact ⟨_, .str⟩
        | 5, h => cases h; exact ⟨_, .int (10 ^ Int.toNat 20) (.inr (by decide)) (shb_of (by decide +kernel))⟩
        | 6, h => cases h; exact ⟨_, .lst (s9 _ _ ha1)⟩
        | n + 7, h => exact nomatch h
      have hs := bad.shb
      dsimp only [id]
      walk_at "go"
      refine ⟨.str (S u), y, rfl, .inr ⟨u, rfl, hu, hul, .inl ⟨d, bad, fun tq H10 s10 htq => ?_⟩⟩⟩
      walk_at "go"
      refine ⟨y, d, rfl, (bad.same s10).dp, hs.sh, hs.nd, hs.dp, hs.sz, ?_⟩
      walk_at "go"
      intro uq nuq
      have s11 : Same H10 (L2.upd H10 uq (.tup [.str (S [108, 101, 110, 103, 116, 104]), .str d.shown])) := Same.new nuq
      refine rd_neD (dTo_dp (s11 _ _ htq) (.str _)) (dTo_dp (what := cLen) upd_same (.str _)) (dToS_sh (by decide +kernel) hs.ok) (dToS_sh (by decide +kernel) hs.ok) ?_
      rw [dToS_eq]
      walk_at "go"
      exact ⟨_, rfl, s9.trans (s10.trans s11)⟩
    · rintro σ' H9 ⟨v8, rfl, s9⟩
      have S9 := S8.ex s9
      have X09 := X08.trans (ExB.of s9)
      clear ht1 nt1 ha1 na1 sA sB s68 S8 S6 X06 X08 s9
      walk_at "go"
      intro a2 na2
      have sA : Same H9 (L2.upd H9 a2 (.lst [.str (S [97])])) := Same.new na2
      have ha2 : (L2.upd H9 a2 (.lst [.str (S [97])])) a2 = some (.lst [.str (S [97])]) := upd_same
      have pa2 := S9.ne na2
      generalize L2.upd H9 a2 (.lst [.str (S [97])]) = H10 at *
      have S10 := S9.ex sA
      have haa : (repL [97] (Int.toNat 201)).length = 201 := by rw [repL_len]; rfl
      have haac : ∀ c ∈ repL [97] (Int.toNat 201), c = 97 := by decide +kernel
      walk_at "go"
      refine rd_cat (by rw [List.length_singleton]; omega) ?_
      walk_at "go"
      generalize repL [97] (Int.toNat 201) = aa at *
      try walk_at "go"
      refine rd_cat (by rw [List.length_singleton]; omega) ?_
      walk_at "go"
      intro t2 nt2
      have sB : Same H10 (L2.upd H10 t2 (.tup [.str (S [97])])) := Same.new nt2
      have ht2 : (L2.upd H10 t2 (.tup [.str (S [97])])) t2 = some (.tup [.str (S [97])]) := upd_same
      have ha2 := sB _ _ ha2
      have pt2 := S10.ne nt2
      generalize L2.upd H10 t2 (.tup [.str (S [97])]) = H11 at *
      have S11 := S10.ex sB
      walk_at "go"
      generalize hbb : repL [97] (Int.toNat 201) = bb at *
      try walk_at "go"
      have hbl : bb.length = 201 := by rw [← hbb, repL_len]; rfl
      have hbc : ∀ c ∈ bb, c = 97 := by rw [← hbb]; decide +kernel
      clear hbb
      refine rd_cat (by omega) ?_
      walk_at "go"
      intro t3 nt3
      have sC : Same H11 (L2.upd H11 t3 (.tup [.non, .int 5, .ref a2, .str (S [101]), .str (S (u ++ [101])), .str (S [65]), .str (S aa), .str (S (u ++ [32])), .bl true, .ref t2, .str (S (u ++ bb))])) := Same.new nt3
      have ht3 : (L2.upd H11 t3 (.tup [.non, .int 5, .ref a2, .str (S [101]), .str (S (u ++ [101])), .str (S [65]), .str (S aa), .str (S (u ++ [32])), .bl true, .ref t2, .str (S (u ++ bb))])) t3 = some (.tup [.non, .int 5, .ref a2, .str (S [101]), .str (S (u ++ [101])), .str (S [65]), .str (S aa), .str (S (u ++ [32])), .bl true, .ref t2, .str (S (u ++ bb))]) := upd_same
      have ha2 := sC _ _ ha2
      have ht2 := sC _ _ ht2
      have pt3 := S11.ne nt3
      generalize L2.upd H11 t3 (.tup [.non, .int 5, .ref a2, .str (S [101]), .str (S (u ++ [101])), .str (S [65]), .str (S aa), .str (S (u ++ [32])), .bl true, .ref t2, .str (S (u ++ bb))]) = H12 at *
      have S12 := S11.ex sC
      have X12 := X09.trans (ExB.of ((sA.trans sB).trans sC))
      clear sA sB sC S9 S10 S11 X09 na2 nt2 nt3
      have hu8 := ltW hu
      have str : ∀ w : List Nat, (200 < w.length ∨ ∃ c ∈ w, ¬ (97 ≤ c ∧ c < 101)) → w.length ≤ 1000 → (∀ c ∈ w, c < 128) → ∀ H', BadW H' (.str (S w)) (.str (S w)) := fun w h1 h2 h3 H' => .str w h1 h2 (okS h3) (shb_str h3 h2)
      walk_at "go"
      try refine rd_qItu (SqT.of ht3) ?_
      refine forT (K := K) [.non, .int 5, .ref a2, .str (S [101]), .str (S (u ++ [101])), .str (S [65]), .str (S aa), .str (S (u ++ [32])), .bl true, .ref t2, .str (S (u ++ bb))] id (fun i σ' H' => ∃ v8, σ' = [some (.ref p), some (.int (1 + (m : Int))), some (vI many), some (.str (S u)), some (.ref sm), v5, v6, v7, v8, none, none] ∧ Src H' p ∧ ExB p H12 H') ⟨_, rfl, S12, ExB.refl _ _⟩ (fun i σ' H' _ ⟨_, _, _, s⟩ => by rw [List.map_id]; exact SqT.of (s _ _ pt3 ht3)) ?_ ?_
      · rintro i y σ' H13 hy ⟨v8, rfl, S13, X13⟩
        obtain ⟨d, mk⟩ : ∃ d, ∀ H', ExB p H12 H' → BadW H' y d := by
          match i, hy with
          | 0, h => cases h; exact ⟨_, fun _ _ => .non⟩
          | 1, h => cases h; exact ⟨_, fun _ _ => .int 5 (shb_of (by decide +kernel))⟩
          | 2, h => cases h; exact ⟨_, fun _ X => .lst (X _ _ pa2 ha2)⟩
          | 3, h => cases h; exact ⟨_, fun _ _ => str _ (.inr ⟨101, by simp, by omega⟩) (by simp) (by simp) _⟩
          | 4, h => cases h; exact ⟨_, fun _ _ => str _ (.inr ⟨101, by simp, by omega⟩) (by simp; omega) (fun c hc => by
              rcases List.mem_append.mp hc with h | h
              · exact hu8 c h
              · rw [List.mem_singleton.mp h]; omega) _⟩
          | 5, h => cases h; exact ⟨_, fun _ _ => str _ (.inr ⟨65, by simp, by omega⟩) (by simp) (by simp) _⟩
          | 6, h => cases h; exact ⟨_, fun _ _ => str _ (.inl (by omega)) (by omega) (fun c hc => by rw [haac c hc]; omega) _⟩
          | 7, h => cases h; exact ⟨_, fun _ _ => str _ (.inr ⟨32, by simp, by omega⟩) (by simp; omega) (fun c hc => by
              rcases List.mem_append.mp hc with h | h
              · exact hu8 c h
              · rw [List.mem_singleton.mp h]; omega) _⟩
          | 8, h => cases h; exact ⟨_, fun _ _ => .tru⟩
          | 9, h => cases h; exact ⟨_, fun _ X => .tup (X _ _ pt2 ht2)⟩
          | 10, h => cases h; exact ⟨_, fun _ _ => str _ (.inl (by rw [List.length_append]; omega)) (by rw [List.length_append]; omega) (fun c hc => by
              rcases List.mem_append.mp hc with h | h
              · exact hu8 c h
              · rw [hbc c h]; omega) _⟩
          | n + 11, h => exact nomatch h
        dsimp only [id]
        walk_at "go"
        intro q nq
        have s14 : Same H13 (L2.upd H13 q (.lst [.int 0, .int 4, .int (-1), .non])) := Same.new nq
        have hq : (L2.upd H13 q (.lst [.int 0, .int 4, .int (-1), .non])) q = some (.lst [.int 0, .int 4, .int (-1), .non]) := upd_same
        have hqp := S13.ne nq
        have S14 := S13.ex s14
        generalize L2.upd H13 q (.lst [.int 0, .int 4, .int (-1), .non]) = H14 at *
        walk_at "go"
        refine ⟨p, q, _, rfl, S14, hq, hqp, by simp, by simp, fun j x H15 hx S15 X15 => ?_⟩
        have X1215 := (X13.trans (ExB.of s14)).trans X15
        have bad := mk _ X1215
        have hs := bad.shb
        walk_at "go"
        refine ⟨y, x, rfl, .inl ⟨d, bad, fun tq H16 s16 htq => ?_⟩⟩
        walk_at "go"
        refine ⟨y, d, rfl, (bad.same s16).dp, hs.sh, hs.nd, hs.dp, hs.sz, ?_⟩
        walk_at "go"
        intro uq nuq
        have s17 : Same H16 (L2.upd H16 uq (.tup [.str (S [119, 111, 114, 100]), .str d.shown])) := Same.new nuq
        refine rd_neD (dTo_dp (s17 _ _ htq) (.str _)) (dTo_dp (what := cWord) upd_same (.str _)) (dToS_sh (by decide +kernel) hs.ok) (dToS_sh (by decide +kernel) hs.ok) ?_
        rw [dToS_eq]
        walk_at "go"
        exact ⟨_, rfl, S15.ex (s16.trans s17), X1215.trans (ExB.of (s16.trans s17))⟩
      · rintro σ' H13 ⟨v8, rfl, S13, X13⟩
        walk_at "go"
        exact k _ S13 (X12.trans X13)
end
end My
namespace My
open PySem PySem.Spec L2 SX LamX Mon
open PyProof.Rows hiding St
local macro_rules | `(tactic| walk_at "kb") => `(tactic| first | exact kb_str_str | exact kb_str_int | exact kb_str_bool | exact kb_str_list | exact kb_str_tuple | exact kb_int_str | exact kb_int_int | exact kb_int_bool | exact kb_int_list | exact kb_int_tuple | exact kb_bool_str | exact kb_bool_int | exact kb_bool_bool | exact kb_bool_list | exact kb_bool_tuple | exact kb_list_str | exact kb_list_int | exact kb_list_bool | exact kb_list_list | exact kb_list_tuple | exact kb_tuple_str | exact kb_tuple_int | exact kb_tuple_bool | exact kb_tuple_list | exact kb_tuple_tuple | exact kb_NoneType_str | exact kb_NoneType_int | exact kb_NoneType_bool | exact kb_NoneType_list | exact kb_NoneType_tuple)
local macro_rules | `(tactic| walk_at "hp") => `(tactic| first | assumption | exact upd_same | (refine (upd_ne (by first | assumption | (apply Ne.symm; assumption))).trans ?_; walk_at "hp"))
local macro_rules | `(tactic| walk_at "sq") => `(tactic| first | assumption | exact SqL.of (by walk_at "hp"))
local macro_rules | `(tactic| walk_at "sqt") => `(tactic| first | assumption | exact SqT.of (by walk_at "hp"))
local macro_rules | `(tactic| walk_at "ar") => `(tactic| first | omega | (dsimp only; omega) | (unfold CMul; omega) | (unfold CDiv; omega) | (unfold CPow; refine ⟨?_, ?_, ?_⟩ <;> decide) | (simp only [List.length_cons, List.length_nil]; decide))
local macro_rules | `(tactic| walk_at "rd") => `(tactic| first
  | with_reducible refine rd_seq ?_
  | with_reducible refine rd_asg ?_
  | with_reducible refine rd_if ?_
  | with_reducible refine rd_ret ?_
  | with_reducible refine rd_drop ?_
  | with_reducible refine rd_name ?_
  | with_reducible refine rd_sub ?_
  | ((with_reducible refine' rd_var ?e ?_); (case e => exact rfl))
  | with_reducible refine rd_c ?_
  | with_reducible refine rd_op ?_
  | with_reducible refine rd_un ?_
  | with_reducible refine rd_I0 ?_
  | ((with_reducible refine' rd_I ?c ?_); (case c => walk_at "ar"))
  | with_reducible refine rd_U ?_
  | with_reducible refine rd_eqI ?_
  | with_reducible refine rd_neI ?_
  | with_reducible refine rd_eqS ?_
  | with_reducible refine rd_neS ?_
  | with_reducible refine rd_eqB ?_
  | with_reducible refine rd_neB ?_
  | with_reducible refine rd_test ?_
  | with_reducible refine rd_B ?_
  | with_reducible refine rd_and ?_
  | with_reducible refine rd_or ?_
  | with_reducible refine rd_not ?_
  | with_reducible refine rd_andV ?_
  | with_reducible refine rd_orV ?_
  | with_reducible refine rd_notV ?_
  | with_reducible refine rd_ifE ?_
  | with_reducible refine rd_isN ?_
  | with_reducible refine rd_notN ?_
  | with_reducible refine rd_cons ?_
  | with_reducible refine rd_nil ?_
  | with_reducible refine rd_lst ?_
  | with_reducible refine rd_tup ?_
  | with_reducible refine rd_CB ?_
  | with_reducible refine rd_call ?_
  | with_reducible refine rd_sl ?_
  | with_reducible refine rd_part ?_
  | with_reducible refine rd_nopart ?_
  | with_reducible refine rd_par ?_
  | with_reducible refine rd_two ?_
  | with_reducible refine rd_next ?_
  | with_reducible refine rd_retN ?_
  | with_reducible refine rd_bool ?_
  | with_reducible refine rd_int ?_
  | with_reducible refine rd_intI ?_
  | with_reducible refine rd_intB ?_
  | with_reducible refine rd_ltS ?_
  | with_reducible refine rd_leS ?_
  | with_reducible refine rd_gtS ?_
  | with_reducible refine rd_geS ?_
  | with_reducible refine rd_inC ?_
  | with_reducible refine rd_notInC ?_
  | with_reducible refine rd_abs ?_
  | with_reducible refine rd_max2 ?_
  | with_reducible refine rd_min2 ?_
  | with_reducible refine rd_M1 ?_
  | with_reducible refine rd_isStr ?_
  | ((with_reducible refine' rd_len ?b ?_); (case b => (simp only [List.length_cons, List.length_nil]; decide)))
  | ((with_reducible refine' rd_listS ?b ?_); (case b => first | (simp only [List.length_take, List.length_cons, List.length_nil]; omega) | omega))
  | ((with_reducible refine' rd_isi ?ty ?h ?_); (case ty => first | exact ty_str | exact ty_int | exact ty_bl | exact ty_non | exact ty_lst (by walk_at "hp") | exact ty_tup (by walk_at "hp")); (case h => walk_at "kb"))
  | with_reducible refine rd_lc ?_
  | with_reducible refine rd_for ?_
  | with_reducible refine rd_iList ?_
  | with_reducible refine rd_iTup ?_
  | with_reducible refine rd_iRng1 ?_
  | with_reducible refine rd_iRng2 ?_
  | with_reducible refine rd_iRng3 ?_
  | with_reducible refine rd_iStr ?_
  | with_reducible refine rd_qIs ?_
  | with_reducible refine rd_whb ?_
  | ((with_reducible refine' rd_qIl ?sq ?_); (case sq => walk_at "sq"))
  | ((with_reducible refine' rd_qItu ?sq ?_); (case sq => walk_at "sqt"))
  | ((with_reducible refine' rd_qIr1 ?b1 ?b2 ?_); (case b1 => walk_at "ar"); (case b2 => walk_at "ar"))
  | ((with_reducible refine' rd_qIr2 ?b1 ?b2 ?b3 ?b4 ?_); (case b1 => walk_at "ar"); (case b2 => walk_at "ar"); (case b3 => walk_at "ar"); (case b4 => walk_at "ar"))
  | ((with_reducible refine' rd_qIr3 ?b1 ?b2 ?b3 ?b4 ?_); (case b1 => walk_at "ar"); (case b2 => walk_at "ar"); (case b3 => walk_at "ar"); (case b4 => walk_at "ar"))
  | ((with_reducible refine' rd_mulS ?b1 ?b2 ?b3 ?_); (case b1 => walk_at "ar"); (case b2 => walk_at "ar"); (case b3 => walk_at "ar"))
  | ((with_reducible refine' rd_slS_to ?b1 ?b2 ?_); (case b1 => walk_at "ar"); (case b2 => walk_at "ar"))
  | ((with_reducible refine' rd_slS_from ?b1 ?b2 ?_); (case b1 => walk_at "ar"); (case b2 => walk_at "ar"))
  | ((with_reducible refine' rd_slS_mid ?b1 ?b2 ?b3 ?b4 ?_); (case b1 => walk_at "ar"); (case b2 => walk_at "ar"); (case b3 => walk_at "ar"); (case b4 => walk_at "ar"))
  | ((with_reducible refine' rd_slL ?sq ?_); (case sq => walk_at "sq"))
  | with_reducible refine rd_true ?_
  | with_reducible refine rd_false ?_
  | with_reducible refine rd_nt ?_
  | with_reducible refine rd_nf ?_
  | ((with_reducible refine' rd_decT ?h ?_); (case h => omega))
  | ((with_reducible refine' rd_decF ?h ?_); (case h => omega))
  | ((with_reducible refine' rd_ndecT ?h ?_); (case h => omega))
  | ((with_reducible refine' rd_ndecF ?h ?_); (case h => omega))
  | ((with_reducible refine' rd_evT ?h ?_); (case h => first | exact rfl | (simp; done)))
  | ((with_reducible refine' rd_evF ?h ?_); (case h => first | exact rfl | (simp; done)))
  | ((with_reducible refine' rd_ixL ?sq ?a1 ?_); (case sq => walk_at "sq"); (case a1 => first | exact rfl | exact at_of (by omega) (by assumption)))
  | ((with_reducible refine' rd_ixT ?sq ?a1 ?_); (case sq => walk_at "sqt"); (case a1 => first | exact rfl | exact at_of (by omega) (by assumption)))
  | ((with_reducible refine' rd_lenL ?sq ?_); (case sq => walk_at "sq"))
  | ((with_reducible refine' rd_lenT ?sq ?_); (case sq => walk_at "sqt"))
  | ((with_reducible refine' rd_setL ?h ?j ?_); (case h => walk_at "hp"); (case j => exact rfl); (with_reducible refine id ?_))
  | ((with_reducible refine' rd_strlen ?l ?_); (case l => walk_at "ar"))
  | ((with_reducible refine' rd_cat ?l ?_); (case l => walk_at "ar")))
local macro_rules | `(tactic| walk_at "go") => `(tactic| ((try dsimp only); (repeat (walk_at "rd"))))
local macro_rules | `(tactic| walk_at "rd") => `(tactic| first
  | with_reducible refine rd_lstRg ?_
  | with_reducible refine rd_tRg1 ?_
  | with_reducible refine rd_tRg2 ?_
  | with_reducible refine rd_rg1 ?_
  | with_reducible refine rd_rg2 ?_
  | ((with_reducible refine' rd_qRg ?b ?_); (case b => refine ⟨?_, ?_, ?_, ?_⟩ <;> omega))
  | with_reducible refine rd_sortSet ?_
  | with_reducible refine rd_tDGet ?_
  | with_reducible refine rd_sDPut ?_
  | with_reducible refine rd_dnew ?_
  | with_reducible refine rd_iZipS ?_
  | with_reducible refine rd_zipS ?_
  | ((with_reducible refine' rd_inI ?sq ?_); (case sq => walk_at "sq"))
  | ((with_reducible refine' rd_notInI ?sq ?_); (case sq => walk_at "sq"))
  | with_reducible refine rd_chain ?_)

local macro_rules | `(tactic| walk_at "rd") => `(tactic| first
  | with_reducible refine rd_fld ?_
  | with_reducible refine rd_par3 ?_
  | with_reducible refine rd_sFld ?_
  | with_reducible refine rd_meth ?_
  | with_reducible refine rd_make ?_
  | with_reducible refine rd_iEnT ?_
  | with_reducible refine rd_iEnL ?_
  | with_reducible refine rd_iZipSL ?_
  | with_reducible refine rd_dIn ?_
  | with_reducible refine rd_dNotIn ?_
  | with_reducible refine rd_tDGet ?_
  | with_reducible refine rd_thenT ?_
  | with_reducible refine rd_sortLam ?_
  | with_reducible refine rd_tupRg ?_
  | with_reducible refine rd_bm ?_
  | ((with_reducible refine' rd_kTupT ?sq ?_); (case sq => walk_at "sqt"))
  | ((with_reducible refine' rd_kTupL ?sq ?_); (case sq => walk_at "sq"))
  | with_reducible refine rd_sDPut ?_
  | ((with_reducible refine' rd_enT ?sq ?_); (case sq => walk_at "sqt"))
  | ((with_reducible refine' rd_enL ?sq ?_); (case sq => walk_at "sq"))
  | ((with_reducible refine' rd_zipSL ?sq ?_); (case sq => walk_at "sq")))

local macro_rules | `(tactic| walk_at "rd") => `(tactic| first
  | with_reducible refine rd_dnewT ?_
  | with_reducible refine rd_iKeys ?_
  | with_reducible refine rd_dget2' ?_
  | with_reducible refine rd_dget1 ?_
  | with_reducible refine rd_dsetdT' ?_
  | with_reducible refine rd_bmD ?_
  | with_reducible refine rd_bmS ?_)

local macro_rules | `(tactic| walk_at "rd") => `(tactic| first
  | with_reducible refine rd_callS ?_
  | with_reducible refine rd_makeS ?_
  | with_reducible refine rd_methS ?_
  | with_reducible refine rd_xf ?_
  | with_reducible refine rd_mkO ?_)

section
variable {P : Program} {w : World} {K : PySem.W.Frag} {mg : Str → Option Value} {base : Heap}
theorem ok_law {f : Addr} {fd : FuncData} (F : Fun K "law" "law" s_law f fd) (T : Txt K mg) (C__law_source : Cal P w K mg base 1 "_law_source" (sp__law_source K)) (C__law_right : CalG P w K mg base 6 "_law_right" (sp__law_right K)) : FnG P w K mg base L2.CX0 7 f fd ["script"] (sp_law K) := by
  refine okG F sc_law (fun vs H Q E h => by repeat (first | (obtain ⟨rfl, _⟩ := h; rfl) | obtain ⟨_, h⟩ := h)) (fun cdv A outer s H vs Q E gd0 hr h => ?_)
  have gd : (A.deeper (envOfC "law" (defScope s_law) s.heap.objs.size f cdv)).guards = some [] := gd0
  refine ⟨_, (pss_cons (ps_for PassesOwn.never rfl (pi_list (pe_slice sl_list (pe_op (op_catK K rfl) (pv 0) (pe_lst (pa_cons pe_int pa_nil))) po_none (po_some pe_int))) (pg_name (i := 1) sc_law.nd rfl (Or.inl rfl))
  (pss_cons (ps_set (i := 2) sc_law.nd rfl (Or.inl rfl) (pe_c C__law_source hr (by decide) rfl (pa_cons (pv 1) pa_nil)))
  (pss_one (ps_for PassesOwn.never rfl (pi_range1 rfl T.n_range (pa_cons pe_int pa_nil)) (pg_name (i := 3) sc_law.nd rfl (Or.inl rfl))
  (pss_one (ps_if (pt_not (pt_val (pe_cG C__law_right gd hr (by decide) rfl (pa_cons (pv 2) pa_nil)))) (pss_one (ps_ret pe_bl)) pss_nil))))))
  (pss_one (ps_ret pe_bl))), ?_⟩
  try dsimp only [cxOf, Cx.nox, Cx.wish]
  obtain ⟨a, ns, rfl, ha, hns, k⟩ := h
  walk_at "go"
  intro p0 np0
  have s0 : Same H (L2.upd H p0 (.lst [.int 0])) := Same.new np0
  refine rd_catK (s0.seq ha) (SqL.of upd_same) (by simp; omega) fun p1 np1 => ?_
  have s1 := s0.trans (Same.new (o := .lst (ns.map V.int ++ [.int 0])) np1)
  have h1 : (L2.upd (L2.upd H p0 (.lst [.int 0])) p1 (.lst (ns.map V.int ++ [.int 0]))) p1 = some (.lst (ns.map V.int ++ [.int 0])) := upd_same
  generalize L2.upd (L2.upd H p0 (.lst [.int 0])) p1 (.lst (ns.map V.int ++ [.int 0])) = H1 at *
  walk_at "go"
  intro p2 np2
  have hcut : cutV (ns.map V.int ++ [.int 0]) none (some 4) = ((ns ++ [0]).take 4).map V.int := by
    rw [cutV_to (by omega), List.map_take, List.map_append]
    rfl
  rw [hcut]
  have s2 := s1.trans (Same.new (o := .lst (((ns ++ [0]).take 4).map V.int)) np2)
  have h2 : (L2.upd H1 p2 (.lst (((ns ++ [0]).take 4).map V.int))) p2 = some (.lst (((ns ++ [0]).take 4).map V.int)) := upd_same
  generalize L2.upd H1 p2 (.lst (((ns ++ [0]).take 4).map V.int)) = H2 at *
  refine rd_qIl (SqL.of h2) ?_
  refine forL (K := K) ((ns ++ [0]).take 4) V.int (fun i σ' H' => ∃ v1 v2 v3, σ' = [some (.ref a), v1, v2, v3] ∧ Same H2 H') ⟨_, _, _, rfl, Same.refl _⟩ (fun i σ' H' _ ⟨_, _, _, _, s⟩ => SqL.of (s _ _ h2)) ?_ ?_
  · rintro i c σ' H3 hc ⟨v1, v2, v3, rfl, s3⟩
    walk_at "go"
    refine ⟨c, rfl, fun src H4 nsrc s4 S4 => ?_⟩
    have nsrc2 := Same.nn s3 nsrc
    walk_at "go"
    refine forR (n := 3) (fun t σ' H' => ∃ v3, σ' = [some (.ref a), some (.int c), some (.ref src), v3] ∧ Same H2 H' ∧ Src H' src) ⟨_, rfl, s3.trans s4, S4⟩ ?_ ?_
    · rintro t σ' H5 ht ⟨v3, rfl, s5, S5⟩
      walk_at "go"
      refine ⟨src, rfl, S5, fun H6 S6 X6 => ?_⟩
      walk_at "go"
      exact ⟨_, rfl, ExB.same s5 nsrc2 X6, S6⟩
    · rintro σ' H5 ⟨v3, rfl, s5, S5⟩
      exact ⟨_, _, _, rfl, s5⟩
  · rintro σ' H3 ⟨v1, v2, v3, rfl, s3⟩
    walk_at "go"
    exact k _
end
end My
namespace My
open PySem PySem.Spec L2 SX LamX Mon
open PyProof.Rows hiding St
theorem all_mk {l : PySem.W.OpenLaw} {w : World} {K : PySem.W.Frag} {h : Heap} {mg : Str → Option Value} {fa : Addr} (X : K.In h) (G : h.Ns mainGlobals mg) (hfa : mg "law" = some (.ref fa))
    {EW : Addr} (axEW : PySem.W.nsIn K mainGlobals "NoWord" = some (some (.ref EW)))
    {EL : Addr} (axEL : PySem.W.nsIn K mainGlobals "NoLength" = some (some (.ref EL)))
    {EB : Addr} (axEB : PySem.W.nsIn K mainGlobals "FoldError" = some (some (.ref EB)))
    (exEB : PySem.W.subIn K (.ref EB) (.type "BaseException") = some true) (txEB : PySem.W.typeIn K (.ref EB) = some (.type "type")) (dxEB : PySem.W.hasDictIn K EB = true)
    {nmEW qnEW : Str} {nnEW : Addr} {bsEW : List Value} {snEW : List Str} {subEW : List Value} {abEW : Bool} {colEW : Option Bool} {ddEW : Option Addr} {m0EW m1EW m2EW m3EW m5EW : Option Value} {f6 : Addr}
    (xLEW : K.lookup EW = some (excClassObj nmEW qnEW EW nnEW bsEW [.ref EB, .type "ValueError", .type "Exception", .type "BaseException", .type "object"] true snEW subEW abEW colEW ddEW m0EW m1EW m2EW m3EW m5EW "ValueError.__new__"))
    (sxEW : PySem.W.findIn K (.ref EW) "__setattr__" = some (some (.builtin "object.__setattr__"))) (gxEW : PySem.W.findIn K (.ref EW) "__getattribute__" = some (some (.builtin "BaseException.__getattribute__"))) (hxEW : PySem.W.findIn K (.ref EW) "__getattr__" = some none)
    (kxEW : PySem.W.keepIn K (.ref EW) = true) (exEW : PySem.W.subIn K (.ref EW) (.type "BaseException") = some true) (txEW : PySem.W.typeIn K (.ref EW) = some (.type "type")) (dxEW : PySem.W.hasDictIn K EW = true) (tixEW : PySem.W.typeIn K (.ref f6) = some (.type "function"))
    (nxEW_word : PySem.W.findIn K (.ref EW) "word" = some none)
    {nmEL qnEL : Str} {nnEL : Addr} {bsEL : List Value} {snEL : List Str} {subEL : List Value} {abEL : Bool} {colEL : Option Bool} {ddEL : Option Addr} {m0EL m1EL m2EL m3EL m5EL : Option Value} {f7 : Addr}
    (xLEL : K.lookup EL = some (excClassObj nmEL qnEL EL nnEL bsEL [.ref EB, .type "ValueError", .type "Exception", .type "BaseException", .type "object"] true snEL subEL abEL colEL ddEL m0EL m1EL m2EL m3EL m5EL "ValueError.__new__"))
    (sxEL : PySem.W.findIn K (.ref EL) "__setattr__" = some (some (.builtin "object.__setattr__"))) (gxEL : PySem.W.findIn K (.ref EL) "__getattribute__" = some (some (.builtin "BaseException.__getattribute__"))) (hxEL : PySem.W.findIn K (.ref EL) "__getattr__" = some none)
    (kxEL : PySem.W.keepIn K (.ref EL) = true) (exEL : PySem.W.subIn K (.ref EL) (.type "BaseException") = some true) (txEL : PySem.W.typeIn K (.ref EL) = some (.type "type")) (dxEL : PySem.W.hasDictIn K EL = true) (tixEL : PySem.W.typeIn K (.ref f7) = some (.type "function"))
    (nxEL_length : PySem.W.findIn K (.ref EL) "length" = some none)
    (xmEW_EW : PySem.W.subIn K (.ref EW) (.ref EW) = some true)
    (xmEW_EL : PySem.W.subIn K (.ref EW) (.ref EL) = some false)
    (xmEW_EB : PySem.W.subIn K (.ref EW) (.ref EB) = some true)
    (xmEL_EW : PySem.W.subIn K (.ref EL) (.ref EW) = some false)
    (xmEL_EL : PySem.W.subIn K (.ref EL) (.ref EL) = some true)
    (xmEL_EB : PySem.W.subIn K (.ref EL) (.ref EB) = some true)
    {f0 : Addr} {od0 an0 : Option Addr} {sl0 : Array (Option Value)} {oc0 kV0 dc0 pm0 ct0 : Value} {cd0 : Value}
    (a0 : PySem.W.nsIn K mainGlobals "is_number" = some (some (.ref f0))) (l0 : K.lookup f0 = some ⟨oc0, od0, .func (PySem.W.fnOf "is_number" "is_number" (defArgs s_is_number) (defBody s_is_number) (defScope s_is_number) .none kV0 dc0 pm0 an0 cd0 ct0), sl0⟩) (c0 : PySem.W.codeIn K cd0 "is_number" = true) (k0 : PySem.W.keepIn K (.ref f0) = true)
    {f1 : Addr} {od1 an1 : Option Addr} {sl1 : Array (Option Value)} {oc1 kV1 dc1 pm1 ct1 : Value} {cd1 : Value}
    (a1 : PySem.W.nsIn K mainGlobals "by_words" = some (some (.ref f1))) (l1 : K.lookup f1 = some ⟨oc1, od1, .func (PySem.W.fnOf "by_words" "by_words" (defArgs s_by_words) (defBody s_by_words) (defScope s_by_words) .none kV1 dc1 pm1 an1 cd1 ct1), sl1⟩) (c1 : PySem.W.codeIn K cd1 "by_words" = true) (k1 : PySem.W.keepIn K (.ref f1) = true)
    {f2 : Addr} {od2 an2 : Option Addr} {sl2 : Array (Option Value)} {oc2 kV2 dc2 pm2 ct2 : Value} {cd2 : Value}
    (a2 : PySem.W.nsIn K mainGlobals "_law_source" = some (some (.ref f2))) (l2 : K.lookup f2 = some ⟨oc2, od2, .func (PySem.W.fnOf "_law_source" "_law_source" (defArgs s__law_source) (defBody s__law_source) (defScope s__law_source) .none kV2 dc2 pm2 an2 cd2 ct2), sl2⟩) (c2 : PySem.W.codeIn K cd2 "_law_source" = true) (k2 : PySem.W.keepIn K (.ref f2) = true)
    {f3 : Addr} {od3 an3 : Option Addr} {sl3 : Array (Option Value)} {oc3 kV3 dc3 pm3 ct3 : Value} {cd3 : Value}
    (a3 : PySem.W.nsIn K mainGlobals "_law_draw" = some (some (.ref f3))) (l3 : K.lookup f3 = some ⟨oc3, od3, .func (PySem.W.fnOf "_law_draw" "_law_draw" (defArgs s__law_draw) (defBody s__law_draw) (defScope s__law_draw) .none kV3 dc3 pm3 an3 cd3 ct3), sl3⟩) (c3 : PySem.W.codeIn K cd3 "_law_draw" = true) (k3 : PySem.W.keepIn K (.ref f3) = true)
    {f4 : Addr} {od4 an4 : Option Addr} {sl4 : Array (Option Value)} {oc4 kV4 dc4 pm4 ct4 : Value} {cd4 : Value}
    (a4 : PySem.W.nsIn K mainGlobals "_law_all_words" = some (some (.ref f4))) (l4 : K.lookup f4 = some ⟨oc4, od4, .func (PySem.W.fnOf "_law_all_words" "_law_all_words" (defArgs s__law_all_words) (defBody s__law_all_words) (defScope s__law_all_words) .none kV4 dc4 pm4 an4 cd4 ct4), sl4⟩) (c4 : PySem.W.codeIn K cd4 "_law_all_words" = true) (k4 : PySem.W.keepIn K (.ref f4) = true)
    {f5 : Addr} {od5 an5 : Option Addr} {sl5 : Array (Option Value)} {oc5 kV5 dc5 pm5 ct5 : Value} {cd5 : Value}
    (a5 : PySem.W.nsIn K mainGlobals "_law_is_part" = some (some (.ref f5))) (l5 : K.lookup f5 = some ⟨oc5, od5, .func (PySem.W.fnOf "_law_is_part" "_law_is_part" (defArgs s__law_is_part) (defBody s__law_is_part) (defScope s__law_is_part) .none kV5 dc5 pm5 an5 cd5 ct5), sl5⟩) (c5 : PySem.W.codeIn K cd5 "_law_is_part" = true) (k5 : PySem.W.keepIn K (.ref f5) = true)
    {od6 an6 : Option Addr} {sl6 : Array (Option Value)} {oc6 kV6 dc6 pm6 ct6 : Value} {cd6 : Value}
    (a6 : PySem.W.findIn K (.ref EW) "__init__" = some (some (.ref f6))) (l6 : K.lookup f6 = some ⟨oc6, od6, .func (PySem.W.fnOf "__init__" "NoWord.__init__" (defArgs s_NoWord_init) (defBody s_NoWord_init) (defScope s_NoWord_init) .none kV6 dc6 pm6 an6 cd6 ct6), sl6⟩) (c6 : PySem.W.codeIn K cd6 "NoWord.__init__" = true) (k6 : PySem.W.keepIn K (.ref f6) = true)
    {od7 an7 : Option Addr} {sl7 : Array (Option Value)} {oc7 kV7 dc7 pm7 ct7 : Value} {cd7 : Value}
    (a7 : PySem.W.findIn K (.ref EL) "__init__" = some (some (.ref f7))) (l7 : K.lookup f7 = some ⟨oc7, od7, .func (PySem.W.fnOf "__init__" "NoLength.__init__" (defArgs s_NoLength_init) (defBody s_NoLength_init) (defScope s_NoLength_init) .none kV7 dc7 pm7 an7 cd7 ct7), sl7⟩) (c7 : PySem.W.codeIn K cd7 "NoLength.__init__" = true) (k7 : PySem.W.keepIn K (.ref f7) = true)
    {f8 : Addr} {od8 an8 : Option Addr} {sl8 : Array (Option Value)} {oc8 kV8 dc8 pm8 ct8 : Value} {cd8 : Value}
    (a8 : PySem.W.nsIn K mainGlobals "_law_pick" = some (some (.ref f8))) (l8 : K.lookup f8 = some ⟨oc8, od8, .func (PySem.W.fnOf "_law_pick" "_law_pick" (defArgs s__law_pick) (defBody s__law_pick) (defScope s__law_pick) .none kV8 dc8 pm8 an8 cd8 ct8), sl8⟩) (c8 : PySem.W.codeIn K cd8 "_law_pick" = true) (k8 : PySem.W.keepIn K (.ref f8) = true)
    {f9 : Addr} {od9 an9 : Option Addr} {sl9 : Array (Option Value)} {oc9 kV9 dc9 pm9 ct9 : Value} {cd9 : Value}
    (a9 : PySem.W.nsIn K mainGlobals "check_word" = some (some (.ref f9))) (l9 : K.lookup f9 = some ⟨oc9, od9, .func (PySem.W.fnOf "check_word" "check_word" (defArgs s_check_word) (defBody s_check_word) (defScope s_check_word) .none kV9 dc9 pm9 an9 cd9 ct9), sl9⟩) (c9 : PySem.W.codeIn K cd9 "check_word" = true) (k9 : PySem.W.keepIn K (.ref f9) = true)
    {f10 : Addr} {od10 an10 : Option Addr} {sl10 : Array (Option Value)} {oc10 kV10 dc10 pm10 ct10 : Value} {cd10 : Value}
    (a10 : PySem.W.nsIn K mainGlobals "signature" = some (some (.ref f10))) (l10 : K.lookup f10 = some ⟨oc10, od10, .func (PySem.W.fnOf "signature" "signature" (defArgs s_signature) (defBody s_signature) (defScope s_signature) .none kV10 dc10 pm10 an10 cd10 ct10), sl10⟩) (c10 : PySem.W.codeIn K cd10 "signature" = true) (k10 : PySem.W.keepIn K (.ref f10) = true)
    {f11 : Addr} {od11 an11 : Option Addr} {sl11 : Array (Option Value)} {oc11 kV11 dc11 pm11 ct11 : Value} {cd11 : Value}
    (a11 : PySem.W.nsIn K mainGlobals "_law_said" = some (some (.ref f11))) (l11 : K.lookup f11 = some ⟨oc11, od11, .func (PySem.W.fnOf "_law_said" "_law_said" (defArgs s__law_said) (defBody s__law_said) (defScope s__law_said) .none kV11 dc11 pm11 an11 cd11 ct11), sl11⟩) (c11 : PySem.W.codeIn K cd11 "_law_said" = true) (k11 : PySem.W.keepIn K (.ref f11) = true)
    {f12 : Addr} {od12 an12 : Option Addr} {sl12 : Array (Option Value)} {oc12 kV12 dc12 pm12 ct12 : Value} {cd12 : Value}
    (a12 : PySem.W.nsIn K mainGlobals "_law_right" = some (some (.ref f12))) (l12 : K.lookup f12 = some ⟨oc12, od12, .func (PySem.W.fnOf "_law_right" "_law_right" (defArgs s__law_right) (defBody s__law_right) (defScope s__law_right) .none kV12 dc12 pm12 an12 cd12 ct12), sl12⟩) (c12 : PySem.W.codeIn K cd12 "_law_right" = true) (k12 : PySem.W.keepIn K (.ref f12) = true)
    {f13 : Addr} {od13 an13 : Option Addr} {sl13 : Array (Option Value)} {oc13 kV13 dc13 pm13 ct13 : Value} {cd13 : Value}
    (a13 : PySem.W.nsIn K mainGlobals "law" = some (some (.ref f13))) (l13 : K.lookup f13 = some ⟨oc13, od13, .func (PySem.W.fnOf "law" "law" (defArgs s_law) (defBody s_law) (defScope s_law) .none kV13 dc13 pm13 an13 cd13 ct13), sl13⟩) (c13 : PySem.W.codeIn K cd13 "law" = true) (k13 : PySem.W.keepIn K (.ref f13) = true)
    (z_int : PySem.W.nsIn K mainGlobals "int" = some none)
    (z_isinstance : PySem.W.nsIn K mainGlobals "isinstance" = some none)
    (z_bool : PySem.W.nsIn K mainGlobals "bool" = some none)
    (z_str : PySem.W.nsIn K mainGlobals "str" = some none)
    (z_len : PySem.W.nsIn K mainGlobals "len" = some none)
    (z_dict : PySem.W.nsIn K mainGlobals "dict" = some none)
    (z_sorted : PySem.W.nsIn K mainGlobals "sorted" = some none)
    (z_abs : PySem.W.nsIn K mainGlobals "abs" = some none)
    (z_range : PySem.W.nsIn K mainGlobals "range" = some none)
    (z_repr : PySem.W.nsIn K mainGlobals "repr" = some none)
    (z_list : PySem.W.nsIn K mainGlobals "list" = some none)
    {u_SIGNS : Value} (q_SIGNS : PySem.W.nsIn K mainGlobals "SIGNS" = some (some u_SIGNS)) (r_SIGNS : RelV (.str (S [97, 98, 99, 100])) u_SIGNS)
    {u_MOST_TESTED : Value} (q_MOST_TESTED : PySem.W.nsIn K mainGlobals "MOST_TESTED" = some (some u_MOST_TESTED)) (r_MOST_TESTED : RelV (.int 200) u_MOST_TESTED)
    {u_MOST_LENGTH : Value} (q_MOST_LENGTH : PySem.W.nsIn K mainGlobals "MOST_LENGTH" = some (some u_MOST_LENGTH)) (r_MOST_LENGTH : RelV (.int 4) u_MOST_LENGTH)
    : ∃ fd : FuncData, (∀ (s : Shared) (v : Value), BindsTo s fd ⟨[v], []⟩ [("script", v)]) ∧ ∀ base : Heap, K.In base → base.Ns mainGlobals mg → FnG l.prog w K mg base CX0 7 fa fd ["script"] (sp_law K) := by
  have e := hfa.symm.trans (PySem.W.mg_of X G a13)
  cases e
  have T : Txt K mg := ⟨PySem.W.mg_none_of X G z_int, PySem.W.mg_none_of X G z_isinstance, PySem.W.mg_none_of X G z_bool, PySem.W.mg_none_of X G z_str, PySem.W.mg_none_of X G z_len, PySem.W.mg_none_of X G z_dict, PySem.W.mg_none_of X G z_sorted, PySem.W.mg_none_of X G z_abs, PySem.W.mg_none_of X G z_range, PySem.W.mg_none_of X G z_repr, PySem.W.mg_none_of X G z_list, ⟨u_SIGNS, PySem.W.mg_of X G q_SIGNS, r_SIGNS⟩, ⟨u_MOST_TESTED, PySem.W.mg_of X G q_MOST_TESTED, r_MOST_TESTED⟩, ⟨u_MOST_LENGTH, PySem.W.mg_of X G q_MOST_LENGTH, r_MOST_LENGTH⟩, ⟨⟨f1, _, "word", "by_words", s_by_words, _, _, _, _, _, _, _, PySem.W.mg_of X G a1, fun_mk (st := s_by_words) l1 c1 k1, rfl, sc_by_words, rfl, by decide, rfl, (fun_mk (st := s_by_words) l1 c1 k1).binds (ps := ["word"]) fun _ _ _ _ _ _ us hl => match us, hl with | [_], _ => rfl⟩⟩⟩
  let z : Zed := { EW := EW, EL := EL, EB := EB }
  have Z : Zok K mg z := ⟨PySem.W.mg_of X G axEW, ⟨⟨_, _, _, _, _, _, _, _, _, _, _, _, _, _, _, xLEW, rfl⟩, sxEW, exEW, txEW, kxEW⟩, ⟨gxEW, hxEW, exEW, dxEW⟩, nxEW_word, PySem.W.mg_of X G axEL, ⟨⟨_, _, _, _, _, _, _, _, _, _, _, _, _, _, _, xLEL, rfl⟩, sxEL, exEL, txEL, kxEL⟩, ⟨gxEL, hxEL, exEL, dxEL⟩, nxEL_length, PySem.W.mg_of X G axEB, PySem.W.exm_ref exEW dxEW txEW xmEW_EW, PySem.W.exm_ref exEL dxEL txEL xmEW_EL, PySem.W.exm_ref exEB dxEB txEB xmEW_EB, PySem.W.exm_ref exEW dxEW txEW xmEL_EW, PySem.W.exm_ref exEL dxEL txEL xmEL_EL, PySem.W.exm_ref exEB dxEB txEB xmEL_EB⟩
  have F0 := fun_mk (st := s_is_number) l0 c0 k0
  have b0 := F0.binds (ps := ["thing"]) fun _ _ _ _ _ _ us hl => match us, hl with | [_], _ => rfl
  have F1 := fun_mk (st := s_by_words) l1 c1 k1
  have b1 := F1.binds (ps := ["word"]) fun _ _ _ _ _ _ us hl => match us, hl with | [_], _ => rfl
  have F2 := fun_mk (st := s__law_source) l2 c2 k2
  have b2 := F2.binds (ps := ["cell"]) fun _ _ _ _ _ _ us hl => match us, hl with | [_], _ => rfl
  have F3 := fun_mk (st := s__law_draw) l3 c3 k3
  have b3 := F3.binds (ps := ["source", "many"]) fun _ _ _ _ _ _ us hl => match us, hl with | [_, _], _ => rfl
  have F4 := fun_mk (st := s__law_all_words) l4 c4 k4
  have b4 := F4.binds (ps := ["letters", "most"]) fun _ _ _ _ _ _ us hl => match us, hl with | [_, _], _ => rfl
  have F5 := fun_mk (st := s__law_is_part) l5 c5 k5
  have b5 := F5.binds (ps := ["one", "word"]) fun _ _ _ _ _ _ us hl => match us, hl with | [_, _], _ => rfl
  have F6 := fun_mk (st := s_NoWord_init) l6 c6 k6
  have b6 := F6.binds (ps := ["self", "word"]) fun _ _ _ _ _ _ us hl => match us, hl with | [_, _], _ => rfl
  have F7 := fun_mk (st := s_NoLength_init) l7 c7 k7
  have b7 := F7.binds (ps := ["self", "length"]) fun _ _ _ _ _ _ us hl => match us, hl with | [_, _], _ => rfl
  have F8 := fun_mk (st := s__law_pick) l8 c8 k8
  have b8 := F8.binds (ps := ["source", "some"]) fun _ _ _ _ _ _ us hl => match us, hl with | [_, _], _ => rfl
  have F9 := fun_mk (st := s_check_word) l9 c9 k9
  have b9 := F9.binds (ps := ["word", "letters", "most"]) fun _ _ _ _ _ _ us hl => match us, hl with | [_, _, _], _ => rfl
  have F10 := fun_mk (st := s_signature) l10 c10 k10
  have b10 := F10.binds (ps := ["word", "length"]) fun _ _ _ _ _ _ us hl => match us, hl with | [_, _], _ => rfl
  have F11 := fun_mk (st := s__law_said) l11 c11 k11
  have b11 := F11.binds (ps := ["word", "length"]) fun _ _ _ _ _ _ us hl => match us, hl with | [_, _], _ => rfl
  have F12 := fun_mk (st := s__law_right) l12 c12 k12
  have b12 := F12.binds (ps := ["source"]) fun _ _ _ _ _ _ us hl => match us, hl with | [_], _ => rfl
  have F13 := fun_mk (st := s_law) l13 c13 k13
  have b13 := F13.binds (ps := ["script"]) fun _ _ _ _ _ _ us hl => match us, hl with | [_], _ => rfl
  refine ⟨PySem.W.fnOf "law" "law" (defArgs s_law) (defBody s_law) (defScope s_law) .none kV13 dc13 pm13 an13 cd13 ct13, fun s v => .of_eq rfl, fun base _ _ => ?_⟩
  have C_is_number : Cal l.prog w K mg base 1 "is_number" (sp_is_number K) := ⟨_, _, _, ok_is_number F0 T, PySem.W.mg_of X G a0, k0, b0⟩
  have C_by_words : Cal l.prog w K mg base 1 "by_words" (sp_by_words K) := ⟨_, _, _, ok_by_words F1 T, PySem.W.mg_of X G a1, k1, b1⟩
  have C__law_source : Cal l.prog w K mg base 1 "_law_source" (sp__law_source K) := ⟨_, _, _, ok__law_source F2 T, PySem.W.mg_of X G a2, k2, b2⟩
  have C__law_draw : Cal l.prog w K mg base 1 "_law_draw" (sp__law_draw K) := ⟨_, _, _, ok__law_draw F3 T, PySem.W.mg_of X G a3, k3, b3⟩
  have C__law_all_words : Cal l.prog w K mg base 1 "_law_all_words" (sp__law_all_words K) := ⟨_, _, _, ok__law_all_words F4 T, PySem.W.mg_of X G a4, k4, b4⟩
  have C__law_is_part : Cal l.prog w K mg base 1 "_law_is_part" (sp__law_is_part K) := ⟨_, _, _, ok__law_is_part F5 T, PySem.W.mg_of X G a5, k5, b5⟩
  have C_NoWord_init : MkE l.prog w K mg base 1 "NoWord" z.EW (spE1 K z.EW "word") := ⟨_, _, _, ⟨⟨_, _, _, _, _, _, _, _, _, _, _, _, _, _, _, xLEW, rfl⟩, sxEW, exEW, txEW, kxEW⟩, a6, tixEW, ok_NoWord_init Z F6 T, PySem.W.mg_of X G axEW, b6⟩
  have C_NoLength_init : MkE l.prog w K mg base 1 "NoLength" z.EL (spE1 K z.EL "length") := ⟨_, _, _, ⟨⟨_, _, _, _, _, _, _, _, _, _, _, _, _, _, _, xLEL, rfl⟩, sxEL, exEL, txEL, kxEL⟩, a7, tixEL, ok_NoLength_init Z F7 T, PySem.W.mg_of X G axEL, b7⟩
  have C__law_pick_i : Cal l.prog w K mg base 2 "_law_pick" (sp__law_pick_i K) := ⟨_, _, _, ok__law_pick_i F8 T C__law_draw, PySem.W.mg_of X G a8, k8, b8⟩
  have C__law_pick_s : Cal l.prog w K mg base 2 "_law_pick" (sp__law_pick_s K) := ⟨_, _, _, ok__law_pick_s F8 T C__law_draw, PySem.W.mg_of X G a8, k8, b8⟩
  have C_check_word : CalX l.prog w K mg base 3 "check_word" (sp_check_word z K) := ⟨_, _, _, ok_check_word Z F9 T C_NoWord_init, PySem.W.mg_of X G a9, k9, b9⟩
  have C_signature : CalX l.prog w K mg base 4 "signature" (sp_signature z K) := ⟨_, _, _, ok_signature Z F10 T C_check_word C_is_number C_NoLength_init C_by_words, PySem.W.mg_of X G a10, k10, b10⟩
  have C__law_said : CalG l.prog w K mg base 5 "_law_said" (sp__law_said z K) := ⟨_, _, _, ok__law_said Z F11 T C_signature, PySem.W.mg_of X G a11, k11, b11⟩
  have C__law_right : CalG l.prog w K mg base 6 "_law_right" (sp__law_right K) := ⟨_, _, _, ok__law_right F12 T C__law_draw C__law_pick_i C__law_pick_s C__law_all_words C__law_is_part C__law_said, PySem.W.mg_of X G a12, k12, b12⟩
  exact ok_law F13 T C__law_source C__law_right
theorem walk {l : PySem.W.OpenLaw} {q : Program} {loose : List Str} {XP : (Str → Option Value) → Heap → Prop} {YP : World → Heap → Prop} {d : DefRec} {K : Params → PySem.W.Frag} (hn : l.most = some 63) (hdf : d.params.defaults = [])
    (hY : ∀ (w : World) (h : Heap), YP w h → (K w.params).In h)
    (F : ∀ (w : World) (mg : Str → Option Value) (fa : Addr) (h : Heap), (K w.params).In h → h.Ns mainGlobals mg → mg d.name = some (.ref fa) →
      ∃ fd : FuncData, (∀ (s : Shared) (u : Value), BindsTo s fd ⟨[u], []⟩ [("script", u)]) ∧ ∀ base : Heap, (K w.params).In base → base.Ns mainGlobals mg → FnG l.prog w (K w.params) mg base CX0 7 fa fd ["script"] (sp_law (K w.params))) :
    PySem.W.WalkO q loose XP YP l.row.toRowW d [] (fun f vs => PySem.call f vs) :=
  My.walk_ofG (n := 63) (k := 7) (x := "script") (sp := sp_law) hn (by decide) hdf ⟨rfl, by decide, by decide⟩ hY F (fun _ _ a ns hl hS => ⟨a, ns, rfl, hS, hl, fun _ => rfl⟩)
end My
open PySem PySem.W PyProof.Rows
set_option maxRecDepth 100000 in
set_option maxHeartbeats 0 in
theorem PySem.Challenge.cw_wordfolds_k78_signatures_of_words_holds : PySem.Challenge.rw_wordfolds_k78_signatures_of_words.Holds := by
  w_on; o_law; k_head; (case hw => w_witness2)
  k_fill
  refine My.walk (l := PySem.Challenge.rw_wordfolds_k78_signatures_of_words) rfl rfl (fun w h Y => PySem.W.kIn_of Y) ?F
  case F =>
    intro w mg fa h KX G hmg
    refine' My.all_mk KX G hmg ?axEW ?axEL ?axEB ?exEB ?txEB ?dxEB ?xLEW ?sxEW ?gxEW ?hxEW ?kxEW ?exEW ?txEW ?dxEW ?tixEW ?nxEW_word ?xLEL ?sxEL ?gxEL ?hxEL ?kxEL ?exEL ?txEL ?dxEL ?tixEL ?nxEL_length ?xmEW_EW ?xmEW_EL ?xmEW_EB ?xmEL_EW ?xmEL_EL ?xmEL_EB ?a0 ?l0 ?c0 ?k0 ?a1 ?l1 ?c1 ?k1 ?a2 ?l2 ?c2 ?k2 ?a3 ?l3 ?c3 ?k3 ?a4 ?l4 ?c4 ?k4 ?a5 ?l5 ?c5 ?k5 ?a6 ?l6 ?c6 ?k6 ?a7 ?l7 ?c7 ?k7 ?a8 ?l8 ?c8 ?k8 ?a9 ?l9 ?c9 ?k9 ?a10 ?l10 ?c10 ?k10 ?a11 ?l11 ?c11 ?k11 ?a12 ?l12 ?c12 ?k12 ?a13 ?l13 ?c13 ?k13 ?z_int ?z_isinstance ?z_bool ?z_str ?z_len ?z_dict ?z_sorted ?z_abs ?z_range ?z_repr ?z_list ?q_SIGNS ?r_SIGNS ?q_MOST_TESTED ?r_MOST_TESTED ?q_MOST_LENGTH ?r_MOST_LENGTH
    (case axEW => k_is)
    (case axEL => k_is)
    (case axEB => k_is)
    (case exEB => k_is)
    (case txEB => k_is)
    (case dxEB => k_is)
    (case xLEW => k_is)
    (case sxEW => k_is)
    (case gxEW => k_is)
    (case hxEW => k_is)
    (case kxEW => k_is)
    (case exEW => k_is)
    (case txEW => k_is)
    (case dxEW => k_is)
    (case nxEW_word => k_is)
    (case xLEL => k_is)
    (case sxEL => k_is)
    (case gxEL => k_is)
    (case hxEL => k_is)
    (case kxEL => k_is)
    (case exEL => k_is)
    (case txEL => k_is)
    (case dxEL => k_is)
    (case nxEL_length => k_is)
    (case xmEW_EW => k_is)
    (case xmEW_EL => k_is)
    (case xmEW_EB => k_is)
    (case xmEL_EW => k_is)
    (case xmEL_EL => k_is)
    (case xmEL_EB => k_is)
    (case a0 => k_is)
    (case l0 => k_is)
    (case c0 => k_is)
    (case k0 => k_is)
    (case a1 => k_is)
    (case l1 => k_is)
    (case c1 => k_is)
    (case k1 => k_is)
    (case a2 => k_is)
    (case l2 => k_is)
    (case c2 => k_is)
    (case k2 => k_is)
    (case a3 => k_is)
    (case l3 => k_is)
    (case c3 => k_is)
    (case k3 => k_is)
    (case a4 => k_is)
    (case l4 => k_is)
    (case c4 => k_is)
    (case k4 => k_is)
    (case a5 => k_is)
    (case l5 => k_is)
    (case c5 => k_is)
    (case k5 => k_is)
    (case a6 => k_is)
    (case l6 => k_is)
    (case c6 => k_is)
    (case k6 => k_is)
    (case a7 => k_is)
    (case l7 => k_is)
    (case c7 => k_is)
    (case k7 => k_is)
    (case a8 => k_is)
    (case l8 => k_is)
    (case c8 => k_is)
    (case k8 => k_is)
    (case a9 => k_is)
    (case l9 => k_is)
    (case c9 => k_is)
    (case k9 => k_is)
    (case a10 => k_is)
    (case l10 => k_is)
    (case c10 => k_is)
    (case k10 => k_is)
    (case a11 => k_is)
    (case l11 => k_is)
    (case c11 => k_is)
    (case k11 => k_is)
    (case a12 => k_is)
    (case l12 => k_is)
    (case c12 => k_is)
    (case k12 => k_is)
    (case a13 => k_is)
    (case l13 => k_is)
    (case c13 => k_is)
    (case k13 => k_is)
    (case z_int => k_is)
    (case z_isinstance => k_is)
    (case z_bool => k_is)
    (case z_str => k_is)
    (case z_len => k_is)
    (case z_dict => k_is)
    (case z_sorted => k_is)
    (case z_abs => k_is)
    (case z_range => k_is)
    (case z_repr => k_is)
    (case z_list => k_is)
    (case q_SIGNS => k_is)
    (case r_SIGNS => exact ⟨_, rfl⟩)
    (case q_MOST_TESTED => k_is)
    (case r_MOST_TESTED => exact ⟨_, rfl⟩)
    (case q_MOST_LENGTH => k_is)
    (case r_MOST_LENGTH => exact ⟨_, rfl⟩)
    (case tixEW => k_is)
    (case tixEL => k_is)
#print axioms PySem.Challenge.cw_wordfolds_k78_signatures_of_words_holds
