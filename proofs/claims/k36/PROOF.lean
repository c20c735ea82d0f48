import PyProof.Rows.All
import Wide.All
import OpenK.AllK
import Wide.FinOn
import HandS.ForMost
import HandS.Codes
import HandS.IsInst
import HandS.SortInts
import HandS.Zip
import HandS.NoneIn
import HandS.Wide
import HandS.Walk
import HandS.Style
import KE.DataMinMax
import KE.SortData
import HandS.ReplaceLit
import HandS.Deep
import PySem.Challenge.RW_wordfolds_k36_whole_words_that_commute_a
set_option Elab.async false
set_option linter.all false
set_option maxRecDepth 100000
set_option maxHeartbeats 4000000
/-! My rules beside the layer's: list(text), text * int, set(list of ints), len(set). -/
namespace My
open PySem PySem.Spec PyProof.Rows L2 SX

theorem sz {n : Nat} (h : n ≤ 100000) : n ≤ sizeLine := Nat.le_trans h (by decide)
theorem szlt {n : Nat} (h : n < 100000) : n < sizeLine := Nat.lt_of_lt_of_le h (by decide)

/-- the one-sign texts of a word -/
def signs (l : List Nat) : List V := l.map fun c => V.str (S [c])

section
variable {X : Cx}
/-- list(text) -/
def rListS : List V → Hp → VK → Prop := fun xs H Q => ∃ l : List Nat, xs = [.str (S l)] ∧ l.length ≤ 100000 ∧ ∀ p, H p = none → Q (.ref p) (upd H p (.lst (signs l)))
theorem vals_items {l : List Nat} : ∀ {acc : Array Value}, ItemsOf (SignAt (S l)) acc l.length → Vals (signs l) acc.toList := by
  intro acc h
  obtain ⟨h1, h2⟩ := h
  have go : ∀ (m : List Nat) (us : List Value), us.length = m.length → (∀ (j : Nat) (v : Value), us[j]? = some v → ∃ (c : Nat) (u : Tok), m[j]? = some c ∧ v = Value.str ⟨#[c]⟩ u) → Vals (signs m) us := by
    intro m
    induction m with
    | nil =>
      intro us hl _
      cases us with
      | nil => exact .nil
      | cons a r => simp at hl
    | cons c m ih =>
      intro us hl hv
      cases us with
      | nil => simp at hl
      | cons a r =>
        obtain ⟨c', u, e1, e2⟩ := hv 0 a rfl
        have e3 : c = c' := Option.some.inj e1
        subst e3
        refine .cons ⟨u, e2⟩ (ih r (by simpa using hl) fun j v e => ?_)
        obtain ⟨c2, u2, e4, e5⟩ := hv (j + 1) v (by simpa using e)
        exact ⟨c2, u2, by simpa using e4, e5⟩
  refine go l acc.toList (by simpa using h1) fun j v e => ?_
  obtain ⟨c, u, e1, e2⟩ := h2 j v (by simpa using e)
  exact ⟨c, u, by simpa using e1, e2⟩
theorem call_listS (hc : X.calm = true) : CallR X (.type "list") rListS := by
  intro pins s σ H xs us Q I r h
  obtain ⟨l, rfl, hl, q⟩ := h
  obtain ⟨u, rfl, rx⟩ := vals1 r
  obtain ⟨t, rfl⟩ := rx
  have hsz : (S l).cps.size = l.length := by simp
  refine call_list_str (I.ok.hd hc) (S l) t (fun h' tk acc c kp e hi => ?_) (by rw [hsz]; exact sz hl)
  rw [hsz] at hi
  have hv := vals_items hi
  refine ⟨.ref s.heap.objs.size, _, I.laid (t' := tk) kp (Nat.le_refl _) (show ObjOk X.prog X.w _ h' _ (.lst (signs l)) from ⟨?_, acc.toList, c, hv, by simpa using e⟩), rfl, q _ (I.hok.fresh (Nat.le_refl _))⟩
  show (l.map _).length ≤ sizeLine
  rw [List.length_map]
  exact sz hl

/-- text * int -/
def repL (l : List Nat) : Nat → List Nat
  | 0 => []
  | n + 1 => l ++ repL l n
theorem repL_len (l : List Nat) : ∀ n, (repL l n).length = n * l.length
  | 0 => by simp [repL]
  | n + 1 => by simp [repL, repL_len l n, Nat.succ_mul, Nat.add_comm]
theorem fold_rep (l : List Nat) : ∀ (n : Nat) (acc : Array Nat), ((List.replicate n l.toArray).foldl (· ++ ·) acc).toList = acc.toList ++ repL l n
  | 0, acc => by simp [repL]
  | n + 1, acc => by
    rw [List.replicate_succ, List.foldl_cons, fold_rep l n]
    simp [repL]
theorem repL_one (l : List Nat) : repL l 1 = l := by simp [repL]
theorem repL_nil : ∀ n, repL [] n = []
  | 0 => rfl
  | n + 1 => by simp [repL, repL_nil n]
theorem mul_S (l : List Nat) (k : Int) : Txt.mul (S l) k = S (repL l k.toNat) := by
  unfold Txt.mul
  by_cases h1 : k < 1
  · rw [if_pos h1]
    have e : k.toNat = 0 := by omega
    rw [e]
    rfl
  · rw [if_neg h1]
    by_cases h2 : (k == 1 || (S l).length == 0) = true
    · rw [if_pos h2]
      rcases (Bool.or_eq_true _ _).mp h2 with h | h
      · have e : k = 1 := by simpa using h
        subst e
        show S l = S (repL l 1)
        rw [repL_one]
      · have e : l = [] := by
          have := S_len l
          simp at h
          rw [this] at h
          exact List.length_eq_zero_iff.mp h
        subst e
        rw [repL_nil]
    · rw [if_neg h2]
      have e := fold_rep l k.toNat #[]
      have e2 : (List.replicate k.toNat l.toArray).foldl (· ++ ·) #[] = (repL l k.toNat).toArray := by
        have e3 := congrArg List.toArray e
        simpa using e3
      exact congrArg (fun z => (⟨z⟩ : Str)) e2
def rMulS : R2 := fun x y H Q => ∃ (l : List Nat) (k : Int), x = .str (S l) ∧ y = .int k ∧ k ≤ 1000 ∧ -1000 ≤ k ∧ l.length ≤ 1000 ∧ Q (.str (S (repL l k.toNat))) H
theorem op_mulS : OpR X (binaryOp .Mult) rMulS := by
  intro pins s σ H x y v u Q I rx ry h
  obtain ⟨l, k, rfl, rfl, hk, hk2, hl, q⟩ := h
  obtain ⟨t, rfl⟩ := rx
  obtain ⟨t', rfl⟩ := ry
  refine SB.mul ⟨?_, fun h1 h2 => ?_, fun h1 h2 => ?_⟩ fun tt kk => ?_
  · have a : ¬ k < -(2 ^ 63 : Int) := by omega
    have b : ¬ k ≥ 2 ^ 63 := by omega
    simp [a, b]
    omega
  · rw [S_len]
    have h3 : (1000 : Int) ≤ (2 ^ 63 - 1) / k := by
      refine (Int.le_ediv_iff_mul_le (by omega)).mpr ?_
      omega
    omega
  · rw [S_len]
    unfold Builtin.Str.tooLong
    have e : l.length * k.toNat ≤ 1000 * 1000 := Nat.mul_le_mul hl (by omega)
    have e2 : (1000 * 1000 : Nat) ≤ sizeLine := by decide
    simp
    omega
  · rw [mul_S]
    exact ⟨.str _, H, I.tok _, ⟨_, rfl⟩, q⟩

/-- set(xs), xs a list of ints -/
def rSetL (K : PySem.W.Frag) : List V → Hp → VK → Prop := fun xs H Q => ∃ (l : Addr) (ns : List Int), xs = [.ref l] ∧ SqL K H l (ns.map V.int) ∧ ns.length ≤ 4000 ∧
  ∀ p, H p = none → Q (.ref p) (upd H p (.set (fun k => (firstMet (fun i => ns.getD i 0) ns.length).any (· == k)) (firstMet (fun i => ns.getD i 0) ns.length).length))
theorem call_setL (hc : X.calm = true) : CallR X (.type "set") (rSetL X.K) := by
  intro pins s σ H xs us Q I r h
  obtain ⟨l, ns, rfl, hq, hl, q⟩ := h
  obtain ⟨u, rfl, rx⟩ := vals1 r
  cases rx
  obtain ⟨its, r, pl, hz⟩ := I.list hq
  have hlen : its.toArray.size = ns.length := by rw [List.size_toArray, ← r.length, List.length_map]
  refine call_set_list (I.ok.hd hc) pl.isList (by simpa using RZ.intsAre_vals r) (by rw [hlen]; unfold scanBound; omega) fun h' tk hS hk => ?_
  rw [hlen] at hS
  exact ⟨.ref s.heap.objs.size, _, I.laid (t' := tk) (fun b o e => hk b o (Heap.lt_size e) e) (Nat.le_refl _) (show ObjOk X.prog X.w _ h' _ (.set _ _) from hS), rfl, q _ (I.hok.fresh (Nat.le_refl _))⟩
def rLenSet : List V → Hp → VK → Prop := fun xs H Q => ∃ (a : Addr) (T : Int → Bool) (n : Nat), xs = [.ref a] ∧ H a = some (.set T n) ∧ n ≤ 100000 ∧ Q (.int n) H
theorem call_lenSet : CallR X (.builtin "len") rLenSet := by
  intro pins s σ H xs us Q I r h
  obtain ⟨a, T, n, rfl, ha, hn, q⟩ := h
  obtain ⟨u, rfl, rx⟩ := vals1 r
  cases rx
  obtain ⟨o, es, ep, t, ho, hex, hd, _, _, _, hf, hn'⟩ := show s.heap.SetOf (intKind X.prog X.w) a T n from I.hok a _ ha
  exact call_len_set ho hex hd hf (by omega) ⟨.int n, H, I.tok _, ⟨_, by rw [hn']⟩, q⟩
end
end My
/-! How a reading is gone through, step by step: each row is one transformer of the layer. -/
namespace My
open PySem PySem.Spec L2 SX
open PyProof.Rows hiding St

/-! ### defs that may be called by name -/
structure Cal (P : Program) (w : World) (K : PySem.W.Frag) (mg : Str → Option Value) (base : Heap) (k : Nat) (x : Str) (sp : Sp) : Prop where
  ex : ∃ (f : Addr) (fd : FuncData) (ps : List Str), FnOk P w K mg base L2.CX0 k f fd ps sp ∧ mg x = some (.ref f) ∧ PySem.W.keepIn K (.ref f) = true ∧ Binds K fd ps []
theorem Cal.mono {P : Program} {w : World} {K : PySem.W.Frag} {mg : Str → Option Value} {base : Heap} {j k : Nat} {x : Str} {sp : Sp} (c : Cal P w K mg base j x sp) (h : j ≤ k) : Cal P w K mg base k x sp := by
  obtain ⟨f, fd, ps, F, a, b, d⟩ := c.ex
  exact ⟨f, fd, ps, F.mono h, a, b, d⟩
section
variable {X : Cx} {k j : Nat} {x : Str} {sp : Sp} {p pos : Pos} {e : Expr} {es : List Expr} {t : TA}
theorem pe_c (c : Cal X.prog X.w X.K X.mg X.base k x sp) (hr : Room j X.A) (hk : k ≤ j) (hg : Gl X x) (ha : PA X (e :: es) t)
    (hdb : (x == ("__debug__" : Str)) = false := by decide) (he : starEach (e :: es) X.env = (false, eval e X.env) :: starEach es X.env := by rfl) (hpl : (backTo pos (starEach es X.env)).any (·.1) = false := by rfl) :
    PE X (.Call (.Name x p) (e :: es) [] pos) (tCall sp [] L2.E0 t) := by
  obtain ⟨f, fd, ps, F, hm, kp, b⟩ := c.ex
  exact pe_call F (hr.mono hk) hg hm kp b .nil L2.pass0 ha hdb he hpl
theorem pe_c0 (c : Cal X.prog X.w X.K X.mg X.base k x sp) (hr : Room j X.A) (hk : k ≤ j) (hg : Gl X x) (hdb : (x == ("__debug__" : Str)) = false := by decide) :
    PE X (.Call (.Name x p) [] [] pos) (tCall sp [] L2.E0 tNil) := by
  obtain ⟨f, fd, ps, F, hm, kp, b⟩ := c.ex
  exact pe_call0 F (hr.mono hk) hg hm kp b .nil L2.pass0 hdb
theorem pe_strS {x : Str} {j} {pos : Pos} (l : List Nat) (h : x = S l) : PE X (.Constant (.str x) j pos) (tC (.str (S l))) := by
  subst h
  exact pe_str
end

/-! ### the layer's rules under names -/
section
variable {X : Cx}
def qLen (K : PySem.W.Frag) : List V → Hp → VK → Prop := fun xs H Q => ∃ p ys, xs = [.ref p] ∧ (SqL K H p ys ∨ SqT K H p ys) ∧ Q (.int (ys.length : Nat)) H
theorem cq_len : CallR X (.builtin "len") (qLen X.K) := call_len_seq
def qLenS : List V → Hp → VK → Prop := fun xs H Q => ∃ l : List Nat, xs = [.str (S l)] ∧ l.length ≤ 100000 ∧ Q (.int (l.length : Nat)) H
theorem cq_lenS : CallR X (.builtin "len") qLenS := fun pins s σ H xs us Q I r ⟨l, e, hl, q⟩ => call_len_str pins s σ H xs us Q I r ⟨S l, e, by rw [S_len]; exact sz hl, by rw [S_len]; exact q⟩
def qInt : List V → Hp → VK → Prop := fun xs H Q => (∃ i, xs = [.int i] ∧ Q (.int i) H) ∨ ∃ k, xs = [.bl k] ∧ Q (.int (if k then 1 else 0)) H
theorem cq_int : CallR X (.type "int") qInt := call_int1
def qAbs : List V → Hp → VK → Prop := fun xs H Q => ∃ i, xs = [.int i] ∧ Q (.int (if i < 0 then -i else i)) H
theorem cq_abs : CallR X (.builtin "abs") qAbs := call_abs
def qMax2 : List V → Hp → VK → Prop := fun xs H Q => ∃ i j, xs = [.int i, .int j] ∧ Q (.int (if j > i then j else i)) H
theorem cq_max2 (hc : X.calm = true) : CallR X (.builtin "max") qMax2 := call_max2 hc
def qMin2 : List V → Hp → VK → Prop := fun xs H Q => ∃ i j, xs = [.int i, .int j] ∧ Q (.int (if j < i then j else i)) H
theorem cq_min2 (hc : X.calm = true) : CallR X (.builtin "min") qMin2 := call_min2 hc
def qAddS : R2 := fun x y H Q => ∃ l m : List Nat, x = .str (S l) ∧ y = .str (S m) ∧ l.length + m.length ≤ 100000 ∧ Q (.str (S (l ++ m))) H
theorem oq_addS : OpR X (binaryOp .Add) qAddS := fun pins s σ H x y v u Q I rx ry ⟨l, m, e1, e2, hl, q⟩ => op_add_str pins s σ H x y v u Q I rx ry ⟨S l, S m, e1, e2, by rw [S_len, S_len]; exact sz hl, by rw [S_cat]; exact q⟩
def qLtS : R2 := fun x y H Q => ∃ l m : List Nat, x = .str (S l) ∧ y = .str (S m) ∧ Q (.bl (decide (l < m))) H
theorem oq_ltS : OpR X (compareOp .Lt) qLtS := fun pins s σ H x y v u Q I rx ry ⟨l, m, e1, e2, q⟩ => op_lt_str pins s σ H x y v u Q I rx ry ⟨S l, S m, e1, e2, q⟩
def qLeS : R2 := fun x y H Q => ∃ l m : List Nat, x = .str (S l) ∧ y = .str (S m) ∧ Q (.bl (!decide (m < l))) H
theorem oq_leS : OpR X (compareOp .LtE) qLeS := fun pins s σ H x y v u Q I rx ry ⟨l, m, e1, e2, q⟩ => op_le_str pins s σ H x y v u Q I rx ry ⟨S l, S m, e1, e2, q⟩
def qGtS : R2 := fun x y H Q => ∃ l m : List Nat, x = .str (S l) ∧ y = .str (S m) ∧ Q (.bl (decide (m < l))) H
theorem oq_gtS : OpR X (compareOp .Gt) qGtS := fun pins s σ H x y v u Q I rx ry ⟨l, m, e1, e2, q⟩ => op_gt_str pins s σ H x y v u Q I rx ry ⟨S l, S m, e1, e2, q⟩
def qGeS : R2 := fun x y H Q => ∃ l m : List Nat, x = .str (S l) ∧ y = .str (S m) ∧ Q (.bl (!decide (l < m))) H
theorem oq_geS : OpR X (compareOp .GtE) qGeS := fun pins s σ H x y v u Q I rx ry ⟨l, m, e1, e2, q⟩ => op_ge_str pins s σ H x y v u Q I rx ry ⟨S l, S m, e1, e2, q⟩
def qInC : R2 := fun x y H Q => ∃ (c : Nat) (l : List Nat), x = .str (S [c]) ∧ y = .str (S l) ∧ Q (.bl (decide (c ∈ l))) H
theorem oq_inC : OpR X (compareOp .In) qInC := fun pins s σ H x y v u Q I rx ry ⟨c, l, e1, e2, q⟩ => op_in_sign pins s σ H x y v u Q I rx ry ⟨c, S l, e1, e2, q⟩
def qNotInC : R2 := fun x y H Q => ∃ (c : Nat) (l : List Nat), x = .str (S [c]) ∧ y = .str (S l) ∧ Q (.bl (!decide (c ∈ l))) H
theorem oq_notInC : OpR X (compareOp .NotIn) qNotInC := fun pins s σ H x y v u Q I rx ry ⟨c, l, e1, e2, q⟩ => op_notIn_sign pins s σ H x y v u Q I rx ry ⟨c, S l, e1, e2, q⟩
def qListOf (K : PySem.W.Frag) : List V → Hp → VK → Prop := fun xs H Q => ∃ p ys, xs = [.ref p] ∧ (SqL K H p ys ∨ SqT K H p ys) ∧ ∀ l, H l = none → Q (.ref l) (upd H l (.lst ys))
theorem cq_listOf : CallR X (.type "list") (qListOf X.K) := call_list_of
/-- "".join(a list of texts) -/
def qJoin (K : PySem.W.Frag) : V → List V → Hp → VK → Prop := fun x xs H Q => ∃ (p : Addr) (ws : List (List Nat)), x = .str (S []) ∧ xs = [.ref p] ∧ SqL K H p (ws.map fun w => V.str (S w)) ∧ ws.flatten.length ≤ 100000 ∧ Q (.str (S ws.flatten)) H
theorem joinL_nil : ∀ ws : List (List Nat), TL.joinL [] ws = ws.flatten
  | [] => rfl
  | [w] => by simp [TL.joinL]
  | w :: v :: ws => by
    have ih := joinL_nil (v :: ws)
    simp only [TL.joinL, ih, List.flatten_cons, List.append_nil, List.nil_append]
theorem oq_join : MtR X "str.join" (qJoin X.K) := by
  intro pins s σ H x xs v us Q I rx rxs h
  obtain ⟨p, ws, rfl, rfl, hq, hl, q⟩ := h
  refine mt_join pins s σ H _ _ v us Q I rx rxs ⟨S [], p, ws.map S, rfl, rfl, .inl ?_, ?_, ?_⟩
  · rw [List.map_map]
    exact hq
  · rw [lens, S_len]
    have e : (ws.map (·.length)).sum = ws.flatten.length := by rw [List.length_flatten]
    have e2 : (ws.map fun x => x.length).sum = ws.flatten.length := e
    rw [e2]
    simp
    simp at hl
    omega
  · rw [join_S, joinL_nil]
    exact q
theorem pe_joinE {o e : Expr} {to te : TE} {apos pos : Pos} (ho : PE X o to) (he : PE X e te) (hs : starEach [e] X.env = [(false, eval e X.env)] := by rfl) (hbase : attributeBase o "join" X.env (eval o X.env) = eval o X.env := by rfl) (hline : (apos.endLine == pos.line) = true := by rfl) :
    PE X (.Call (.Attribute o "join" apos) [e] [] pos) (tM1 (qJoin X.K) to te) :=
  pe_m1 PySem.F.slot_str_join PySem.F.type_str_join oq_join ho he hs hbase hline
end

/-! ### heaps -/
/-- all but what stands at h is kept -/
def ExB (h : Addr) (H H' : Hp) : Prop := ∀ a o, a ≠ h → H a = some o → H' a = some o
theorem ExB.refl (h : Addr) (H : Hp) : ExB h H H := fun _ _ _ e => e
theorem ExB.trans {h : Addr} {H H1 H2 : Hp} (a : ExB h H H1) (b : ExB h H1 H2) : ExB h H H2 := fun c o n e => b c o n (a c o n e)
theorem ExB.of {h : Addr} {H H' : Hp} (e : Same H H') : ExB h H H' := fun a o _ q => e a o q
theorem ExB.upd {h : Addr} {H : Hp} {o : HO} : ExB h H (upd H h o) := fun a u n e => by rw [upd_ne n]; exact e
theorem ExB.new {h p : Addr} {H : Hp} {o : HO} (n : H p = none) : ExB h H (L2.upd H p o) := fun a u _ e => by rw [upd_ne (ne_of_none e n)]; exact e
theorem Same.new {p : Addr} {H : Hp} {o : HO} (n : H p = none) : Same H (L2.upd H p o) := fun a u e => by rw [upd_ne (ne_of_none e n)]; exact e
/-- an object that was not there may change -/
theorem Same.mut {p : Addr} {H H' : Hp} {o : HO} (e : Same H H') (n : H p = none) : Same H (L2.upd H' p o) := fun a u q => by rw [upd_ne (ne_of_none q n)]; exact e a u q
theorem ExB.mut {h p : Addr} {H H' : Hp} {o : HO} (e : ExB h H H') (n : H p = none) : ExB h H (L2.upd H' p o) := fun a u m q => by rw [upd_ne (ne_of_none q n)]; exact e a u m q
theorem Same.seqT {K : PySem.W.Frag} {H H' : Hp} {a : Addr} {xs : List V} (e : Same H H') (h : SqT K H a xs) : SqT K H' a xs := by
  rcases h with (h | ⟨o, h⟩) | h
  · exact .inl (.inl (e _ _ h))
  · exact .inl (.inr ⟨o, e _ _ h⟩)
  · exact .inr h
theorem ExB.seq {h : Addr} {K : PySem.W.Frag} {H H' : Hp} {a : Addr} {xs : List V} (e : ExB h H H') (n : a ≠ h) (q : SqL K H a xs) : SqL K H' a xs := by
  rcases q with (q | ⟨o, q⟩) | q
  · exact .inl (.inl (e _ _ n q))
  · exact .inl (.inr ⟨o, e _ _ n q⟩)
  · exact .inr q

/-! ### the steps -/
section
variable {σ : St} {H : Hp} {Q : VK} {D : Ends} {t u : TS} {te ta tb : TE} {g : TG} {v x y : V} {i j : Int} {K : PySem.W.Frag} {tt tu : TT}
theorem rd_seq (h : t ⟨u D, D.rt, D.bk, D.ct⟩ σ H) : tSeq t u D σ H := h
theorem rd_next {nx : St → Hp → Prop} {rt : VK} {bk ct : St → Hp → Prop} (h : nx σ H) : tNext ⟨nx, rt, bk, ct⟩ σ H := h
theorem rd_asg {nx : St → Hp → Prop} {rt : VK} {bk ct : St → Hp → Prop} (h : te σ H fun x H1 => g x σ H1 nx) : tAsg te g ⟨nx, rt, bk, ct⟩ σ H := h
theorem rd_par {i j : Nat} {ta : TA} {nx : St → Hp → Prop} {rt : VK} {bk ct : St → Hp → Prop} (h : ta σ H fun vs H1 => ∃ v w, vs = [v, w] ∧ nx ((σ.set i (some v)).set j (some w)) H1) : tPar i j ta ⟨nx, rt, bk, ct⟩ σ H := h
theorem rd_if (h : tt σ H fun b H1 => if b = true then t D σ H1 else u D σ H1) : tIfS tt t u D σ H := h
theorem rd_ret {nx : St → Hp → Prop} {rt : VK} {bk ct : St → Hp → Prop} (h : te σ H rt) : tRet te ⟨nx, rt, bk, ct⟩ σ H := h
theorem rd_retN {nx : St → Hp → Prop} {rt : VK} {bk ct : St → Hp → Prop} (h : rt .non H) : tRetN ⟨nx, rt, bk, ct⟩ σ H := h
theorem rd_drop {nx : St → Hp → Prop} {rt : VK} {bk ct : St → Hp → Prop} (h : te σ H fun _ H1 => nx σ H1) : tDrop te ⟨nx, rt, bk, ct⟩ σ H := h
theorem rd_name {i : Nat} {P : St → Hp → Prop} (h : P (σ.set i (some v)) H) : gName i v σ H P := h
theorem rd_sub {to ti : TE} {ts : TSet} {P : St → Hp → Prop} (h : to σ H fun o H1 => ti σ H1 fun i H2 => ts o i v H2 fun H3 => P σ H3) : gSub to ti ts v σ H P := h
theorem rd_var {n : Nat} (e : σ[n]? = some (some v)) (q : Q v H) : tVar n σ H Q := ⟨v, e, q⟩
theorem rd_c (q : Q v H) : tC v σ H Q := q
theorem rd_op {r : R2} (h : ta σ H fun x H1 => tb σ H1 fun y H2 => r x y H2 Q) : tOp r ta tb σ H Q := h
theorem rd_un {r : V → Hp → VK → Prop} (h : ta σ H fun x H1 => r x H1 Q) : tUn r ta σ H Q := h
theorem rd_I0 {g : Int → Int → V} (q : Q (g i j) H) : rI0 g (.int i) (.int j) H Q := ⟨i, j, rfl, rfl, q⟩
theorem rd_I {C : Int → Int → Prop} {g : Int → Int → V} (c : C i j) (q : Q (g i j) H) : rI C g (.int i) (.int j) H Q := ⟨i, j, rfl, rfl, c, q⟩
theorem rd_U {g : Int → V} (q : Q (g i) H) : rU g (.int i) H Q := ⟨i, rfl, q⟩
theorem rd_eq (s : scal x y = true) (q : Q (.bl (decide (x = y))) H) : rEq x y H Q := ⟨s, q⟩
theorem rd_ne (s : scal x y = true) (q : Q (.bl (!decide (x = y))) H) : rNe x y H Q := ⟨s, q⟩
theorem rd_eqI (q : Q (.bl (decide (i = j))) H) : rEq (.int i) (.int j) H Q := ⟨rfl, by
  have e : decide (V.int i = V.int j) = decide (i = j) := by
    by_cases h : i = j
    · subst h; simp
    · rw [decide_eq_false h, decide_eq_false fun z => h (V.int.inj z)]
  rw [e]; exact q⟩
theorem rd_neI (q : Q (.bl (!decide (i = j))) H) : rNe (.int i) (.int j) H Q := ⟨rfl, by
  have e : decide (V.int i = V.int j) = decide (i = j) := by
    by_cases h : i = j
    · subst h; simp
    · rw [decide_eq_false h, decide_eq_false fun z => h (V.int.inj z)]
  rw [e]; exact q⟩
theorem dec_S (a b : List Nat) : decide (V.str (S a) = V.str (S b)) = decide (a = b) := by
  by_cases h : a = b
  · subst h; simp
  · rw [decide_eq_false h, decide_eq_false fun z => h (S_inj (V.str.inj z))]
theorem rd_eqS {a b : List Nat} (q : Q (.bl (decide (a = b))) H) : rEq (.str (S a)) (.str (S b)) H Q := ⟨rfl, by rw [dec_S]; exact q⟩
theorem rd_neS {a b : List Nat} (q : Q (.bl (!decide (a = b))) H) : rNe (.str (S a)) (.str (S b)) H Q := ⟨rfl, by rw [dec_S]; exact q⟩
theorem dec_bl (a b : Bool) : decide (V.bl a = V.bl b) = (a == b) := by cases a <;> cases b <;> rfl
theorem rd_eqB {a b : Bool} (q : Q (.bl (a == b)) H) : rEq (.bl a) (.bl b) H Q := ⟨rfl, by rw [dec_bl]; exact q⟩
theorem rd_neB {a b : Bool} (q : Q (.bl (!(a == b))) H) : rNe (.bl a) (.bl b) H Q := ⟨rfl, by rw [dec_bl]; exact q⟩
theorem rd_test {Q : Bool → Hp → Prop} (h : te σ H fun x H' => ∃ k, x = .bl k ∧ Q k H') : tTest te σ H Q := h
theorem rd_B {Q : Bool → Hp → Prop} (h : te σ H fun x H' => ∃ k, x = .bl k ∧ Q k H') : tB te σ H Q := h
theorem rd_and {Q : Bool → Hp → Prop} (h : tt σ H fun c H1 => if c = true then tu σ H1 Q else Q false H1) : tAnd tt tu σ H Q := h
theorem rd_or {Q : Bool → Hp → Prop} (h : tt σ H fun c H1 => if c = true then Q true H1 else tu σ H1 Q) : tOr tt tu σ H Q := h
theorem rd_not {Q : Bool → Hp → Prop} (h : tt σ H fun c H1 => Q (!c) H1) : tNot tt σ H Q := h
theorem rd_andV (h : ta σ H fun x H1 => ∃ c, x = .bl c ∧ if c = true then tb σ H1 Q else Q (.bl false) H1) : tAndV ta tb σ H Q := h
theorem rd_orV (h : ta σ H fun x H1 => ∃ c, x = .bl c ∧ if c = true then Q (.bl true) H1 else tb σ H1 Q) : tOrV ta tb σ H Q := h
theorem rd_notV (h : ta σ H fun x H1 => ∃ c, x = .bl c ∧ Q (.bl (!c)) H1) : tNotV ta σ H Q := h
theorem rd_ifE (h : tt σ H fun c H1 => if c = true then ta σ H1 Q else tb σ H1 Q) : tIf tt ta tb σ H Q := h
theorem rd_cons {ta : TE} {tr : TA} {Q : List V → Hp → Prop} (h : ta σ H fun x H1 => tr σ H1 fun xs H2 => Q (x :: xs) H2) : tCons ta tr σ H Q := h
theorem rd_nil {Q : List V → Hp → Prop} (h : Q [] H) : tNil σ H Q := h
theorem rd_lst {t : TA} (h : t σ H fun xs H1 => xs.length ≤ sizeLine ∧ ∀ p, H1 p = none → Q (.ref p) (upd H1 p (.lst xs))) : tLst t σ H Q := h
theorem rd_tup {t : TA} (h : t σ H fun xs H1 => xs.length ≤ sizeLine ∧ ∀ p, H1 p = none → Q (.ref p) (upd H1 p (.tup xs))) : tTup t σ H Q := h
theorem rd_len {α : Type} {xs : List α} {A : Prop} (h : xs.length ≤ sizeLine) (q : A) : xs.length ≤ sizeLine ∧ A := ⟨h, q⟩
theorem rd_CB {r : List V → Hp → VK → Prop} {t : TA} (h : t σ H fun vs H1 => r vs H1 Q) : tCB r t σ H Q := h
theorem rd_call {sp : Sp} {E : XK} {t : TA} (h : t σ H fun vs H1 => sp vs H1 Q E) : tCall sp [] E t σ H Q := by
  show t σ H fun vs H1 => sp (vs ++ []) H1 Q E
  have e : (fun (vs : List V) (H1 : Hp) => sp (vs ++ []) H1 Q E) = fun vs H1 => sp vs H1 Q E := by
    funext vs H1
    rw [List.append_nil]
  rw [e]
  exact h
theorem rd_sl {r : V → Option Int → Option Int → Hp → VK → Prop} {tl th : TO} (h : te σ H fun x H1 => tl σ H1 fun l H2 => th σ H2 fun u H3 => r x l u H3 Q) : L2.tSl r te tl th σ H Q := h
theorem rd_part {Q : Option Int → Hp → Prop} (h : te σ H fun x H1 => ∃ i, x = .int i ∧ Q (some i) H1) : tPart te σ H Q := h
theorem rd_nopart {Q : Option Int → Hp → Prop} (h : Q none H) : tNoPart σ H Q := h
theorem rd_isN (h : te σ H fun x H1 => Q (.bl (decide (x = .non))) H1) : tIsN te σ H Q := h
theorem rd_notN (h : te σ H fun x H1 => Q (.bl (!decide (x = .non))) H1) : tNotN te σ H Q := h
theorem rd_bool {b : Bool} {Q : Bool → Prop} (q : Q b) : ∃ k, V.bl b = .bl k ∧ Q k := ⟨b, rfl, q⟩
theorem rd_int {Q : Int → Prop} (q : Q i) : ∃ k, V.int i = .int k ∧ Q k := ⟨i, rfl, q⟩
theorem rd_true {A B : Prop} (h : A) : if true = true then A else B := by rw [if_pos rfl]; exact h
theorem rd_false {A B : Prop} (h : B) : if false = true then A else B := by rw [if_neg Bool.false_ne_true]; exact h
theorem rd_nt {A B : Prop} (h : B) : if (!true) = true then A else B := rd_false h
theorem rd_nf {A B : Prop} (h : A) : if (!false) = true then A else B := rd_true h
theorem rd_decT {p : Prop} [Decidable p] {A B : Prop} (hp : p) (h : A) : if decide p = true then A else B := by rw [decide_eq_true hp, if_pos rfl]; exact h
theorem rd_decF {p : Prop} [Decidable p] {A B : Prop} (hp : ¬ p) (h : B) : if decide p = true then A else B := by rw [decide_eq_false hp, if_neg Bool.false_ne_true]; exact h
theorem rd_ndecT {p : Prop} [Decidable p] {A B : Prop} (hp : ¬ p) (h : A) : if (!decide p) = true then A else B := by rw [decide_eq_false hp]; exact rd_true h
theorem rd_ndecF {p : Prop} [Decidable p] {A B : Prop} (hp : p) (h : B) : if (!decide p) = true then A else B := by rw [decide_eq_true hp]; exact rd_false h
theorem rd_ite {b : Bool} {A B : Prop} (h1 : b = true → A) (h2 : b = false → B) : if b = true then A else B := by
  cases b
  · rw [if_neg Bool.false_ne_true]; exact h2 rfl
  · rw [if_pos rfl]; exact h1 rfl
theorem rd_dec {p : Prop} [Decidable p] {A B : Prop} (h1 : p → A) (h2 : ¬ p → B) : if decide p = true then A else B := by
  by_cases h : p
  · rw [decide_eq_true h, if_pos rfl]; exact h1 h
  · rw [decide_eq_false h, if_neg Bool.false_ne_true]; exact h2 h
theorem rd_ndec {p : Prop} [Decidable p] {A B : Prop} (h1 : ¬ p → A) (h2 : p → B) : if (!decide p) = true then A else B := by
  by_cases h : p
  · rw [decide_eq_true h]; exact rd_false (h2 h)
  · rw [decide_eq_false h]; exact rd_true (h1 h)
theorem rd_strlen {l : List Nat} (hl : l.length ≤ 100000) (q : Q (.int (l.length : Nat)) H) : qLenS [.str (S l)] H Q := ⟨l, rfl, hl, q⟩
theorem rd_cat {l m : List Nat} (hl : l.length + m.length ≤ 100000) (q : Q (.str (S (l ++ m))) H) : qAddS (.str (S l)) (.str (S m)) H Q := ⟨l, m, rfl, rfl, hl, q⟩
theorem rd_ltS {l m : List Nat} (q : Q (.bl (decide (l < m))) H) : qLtS (.str (S l)) (.str (S m)) H Q := ⟨l, m, rfl, rfl, q⟩
theorem rd_leS {l m : List Nat} (q : Q (.bl (!decide (m < l))) H) : qLeS (.str (S l)) (.str (S m)) H Q := ⟨l, m, rfl, rfl, q⟩
theorem rd_gtS {l m : List Nat} (q : Q (.bl (decide (m < l))) H) : qGtS (.str (S l)) (.str (S m)) H Q := ⟨l, m, rfl, rfl, q⟩
theorem rd_geS {l m : List Nat} (q : Q (.bl (!decide (l < m))) H) : qGeS (.str (S l)) (.str (S m)) H Q := ⟨l, m, rfl, rfl, q⟩
theorem rd_inC {c : Nat} {l : List Nat} (q : Q (.bl (decide (c ∈ l))) H) : qInC (.str (S [c])) (.str (S l)) H Q := ⟨c, l, rfl, rfl, q⟩
theorem rd_notInC {c : Nat} {l : List Nat} (q : Q (.bl (!decide (c ∈ l))) H) : qNotInC (.str (S [c])) (.str (S l)) H Q := ⟨c, l, rfl, rfl, q⟩
theorem rd_abs (q : Q (.int (if i < 0 then -i else i)) H) : qAbs [.int i] H Q := ⟨i, rfl, q⟩
theorem rd_max2 (q : Q (.int (if j > i then j else i)) H) : qMax2 [.int i, .int j] H Q := ⟨i, j, rfl, q⟩
theorem rd_min2 (q : Q (.int (if j < i then j else i)) H) : qMin2 [.int i, .int j] H Q := ⟨i, j, rfl, q⟩
theorem rd_listS {l : List Nat} (hl : l.length ≤ 100000) (q : ∀ p, H p = none → Q (.ref p) (upd H p (.lst (signs l)))) : rListS [.str (S l)] H Q := ⟨l, rfl, hl, q⟩
theorem rd_join {p : Addr} {ws : List (List Nat)} (s : SqL K H p (ws.map fun w => V.str (S w))) (hl : ws.flatten.length ≤ 100000) (q : Q (.str (S ws.flatten)) H) : qJoin K (.str (S [])) [.ref p] H Q := ⟨p, ws, rfl, rfl, s, hl, q⟩
theorem rd_joinC {p : Addr} {l : List Nat} (s : SqL K H p (signs l)) (hl : l.length ≤ 100000) (q : Q (.str (S l)) H) : qJoin K (.str (S [])) [.ref p] H Q := by
  have e : ∀ l : List Nat, (l.map fun c => [c]).flatten = l := fun l => by
    induction l with
    | nil => rfl
    | cons a l ih => simp [ih]
  refine ⟨p, l.map fun c => [c], rfl, rfl, ?_, by rw [e]; exact hl, by rw [e]; exact q⟩
  rw [List.map_map]
  exact s
theorem rd_M1 {r : V → List V → Hp → VK → Prop} {to te : TE} (h : to σ H fun x H1 => (∃ a, x = .str a) ∧ te σ H1 fun y H2 => r x [y] H2 Q) : tM1 r to te σ H Q := h
theorem rd_isStr {a : Str} {A : Prop} (h : A) : (∃ b, V.str a = .str b) ∧ A := ⟨⟨a, rfl⟩, h⟩
theorem rd_mulS {l : List Nat} (h1 : -1000 ≤ i) (h2 : i ≤ 1000) (hl : l.length ≤ 1000) (q : Q (.str (S (repL l i.toNat))) H) : rMulS (.str (S l)) (.int i) H Q := ⟨l, i, rfl, rfl, h2, h1, hl, q⟩
theorem rd_ixL {p : Addr} {xs : List V} (s : SqL K H p xs) (a : atI xs i = some v) (q : Q v H) : L2.rIxL K (.ref p) (.int i) H Q := ⟨p, xs, i, v, rfl, rfl, s, a, q⟩
theorem rd_ixT {p : Addr} {xs : List V} (s : SqT K H p xs) (a : atI xs i = some v) (q : Q v H) : L2.rIxT K (.ref p) (.int i) H Q := ⟨p, xs, i, v, rfl, rfl, s, a, q⟩
theorem rd_ixS {l : List Nat} {c : Nat} (hl : l.length ≤ 100000) (a : atI l i = some c) (q : Q (.str (S [c])) H) : L2.rIxS (.str (S l)) (.int i) H Q := ⟨S l, i, c, rfl, rfl, by rw [S_len]; exact sz hl, a, q⟩
theorem rd_lenL {p : Addr} {xs : List V} (s : SqL K H p xs) (q : Q (.int (xs.length : Nat)) H) : qLen K [V.ref p] H Q := ⟨p, xs, rfl, .inl s, q⟩
theorem rd_lenT {p : Addr} {xs : List V} (s : SqT K H p xs) (q : Q (.int (xs.length : Nat)) H) : qLen K [V.ref p] H Q := ⟨p, xs, rfl, .inr s, q⟩
theorem rd_intI (q : Q (.int i) H) : qInt [V.int i] H Q := .inl ⟨i, rfl, q⟩
theorem rd_intB {k : Bool} (q : Q (.int (if k then 1 else 0)) H) : qInt [V.bl k] H Q := .inr ⟨k, rfl, q⟩
theorem rd_setL {p : Addr} {xs : List V} {n : Nat} {R : Hp → Prop} (h : H p = some (.lst xs)) (hj : ixN xs.length i = some n) (q : R (upd H p (.lst (xs.set n v)))) : L2.rSetL (.ref p) (.int i) v H R := ⟨p, xs, i, n, rfl, rfl, h, hj, q⟩
theorem rd_app {l : Addr} {xs : List V} (h : H l = some (.lst xs)) (hl : xs.length < 100000) (q : Q .non (upd H l (.lst (xs ++ [v])))) : rAppend (.ref l) [v] H Q := ⟨l, xs, v, rfl, rfl, h, szlt hl, q⟩
theorem rd_BM {r : V → List V → Hp → VK → Prop} {t : TA} {p : Addr} {ys : List V} {to : TE} (h : to σ H fun x H1 => tyV K "list" x H1 ∧ t σ H1 fun xs H2 => r x xs H2 Q) : tBM K "list" r to t σ H Q := h
theorem tyL {p : Addr} {xs : List V} (h : H p = some (.lst xs)) : tyV K "list" (.ref p) H := .inl ⟨rfl, _, SqL.of h⟩
theorem rd_slL {p : Addr} {xs : List V} {lo hi : Option Int} (s : SqL K H p xs) (q : ∀ p', H p' = none → Q (.ref p') (upd H p' (.lst (cutV xs lo hi)))) : L2.rSlL K (.ref p) lo hi H Q := ⟨p, xs, rfl, s, q⟩
theorem rd_slS_to {l : List Nat} (hl : l.length ≤ 100000) (h0 : 0 ≤ i) (q : Q (.str (S (l.take i.toNat))) H) : C8.rSlX (.str (S l)) none (some i) H Q := ⟨S l, rfl, by rw [S_len]; exact sz hl, by rw [slice_to h0]; exact q⟩
theorem rd_slS_from {l : List Nat} (hl : l.length ≤ 100000) (h0 : 0 ≤ i) (q : Q (.str (S (l.drop i.toNat))) H) : C8.rSlX (.str (S l)) (some i) none H Q := ⟨S l, rfl, by rw [S_len]; exact sz hl, by rw [slice_from h0]; exact q⟩
end
/-- a place in a list by a number that is not negative -/
theorem at_of {α : Type} {xs : List α} {i : Int} {v : α} (h0 : 0 ≤ i) (h : xs[i.toNat]? = some v) : atI xs i = some v := by
  obtain ⟨n, rfl⟩ := Int.eq_ofNat_of_zero_le h0
  exact atI_nat (by simpa using h)
end My
/-! Loops and comprehensions: what is walked, then one lemma each. -/
namespace My
open PySem PySem.Spec L2 SX
open PyProof.Rows hiding St

/-- what a comprehension over J asks -/
def LcG (J : It) (g : TG) (tt : TT) (te : TE) (vs : List Nat) (σ : St) (Q : VK) (H1 : Hp) : Prop := ∀ D, H1 D = none → ∃ W : Nat → Nat → Hp → Prop, (∃ m, W 0 m (upd H1 D (.lst []))) ∧ ∀ i m H, W i m H →
  (J.stop i H ∧ Q (.ref D) H) ∨ (J.go i H ∧ ∃ Nx : Hp → Prop, (∀ H', Nx H' → ∃ m', m' < m ∧ W (i + 1) m' H') ∧ ∀ x H', J.yld i H x H' → g x (wipe σ vs) H' fun σ2 H2 => wipe σ2 vs = wipe σ vs ∧ tt σ2 H2 fun b H3 =>
    if b = true then te σ2 H3 fun y H4 => ∃ acc, H4 D = some (.lst acc) ∧ acc.length < sizeLine ∧ Nx (upd H4 D (.lst (acc ++ [y]))) else Nx H3)
/-- what a for over J asks -/
def ForG (J : It) (g : TG) (tb : TS) (D : Ends) (σ : St) (H1 : Hp) : Prop := ∃ W : Nat → Nat → St → Hp → Prop, (∃ m, W 0 m σ H1) ∧ ∀ i m σ H, W i m σ H →
  (J.stop i H ∧ D.nx σ H) ∨ (J.go i H ∧ ∃ N : St → Hp → Prop, (∀ σ' H', N σ' H' → ∃ m', m' < m ∧ W (i + 1) m' σ' H') ∧ ∀ x H', J.yld i H x H' → g x σ H' fun σ2 H2 => tb { D with nx := N, ct := N, bk := D.nx } σ2 H2)
section
variable {σ : St} {H : Hp} {Q : VK} {D : Ends} {te tl : TE} {ta : TA} {g : TG} {tt : TT} {vs : List Nat} {K : PySem.W.Frag} {wi : TI} {tb : TS} {R : It → Hp → Prop} {i j c : Int}
theorem rd_lc (h : wi σ H fun J H1 => LcG J g tt te vs σ Q H1) : tLc wi g tt te vs σ H Q := h
theorem rd_for (h : wi σ H fun J H1 => ForG J g tb D σ H1) : tFor wi g tb D σ H := h
def qIl (K : PySem.W.Frag) (x : V) (H1 : Hp) (R : It → Hp → Prop) : Prop := ∃ a, x = .ref a ∧ (∃ xs, SqL K H1 a xs) ∧ R (Itl K a) H1
def qItu (K : PySem.W.Frag) (x : V) (H1 : Hp) (R : It → Hp → Prop) : Prop := ∃ a, x = .ref a ∧ (∃ xs, SqT K H1 a xs) ∧ R (Itt K a) H1
def qIr1 (vs : List V) (H1 : Hp) (R : It → Hp → Prop) : Prop := ∃ j : Int, vs = [.int j] ∧ -(2 ^ 62) ≤ j ∧ j < 2 ^ 62 ∧ R (Itr 0 j.toNat) H1
def qIr2 (vs : List V) (H1 : Hp) (R : It → Hp → Prop) : Prop := ∃ i j : Int, vs = [.int i, .int j] ∧ (-(2 ^ 62) ≤ i ∧ i < 2 ^ 62 ∧ -(2 ^ 62) ≤ j ∧ j < 2 ^ 62) ∧ R (Itr i (j - i).toNat) H1
def qIr3 (vs : List V) (H1 : Hp) (R : It → Hp → Prop) : Prop := ∃ (i j c : Int) (n : Nat), vs = [.int i, .int j, .int c] ∧ RgC i j c n ∧ R (Itc i c n) H1
def qIs (v : V) (H1 : Hp) (R : It → Hp → Prop) : Prop := ∃ x, v = .str x ∧ R (Its x) H1
theorem rd_iList (h : tl σ H fun x H1 => qIl K x H1 R) : iList K tl σ H R := h
theorem rd_iTup (h : tl σ H fun x H1 => qItu K x H1 R) : iTup K tl σ H R := h
theorem rd_iRng1 (h : ta σ H fun vs H1 => qIr1 vs H1 R) : iRng1 ta σ H R := h
theorem rd_iRng2 (h : ta σ H fun vs H1 => qIr2 vs H1 R) : iRng2 ta σ H R := h
theorem rd_iRng3 (h : ta σ H fun vs H1 => qIr3 vs H1 R) : iRng3 ta σ H R := h
theorem rd_iStr (h : tl σ H fun v H1 => qIs v H1 R) : iStr tl σ H R := h
theorem rd_qIl {p : Addr} {xs : List V} (s : SqL K H p xs) (q : R (Itl K p) H) : qIl K (.ref p) H R := ⟨p, rfl, ⟨xs, s⟩, q⟩
theorem rd_qItu {p : Addr} {xs : List V} (s : SqT K H p xs) (q : R (Itt K p) H) : qItu K (.ref p) H R := ⟨p, rfl, ⟨xs, s⟩, q⟩
theorem rd_qIr1 (h1 : -100000 ≤ i) (h2 : i ≤ 100000) (q : R (Itr 0 i.toNat) H) : qIr1 [.int i] H R := ⟨i, rfl, by omega, by omega, q⟩
theorem rd_qIr2 (h1 : -100000 ≤ i) (h2 : i ≤ 100000) (h3 : -100000 ≤ j) (h4 : j ≤ 100000) (q : R (Itr i (j - i).toNat) H) : qIr2 [.int i, .int j] H R := ⟨i, j, rfl, by omega, q⟩
theorem rd_qIr3 (h1 : -100000 ≤ i) (h2 : i ≤ 100000) (h3 : -100000 ≤ j) (h4 : j ≤ 100000) (q : R (Itc i (-1) (i - j).toNat) H) : qIr3 [.int i, .int j, .int (-1)] H R := ⟨i, j, -1, _, rfl, RgC.neg (by omega) (by omega) (by omega) (by omega), q⟩
theorem rd_qIs {l : List Nat} (q : R (Its (S l)) H) : qIs (.str (S l)) H R := ⟨S l, rfl, q⟩

/-- a pure test, a pure element -/
def PT0 (tt : TT) (σ : St) (H : Hp) (b : Bool) : Prop := ∀ H1, Same H H1 → ∀ Q : Bool → Hp → Prop, (∀ H2, Same H1 H2 → Q b H2) → tt σ H1 Q
def PE0 (te : TE) (σ : St) (H : Hp) (v : V) : Prop := ∀ H1, Same H H1 → ∀ Q : VK, (∀ H2, Same H1 H2 → Q v H2) → te σ H1 Q
theorem pt_yes : PT0 tYes σ H true := fun H1 _ Q q => q H1 (Same.refl _)

theorem lc_map {α : Type} (ls : List α) (e : α → V) {J : It} {G : Hp → Prop} {Y : Nat → Hp → V → Hp → Prop} (w : Walk J ls.length G Y) (hG : ∀ H', Same H H' → G H')
    (hY : ∀ i H x H', i < ls.length → Y i H x H' → H' = H ∧ ∃ y, ls[i]? = some y ∧ x = e y) {j : Nat} (hn : ls.length ≤ 50000)
    (hw : ∀ x, wipe ((wipe σ vs).set j (some x)) vs = wipe σ vs) (yes : α → Bool) (f : α → V)
    (ht : ∀ y ∈ ls, PT0 tt ((wipe σ vs).set j (some (e y))) H (yes y)) (he : ∀ y ∈ ls, yes y = true → PE0 te ((wipe σ vs).set j (some (e y))) H (f y))
    (q : ∀ D H', H D = none → Same H H' → H' D = some (.lst ((ls.filter yes).map f)) → Q (.ref D) H') : LcG J (gName j) tt te vs σ Q H := by
  intro D hD
  refine lc_it w (fun i H' => Same H H' ∧ H' D = some (.lst (((ls.take i).filter yes).map f))) ⟨Same.new hD, upd_same⟩ (fun i H' _ p => hG H' p.1) ?_ ?_
  · rintro i x H1 H1' hi ⟨s1, hd⟩ yy
    obtain ⟨rfl, y, hy, rfl⟩ := hY i _ _ _ hi yy
    have hm : y ∈ ls := List.mem_of_getElem? hy
    have htk : ls.take (i + 1) = ls.take i ++ [y] := by rw [List.take_succ, hy]; rfl
    refine ⟨hw _, ?_⟩
    refine ht y hm _ s1 _ fun H3 s3 => ?_
    refine rd_ite (fun hb => ?_) (fun hb => ?_)
    · refine he y hm hb _ (s1.trans s3) _ fun H4 s4 => ?_
      refine ⟨_, s4 _ _ (s3 _ _ hd), ?_, Same.mut ((s1.trans s3).trans s4) hD, ?_⟩
      · rw [List.length_map]
        have h1 := List.length_filter_le yes (ls.take i)
        have h2 : (ls.take i).length ≤ ls.length := by rw [List.length_take]; omega
        exact szlt (by omega)
      · rw [upd_same, htk, List.filter_append, List.map_append, List.filter_cons, if_pos hb]
        rfl
    · refine ⟨s1.trans s3, ?_⟩
      rw [htk, List.filter_append, List.map_append, List.filter_cons, if_neg (by rw [hb]; exact Bool.false_ne_true)]
      simp only [List.filter_nil, List.map_nil, List.append_nil]
      exact s3 _ _ hd
  · rintro H1 ⟨s1, hd⟩
    rw [List.take_length] at hd
    exact q D H1 hD s1 hd
theorem filter_yes {α : Type} (l : List α) : l.filter (fun _ => true) = l := List.filter_eq_self.mpr fun _ _ => rfl
/-- over a list -/
theorem lcL {α : Type} (ls : List α) (e : α → V) {p : Addr} (hs : SqL K H p (ls.map e)) {j : Nat} (yes : α → Bool) (f : α → V) (hn : ls.length ≤ 50000)
    (hw : ∀ x, wipe ((wipe σ vs).set j (some x)) vs = wipe σ vs)
    (ht : ∀ y ∈ ls, PT0 tt ((wipe σ vs).set j (some (e y))) H (yes y)) (he : ∀ y ∈ ls, yes y = true → PE0 te ((wipe σ vs).set j (some (e y))) H (f y))
    (q : ∀ D H', H D = none → Same H H' → H' D = some (.lst ((ls.filter yes).map f)) → Q (.ref D) H') : LcG (Itl K p) (gName j) tt te vs σ Q H := by
  have w := walk_list (K := K) (a := p) (xs := ls.map e)
  rw [List.length_map] at w
  refine lc_map ls e w (fun H' s => s.seq hs) (fun i H x H' hi y => ⟨y.1, ?_⟩) hn hw yes f ht he q
  have h2 := y.2
  rw [List.getElem?_map] at h2
  cases h3 : ls[i]? with
  | none => rw [h3] at h2; cases h2
  | some z =>
    rw [h3] at h2
    exact ⟨z, rfl, (Option.some.inj h2).symm⟩
/-- over a range -/
theorem lcR {lo : Int} {n : Nat} {j : Nat} (yes : Nat → Bool) (f : Nat → V) (hn : n ≤ 50000)
    (hw : ∀ x, wipe ((wipe σ vs).set j (some x)) vs = wipe σ vs)
    (ht : ∀ y, y < n → PT0 tt ((wipe σ vs).set j (some (.int (lo + y)))) H (yes y)) (he : ∀ y, y < n → yes y = true → PE0 te ((wipe σ vs).set j (some (.int (lo + y)))) H (f y))
    (q : ∀ D H', H D = none → Same H H' → H' D = some (.lst (((List.range n).filter yes).map f)) → Q (.ref D) H') : LcG (Itr lo n) (gName j) tt te vs σ Q H := by
  have w := walk_range (lo := lo) (n := n)
  refine lc_map (List.range n) (fun y => .int (lo + y)) (by rw [List.length_range]; exact w) (fun _ _ => trivial) (fun i H x H' hi (yy : YFn _ i H x H') => ⟨yy.1, i, ?_, yy.2⟩) (by rw [List.length_range]; exact hn) hw yes f
    (fun y hy => ht y (List.mem_range.mp hy)) (fun y hy => he y (List.mem_range.mp hy)) q
  rw [List.length_range] at hi
  simp [hi]
/-- over a text -/
theorem lcS {l : List Nat} {j : Nat} (yes : Nat → Bool) (f : Nat → V) (hn : l.length ≤ 50000)
    (hw : ∀ x, wipe ((wipe σ vs).set j (some x)) vs = wipe σ vs)
    (ht : ∀ y ∈ l, PT0 tt ((wipe σ vs).set j (some (.str (S [y])))) H (yes y)) (he : ∀ y ∈ l, yes y = true → PE0 te ((wipe σ vs).set j (some (.str (S [y])))) H (f y))
    (q : ∀ D H', H D = none → Same H H' → H' D = some (.lst ((l.filter yes).map f)) → Q (.ref D) H') : LcG (Its (S l)) (gName j) tt te vs σ Q H := by
  have w := walk_str (z := S l)
  have hz : (S l).cps.size = l.length := by simp
  rw [hz] at w
  refine lc_map l (fun y => .str (S [y])) w (fun _ _ => trivial) (fun i H x H' hi y => ⟨y.1, ?_⟩) hn hw yes f ht he q
  obtain ⟨c, h1, h2⟩ := y.2
  exact ⟨c, by simpa using h1, h2⟩

/-- over a range, the element's call may change what stands: acc what is made so far -/
theorem lcR_inv {lo : Int} {n : Nat} {j : Nat} (Pv : Addr → Nat → List V → Hp → Prop) (hn : n ≤ 50000) (hw : ∀ x, wipe ((wipe σ vs).set j (some x)) vs = wipe σ vs)
    (h0 : ∀ D, H D = none → Pv D 0 [] (upd H D (.lst [])))
    (hs : ∀ (D : Addr) (i : Nat) (acc : List V) (H' : Hp) (Q : VK), i < n → H D = none → acc.length = i → Pv D i acc H' → H' D = some (.lst acc) →
      (∀ y H2, H2 D = some (.lst acc) → Pv D (i + 1) (acc ++ [y]) (upd H2 D (.lst (acc ++ [y]))) → Q y H2) → te ((wipe σ vs).set j (some (.int (lo + (i : Nat))))) H' Q)
    (q : ∀ (D : Addr) (acc : List V) (H' : Hp), H D = none → acc.length = n → Pv D n acc H' → H' D = some (.lst acc) → Q (.ref D) H') : LcG (Itr lo n) (gName j) tYes te vs σ Q H := by
  intro D hD
  refine lc_it (walk_range (lo := lo) (n := n)) (fun i H' => ∃ acc : List V, H' D = some (.lst acc) ∧ acc.length = i ∧ Pv D i acc H') ⟨[], upd_same, rfl, h0 D hD⟩ (fun _ _ _ _ => trivial) ?_ ?_
  · rintro i x H1 H1' hi ⟨acc, ha, hl, p⟩ ⟨rfl, rfl⟩
    refine ⟨hw _, ?_⟩
    unfold tYes
    dsimp only
    rw [if_pos rfl]
    refine hs D i acc _ _ hi hD hl p ha fun y H2 h2 p2 => ⟨acc, h2, szlt (by omega), acc ++ [y], upd_same, ?_, p2⟩
    rw [List.length_append, hl]
    rfl
  · rintro H1 ⟨acc, ha, hl, p⟩
    exact q D acc H1 hD hl p ha
theorem cutV_to {xs : List V} {i : Int} (h : 0 ≤ i) : cutV xs none (some i) = xs.take i.toNat := by
  obtain ⟨n, rfl⟩ := Int.eq_ofNat_of_zero_le h
  unfold cutV
  rw [HT.sIx_none, HT.sIx_nat, List.drop_zero, Nat.sub_zero, Int.toNat_natCast]
  rw [Nat.min_def]
  split
  · rfl
  · rw [List.take_of_length_le (Nat.le_refl _), List.take_of_length_le (by omega)]
/-! ### for -/
variable {nx : St → Hp → Prop} {rt : VK} {bk ct : St → Hp → Prop}
theorem for_map {α : Type} (ls : List α) (e : α → V) {J : It} {G : Hp → Prop} {Y : Nat → Hp → V → Hp → Prop} (w : Walk J ls.length G Y)
    (hY : ∀ i H x H', i < ls.length → Y i H x H' → H' = H ∧ ∃ y, ls[i]? = some y ∧ x = e y) {j : Nat} (Pv : Nat → St → Hp → Prop) (h0 : Pv 0 σ H) (hG : ∀ i σ H, i ≤ ls.length → Pv i σ H → G H)
    (hs : ∀ i y σ H, ls[i]? = some y → Pv i σ H → tb ⟨Pv (i + 1), rt, nx, Pv (i + 1)⟩ (σ.set j (some (e y))) H) (hd : ∀ σ H, Pv ls.length σ H → nx σ H) : ForG J (gName j) tb ⟨nx, rt, bk, ct⟩ σ H :=
  for_it w Pv h0 hG (fun i x σ H H' hi p yy => by
    obtain ⟨rfl, y, hy, rfl⟩ := hY i _ _ _ hi yy
    exact hs i y σ _ hy p) hd
theorem forL {α : Type} (ls : List α) (e : α → V) {p : Addr} {j : Nat} (Pv : Nat → St → Hp → Prop) (h0 : Pv 0 σ H) (hG : ∀ i σ H, i ≤ ls.length → Pv i σ H → SqL K H p (ls.map e))
    (hs : ∀ i y σ H, ls[i]? = some y → Pv i σ H → tb ⟨Pv (i + 1), rt, nx, Pv (i + 1)⟩ (σ.set j (some (e y))) H) (hd : ∀ σ H, Pv ls.length σ H → nx σ H) : ForG (Itl K p) (gName j) tb ⟨nx, rt, bk, ct⟩ σ H := by
  have w := walk_list (K := K) (a := p) (xs := ls.map e)
  rw [List.length_map] at w
  refine for_map ls e w (fun i H x H' hi y => ⟨y.1, ?_⟩) Pv h0 hG hs hd
  have h2 := y.2
  rw [List.getElem?_map] at h2
  cases h3 : ls[i]? with
  | none => rw [h3] at h2; cases h2
  | some z =>
    rw [h3] at h2
    exact ⟨z, rfl, (Option.some.inj h2).symm⟩
theorem forR {lo : Int} {n : Nat} {j : Nat} (Pv : Nat → St → Hp → Prop) (h0 : Pv 0 σ H)
    (hs : ∀ i σ H, i < n → Pv i σ H → tb ⟨Pv (i + 1), rt, nx, Pv (i + 1)⟩ (σ.set j (some (.int (lo + (i : Nat))))) H) (hd : ∀ σ H, Pv n σ H → nx σ H) : ForG (Itr lo n) (gName j) tb ⟨nx, rt, bk, ct⟩ σ H :=
  for_it (walk_range (lo := lo) (n := n)) Pv h0 (fun _ _ _ _ _ => trivial) (fun i x σ H H' hi p y => by
    obtain ⟨rfl, rfl⟩ := y
    exact hs i σ _ hi p) hd
theorem forRC {lo c : Int} {n : Nat} {j : Nat} (Pv : Nat → St → Hp → Prop) (h0 : Pv 0 σ H)
    (hs : ∀ i σ H, i < n → Pv i σ H → tb ⟨Pv (i + 1), rt, nx, Pv (i + 1)⟩ (σ.set j (some (.int (lo + (i : Nat) * c)))) H) (hd : ∀ σ H, Pv n σ H → nx σ H) : ForG (Itc lo c n) (gName j) tb ⟨nx, rt, bk, ct⟩ σ H :=
  for_it (walk_rangeC (lo := lo) (n := n)) Pv h0 (fun _ _ _ _ _ => trivial) (fun i x σ H H' hi p y => by
    obtain ⟨rfl, rfl⟩ := y
    exact hs i σ _ hi p) hd
theorem forS {l : List Nat} {j : Nat} (Pv : Nat → St → Hp → Prop) (h0 : Pv 0 σ H)
    (hs : ∀ i y σ H, l[i]? = some y → Pv i σ H → tb ⟨Pv (i + 1), rt, nx, Pv (i + 1)⟩ (σ.set j (some (.str (S [y])))) H) (hd : ∀ σ H, Pv l.length σ H → nx σ H) : ForG (Its (S l)) (gName j) tb ⟨nx, rt, bk, ct⟩ σ H := by
  have w := walk_str (z := S l)
  have hz : (S l).cps.size = l.length := by simp
  rw [hz] at w
  refine for_map l (fun y => .str (S [y])) w (fun i H x H' hi y => ⟨y.1, ?_⟩) Pv h0 (fun _ _ _ _ _ => trivial) hs hd
  obtain ⟨c, h1, h2⟩ := y.2
  exact ⟨c, by simpa using h1, h2⟩
/-- while, by a word with its measure -/
def WhB (W : Nat → St → Hp → Prop) (m : Nat) (tb : TS) (rt : VK) (nx : St → Hp → Prop) (σ : St) (H1 : Hp) : Prop :=
  ∃ N : St → Hp → Prop, (∀ σ' H', N σ' H' → ∃ m', m' < m ∧ W m' σ' H') ∧ tb ⟨N, rt, nx, N⟩ σ H1
theorem rd_while (W : Nat → St → Hp → Prop) (m0 : Nat) (h0 : W m0 σ H)
    (hs : ∀ m σ H, W m σ H → tt σ H fun b H1 => if b = true then WhB W m tb rt nx σ H1 else nx σ H1) : tWhile tt tb ⟨nx, rt, bk, ct⟩ σ H :=
  ⟨W, ⟨m0, h0⟩, hs⟩
theorem rd_whb {W : Nat → St → Hp → Prop} {m : Nat} (h : tb ⟨fun σ' H' => ∃ m', m' < m ∧ W m' σ' H', rt, nx, fun σ' H' => ∃ m', m' < m ∧ W m' σ' H'⟩ σ H) : WhB W m tb rt nx σ H :=
  ⟨_, fun _ _ h => h, h⟩
end
end My
/-! isinstance, deep equality of plain data, sorted. -/
namespace My
open PySem PySem.Spec L2 SX
open PyProof.Rows hiding St
section
variable {H : Hp} {Q : VK} {K : PySem.W.Frag} {x y : V}
theorem rd_isi {a b : String} {r : Bool} (ty : TyX K H x (.type a)) (h : kitB a b = some r) (q : Q (.bl r) H) : rIsi K [x, .ty b] H Q := ⟨x, .ty b, .type a, .type b, r, rfl, .ty b, ty, kit_ty h, q⟩
theorem ty_str {z : Str} : TyX K H (.str z) (.type "str") := .base (.str z)
theorem ty_int {i : Int} : TyX K H (.int i) (.type "int") := .base (.int i)
theorem ty_bl {b : Bool} : TyX K H (.bl b) (.type "bool") := .base (.bl b)
theorem ty_lst {a : Addr} {xs : List V} (h : H a = some (.lst xs)) : TyX K H (.ref a) (.type "list") := .base (.lst h)
theorem ty_tup {a : Addr} {xs : List V} (h : H a = some (.tup xs)) : TyX K H (.ref a) (.type "tuple") := .base (.tup h)
theorem ty_non : TyX K H .non (.type "NoneType") := .base .non

theorem kb_str_str : kitB "str" "str" = some true := by decide +kernel
theorem kb_str_int : kitB "str" "int" = some false := by decide +kernel
theorem kb_str_bool : kitB "str" "bool" = some false := by decide +kernel
theorem kb_str_list : kitB "str" "list" = some false := by decide +kernel
theorem kb_str_tuple : kitB "str" "tuple" = some false := by decide +kernel
theorem kb_int_str : kitB "int" "str" = some false := by decide +kernel
theorem kb_int_int : kitB "int" "int" = some true := by decide +kernel
theorem kb_int_bool : kitB "int" "bool" = some false := by decide +kernel
theorem kb_int_list : kitB "int" "list" = some false := by decide +kernel
theorem kb_int_tuple : kitB "int" "tuple" = some false := by decide +kernel
theorem kb_bool_str : kitB "bool" "str" = some false := by decide +kernel
theorem kb_bool_int : kitB "bool" "int" = some true := by decide +kernel
theorem kb_bool_bool : kitB "bool" "bool" = some true := by decide +kernel
theorem kb_bool_list : kitB "bool" "list" = some false := by decide +kernel
theorem kb_bool_tuple : kitB "bool" "tuple" = some false := by decide +kernel
theorem kb_list_str : kitB "list" "str" = some false := by decide +kernel
theorem kb_list_int : kitB "list" "int" = some false := by decide +kernel
theorem kb_list_bool : kitB "list" "bool" = some false := by decide +kernel
theorem kb_list_list : kitB "list" "list" = some true := by decide +kernel
theorem kb_list_tuple : kitB "list" "tuple" = some false := by decide +kernel
theorem kb_tuple_str : kitB "tuple" "str" = some false := by decide +kernel
theorem kb_tuple_int : kitB "tuple" "int" = some false := by decide +kernel
theorem kb_tuple_bool : kitB "tuple" "bool" = some false := by decide +kernel
theorem kb_tuple_list : kitB "tuple" "list" = some false := by decide +kernel
theorem kb_tuple_tuple : kitB "tuple" "tuple" = some true := by decide +kernel
theorem kb_NoneType_str : kitB "NoneType" "str" = some false := by decide +kernel
theorem kb_NoneType_int : kitB "NoneType" "int" = some false := by decide +kernel
theorem kb_NoneType_bool : kitB "NoneType" "bool" = some false := by decide +kernel
theorem kb_NoneType_list : kitB "NoneType" "list" = some false := by decide +kernel
theorem kb_NoneType_tuple : kitB "NoneType" "tuple" = some false := by decide +kernel
/-! ### data -/
def dI (ns : List Int) : PyData := .list (ns.map PyData.int)
def dS (ws : List (List Nat)) : PyData := .list (ws.map fun w => PyData.str (S w))
def dSI (w : List Nat) (k : Int) : PyData := .tuple [.str (S w), .int k]
theorem canI : ∀ ns : List Int, PyData.canLayAll0 (ns.map PyData.int) = true
  | [] => rfl
  | n :: ns => by
    show (PyData.canLay0 (.int n) && PyData.canLayAll0 (ns.map PyData.int)) = true
    rw [canI ns]; rfl
theorem depI : ∀ ns : List Int, PyData.depthAll (ns.map PyData.int) = 0
  | [] => rfl
  | n :: ns => by
    show max (PyData.depth (.int n)) (PyData.depthAll (ns.map PyData.int)) = 0
    rw [depI ns]; rfl
theorem shI (ns : List Int) : SeqAt.shaped (dI ns) = true := by
  unfold SeqAt.shaped dI
  have h1 : PyData.canLay0 (.list (ns.map PyData.int)) = true := canI ns
  have h2 : PyData.depth (.list (ns.map PyData.int)) = 1 := by show PyData.depthAll _ + 1 = 1; rw [depI]
  rw [h1, h2]; rfl
theorem eqAllI : ∀ ns ms : List Int, PyData.eqvAll (ns.map PyData.int) (ms.map PyData.int) = decide (ns = ms)
  | [], [] => rfl
  | [], _ :: _ => rfl
  | _ :: _, [] => rfl
  | n :: ns, m :: ms => by
    show (PyData.eqv (.int n) (.int m) && PyData.eqvAll (ns.map PyData.int) (ms.map PyData.int)) = _
    rw [eqAllI ns ms]
    have h : PyData.eqv (.int n) (.int m) = decide (n = m) := by simp only [PyData.eqv]; by_cases e : n = m <;> simp [e]
    rw [h]
    by_cases e : n = m <;> by_cases e2 : ns = ms <;> simp [e, e2]
theorem eqI (ns ms : List Int) : PyData.eqv (dI ns) (dI ms) = decide (ns = ms) := by
  show PyData.eqvAll _ _ = _
  exact eqAllI ns ms
theorem dpAllI : ∀ ns : List Int, DpAll K H (ns.map V.int) (ns.map PyData.int)
  | [] => .nil
  | n :: ns => .cons (.int n) (dpAllI ns)
theorem dpI {a : Addr} {ns : List Int} (h : SqL K H a (ns.map V.int)) : Dp K H (.ref a) (dI ns) := .lst h (dpAllI ns)
/-- its code points are code points -/
def OkW (w : List Nat) : Prop := ∀ c ∈ w, c < 1114112
theorem canStr {w : List Nat} (h : OkW w) : PyData.canLay0 (.str (S w)) = true := by
  show PyData.strOk (S w) = true
  unfold PyData.strOk
  rw [← Array.all_toList]
  exact List.all_eq_true.mpr fun c hc => decide_eq_true (h c (by simpa using hc))
theorem canS : ∀ ws : List (List Nat), (∀ w ∈ ws, OkW w) → PyData.canLayAll0 (ws.map fun w => PyData.str (S w)) = true
  | [], _ => rfl
  | w :: ws, h => by
    show (PyData.canLay0 (.str (S w)) && PyData.canLayAll0 (ws.map fun w => PyData.str (S w))) = true
    rw [canS ws fun v hv => h v (List.mem_cons_of_mem _ hv), canStr (h w List.mem_cons_self)]; rfl
theorem depS : ∀ ws : List (List Nat), PyData.depthAll (ws.map fun w => PyData.str (S w)) = 0
  | [] => rfl
  | w :: ws => by
    show max (PyData.depth (.str (S w))) (PyData.depthAll (ws.map fun w => PyData.str (S w))) = 0
    rw [depS ws]; rfl
theorem shS (ws : List (List Nat)) (h : ∀ w ∈ ws, OkW w) : SeqAt.shaped (dS ws) = true := by
  unfold SeqAt.shaped dS
  have h1 : PyData.canLay0 (.list (ws.map fun w => PyData.str (S w))) = true := canS ws h
  have h2 : PyData.depth (.list (ws.map fun w => PyData.str (S w))) = 1 := by show PyData.depthAll _ + 1 = 1; rw [depS]
  rw [h1, h2]; rfl
theorem eqStr (v w : List Nat) : PyData.eqv (.str (S v)) (.str (S w)) = decide (v = w) := by
  simp only [PyData.eqv]
  exact S_beq_eq
theorem eqAllS : ∀ vs ws : List (List Nat), PyData.eqvAll (vs.map fun w => PyData.str (S w)) (ws.map fun w => PyData.str (S w)) = decide (vs = ws)
  | [], [] => rfl
  | [], _ :: _ => rfl
  | _ :: _, [] => rfl
  | v :: vs, w :: ws => by
    show (PyData.eqv (.str (S v)) (.str (S w)) && PyData.eqvAll (vs.map fun w => PyData.str (S w)) (ws.map fun w => PyData.str (S w))) = _
    rw [eqAllS vs ws, eqStr]
    by_cases e : v = w <;> by_cases e2 : vs = ws <;> simp [e, e2]
theorem eqS (vs ws : List (List Nat)) : PyData.eqv (dS vs) (dS ws) = decide (vs = ws) := eqAllS vs ws
theorem dpAllS : ∀ ws : List (List Nat), DpAll K H (ws.map fun w => V.str (S w)) (ws.map fun w => PyData.str (S w))
  | [] => .nil
  | w :: ws => .cons (.str (S w)) (dpAllS ws)
theorem dpS {a : Addr} {ws : List (List Nat)} (h : SqL K H a (ws.map fun w => V.str (S w))) : Dp K H (.ref a) (dS ws) := .lst h (dpAllS ws)
theorem dpSI {a : Addr} {w : List Nat} {k : Int} (h : SqT K H a [.str (S w), .int k]) : Dp K H (.ref a) (dSI w k) := .tup h (.cons (.str _) (.cons (.int _) .nil))
theorem shSI {w : List Nat} {k : Int} (h : OkW w) : SeqAt.shaped (dSI w k) = true := by
  unfold SeqAt.shaped dSI
  have h1 : PyData.canLay0 (.tuple [.str (S w), .int k]) = true := by
    show (PyData.canLay0 (.str (S w)) && (PyData.canLay0 (.int k) && true)) = true
    rw [canStr h]; rfl
  rw [h1]; rfl
theorem eqSI (v w : List Nat) (j k : Int) : PyData.eqv (dSI v j) (dSI w k) = decide (v = w ∧ j = k) := by
  show (PyData.eqv (.str (S v)) (.str (S w)) && (PyData.eqv (.int j) (.int k) && true)) = _
  have h : PyData.eqv (.int j) (.int k) = decide (j = k) := by simp only [PyData.eqv]; by_cases e : j = k <;> simp [e]
  rw [eqStr, h]
  by_cases e : v = w <;> by_cases e2 : j = k <;> simp [e, e2]
theorem rd_eqD {d e : PyData} (hd : Dp K H x d) (he : Dp K H y e) (sd : SeqAt.shaped d = true) (se : SeqAt.shaped e = true) (q : Q (.bl (PyData.eqv d e)) H) : rEqD K x y H Q := ⟨d, e, hd, he, sd, se, q⟩
theorem rd_neD {d e : PyData} (hd : Dp K H x d) (he : Dp K H y e) (sd : SeqAt.shaped d = true) (se : SeqAt.shaped e = true) (q : Q (.bl (!PyData.eqv d e)) H) : rNeD K x y H Q := ⟨d, e, hd, he, sd, se, q⟩
theorem rd_eqLI {p r : Addr} {ns ms : List Int} (h1 : SqL K H p (ns.map V.int)) (h2 : SqL K H r (ms.map V.int)) (q : Q (.bl (decide (ns = ms))) H) : rEqD K (.ref p) (.ref r) H Q := rd_eqD (dpI h1) (dpI h2) (shI _) (shI _) (by rw [eqI]; exact q)
theorem rd_neLI {p r : Addr} {ns ms : List Int} (h1 : SqL K H p (ns.map V.int)) (h2 : SqL K H r (ms.map V.int)) (q : Q (.bl (!decide (ns = ms))) H) : rNeD K (.ref p) (.ref r) H Q := rd_neD (dpI h1) (dpI h2) (shI _) (shI _) (by rw [eqI]; exact q)
theorem rd_eqLS {p r : Addr} {ns ms : List (List Nat)} (h1 : SqL K H p (ns.map fun w => V.str (S w))) (h2 : SqL K H r (ms.map fun w => V.str (S w))) (o1 : ∀ w ∈ ns, OkW w) (o2 : ∀ w ∈ ms, OkW w) (q : Q (.bl (decide (ns = ms))) H) : rEqD K (.ref p) (.ref r) H Q := rd_eqD (dpS h1) (dpS h2) (shS _ o1) (shS _ o2) (by rw [eqS]; exact q)
theorem rd_neLS {p r : Addr} {ns ms : List (List Nat)} (h1 : SqL K H p (ns.map fun w => V.str (S w))) (h2 : SqL K H r (ms.map fun w => V.str (S w))) (o1 : ∀ w ∈ ns, OkW w) (o2 : ∀ w ∈ ms, OkW w) (q : Q (.bl (!decide (ns = ms))) H) : rNeD K (.ref p) (.ref r) H Q := rd_neD (dpS h1) (dpS h2) (shS _ o1) (shS _ o2) (by rw [eqS]; exact q)
theorem rd_eqTSI {p r : Addr} {v w : List Nat} {j k : Int} (h1 : SqT K H p [.str (S v), .int j]) (h2 : SqT K H r [.str (S w), .int k]) (o1 : OkW v) (o2 : OkW w) (q : Q (.bl (decide (v = w ∧ j = k))) H) : rEqD K (.ref p) (.ref r) H Q := rd_eqD (dpSI h1) (dpSI h2) (shSI o1) (shSI o2) (by rw [eqSI]; exact q)
theorem rd_neTSI {p r : Addr} {v w : List Nat} {j k : Int} (h1 : SqT K H p [.str (S v), .int j]) (h2 : SqT K H r [.str (S w), .int k]) (o1 : OkW v) (o2 : OkW w) (q : Q (.bl (!decide (v = w ∧ j = k))) H) : rNeD K (.ref p) (.ref r) H Q := rd_neD (dpSI h1) (dpSI h2) (shSI o1) (shSI o2) (by rw [eqSI]; exact q)
/-- two sorted lists of the same ints are one -/
theorem sorted_one : ∀ {as bs : List Int}, as.Perm bs → as.Pairwise (· ≤ ·) → bs.Pairwise (· ≤ ·) → as = bs
  | [], bs, p, _, _ => (List.nil_perm.mp p).symm
  | a :: as, [], p, _, _ => absurd (List.perm_nil.mp p) (by simp)
  | a :: as, b :: bs, p, h1, h2 => by
    rw [List.pairwise_cons] at h1 h2
    have hab : a = b := by
      have h3 : a ∈ b :: bs := p.subset List.mem_cons_self
      have h4 : b ∈ a :: as := p.symm.subset List.mem_cons_self
      rcases List.mem_cons.mp h3 with h3 | h3
      · exact h3
      · rcases List.mem_cons.mp h4 with h4 | h4
        · exact h4.symm
        · have := h1.1 b h4
          have := h2.1 a h3
          omega
    subst hab
    rw [sorted_one ((List.perm_cons a).mp p) h1.2 h2.2]
theorem rd_sortedI {p : Addr} {ns ms : List Int} (h : SqL K H p (ns.map V.int)) (pm : ms.Perm ns) (srt : ms.Pairwise (· ≤ ·)) (q : ∀ r, H r = none → Q (.ref r) (upd H r (.lst (ms.map V.int)))) : rSortedI K [.ref p] H Q :=
  ⟨p, ns, rfl, h, fun ns' r p2 s2 nr => by
    have e : ns' = ms := sorted_one (p2.trans pm.symm) s2 srt
    rw [e]
    exact q r nr⟩
/-- a new list from two -/
theorem rd_catL {l b : Addr} {xs zs : List V} (h1 : H l = some (.lst xs)) (h2 : H b = some (.lst zs)) (hl : xs.length + zs.length ≤ 100000) (q : ∀ p, H p = none → Q (.ref p) (upd H p (.lst (xs ++ zs)))) : rCat (.ref l) (.ref b) H Q :=
  ⟨l, b, xs, zs, rfl, rfl, h1, h2, sz hl, q⟩
theorem rd_revL {σ : St} {te : TE} (h : te σ H fun x H1 => ∃ a xs, x = .ref a ∧ SqL K H1 a xs ∧ ∀ p, H1 p = none → Q (.ref p) (upd H1 p (.lst xs.reverse))) : tRevL K te σ H Q := h
end
end My
/-! Borders and periods of a word, plain. -/
namespace Per
/-- b is a border's length of the first n signs -/
def Bd (s : Nat → Nat) (n b : Nat) : Prop := b < n ∧ ∀ i, i < b → s i = s (n - b + i)
instance (s : Nat → Nat) (n b : Nat) : Decidable (Bd s n b) := by unfold Bd; exact inferInstance
variable {s : Nat → Nat} {n b c : Nat}
theorem Bd.zero (h : 0 < n) : Bd s n 0 := ⟨h, fun i hi => absurd hi (Nat.not_lt_zero i)⟩
theorem Bd.trans (h : Bd s n b) (k : Bd s b c) : Bd s n c := by
  obtain ⟨h1, h2⟩ := h
  obtain ⟨k1, k2⟩ := k
  refine ⟨by omega, fun i hi => ?_⟩
  rw [k2 i hi, h2 (b - c + i) (by omega)]
  congr 1; omega
theorem Bd.sub (h : Bd s n b) (k : Bd s n c) (l : c < b) : Bd s b c := by
  obtain ⟨h1, h2⟩ := h
  obtain ⟨k1, k2⟩ := k
  refine ⟨l, fun i hi => ?_⟩
  rw [k2 i hi, h2 (b - c + i) (by omega)]
  congr 1; omega
theorem Bd.succ (h : Bd s n b) (e : s b = s n) : Bd s (n + 1) (b + 1) := by
  obtain ⟨h1, h2⟩ := h
  refine ⟨by omega, fun i hi => ?_⟩
  by_cases hb : i < b
  · rw [h2 i hb]; congr 1; omega
  · have : i = b := by omega
    subst this
    rw [e]; congr 1; omega
theorem Bd.pred (h : Bd s (n + 1) (b + 1)) : Bd s n b ∧ s b = s n := by
  obtain ⟨h1, h2⟩ := h
  refine ⟨⟨by omega, fun i hi => ?_⟩, ?_⟩
  · rw [h2 i (by omega)]; congr 1; omega
  · rw [h2 b (by omega)]; congr 1; omega
/-- the greatest border's length up to b -/
def lbs (s : Nat → Nat) (n : Nat) : Nat → Nat
  | 0 => 0
  | b + 1 => if Bd s n (b + 1) then b + 1 else lbs s n b
def lb (s : Nat → Nat) (n : Nat) : Nat := lbs s n (n - 1)
theorem lbs_bd (h : 0 < n) : ∀ b, Bd s n (lbs s n b)
  | 0 => Bd.zero h
  | b + 1 => by
    unfold lbs
    split
    · assumption
    · exact lbs_bd h b
theorem lbs_max : ∀ b c, c ≤ b → Bd s n c → c ≤ lbs s n b
  | 0, c, h, _ => by omega
  | b + 1, c, h, k => by
    unfold lbs
    split
    · exact h
    · rename_i g
      by_cases e : c = b + 1
      · subst e; exact absurd k g
      · exact lbs_max b c (by omega) k
theorem lb_bd (h : 0 < n) : Bd s n (lb s n) := lbs_bd h _
theorem lb_max (k : Bd s n c) : c ≤ lb s n := lbs_max _ _ (by have := k.1; omega) k
theorem lb_lt (h : 0 < n) : lb s n < n := (lb_bd h).1
theorem lb_one : lb s 1 = 0 := rfl
theorem lb_unique (h : 0 < n) (k : Bd s n b) (m : ∀ c, Bd s n c → c ≤ b) : lb s n = b := Nat.le_antisymm (m _ (lb_bd h)) (lb_max k)
theorem lb_next (h : 0 < n) (k : Bd s n b) (m : ∀ c, Bd s n c → b < c → s c ≠ s n) (e : b = 0 ∨ s b = s n) : lb s (n + 1) = b + if s b = s n then 1 else 0 := by
  by_cases q : s b = s n
  · rw [if_pos q]
    refine lb_unique (by omega) (k.succ q) fun c hc => ?_
    cases c with
    | zero => omega
    | succ c =>
      obtain ⟨h1, h2⟩ := hc.pred
      by_cases g : b < c
      · exact absurd h2 (m c h1 g)
      · omega
  · rw [if_neg q]
    have hb : b = 0 := by rcases e with e | e; exact e; exact absurd e q
    subst hb
    refine lb_unique (by omega) (Bd.zero (by omega)) fun c hc => ?_
    cases c with
    | zero => omega
    | succ c =>
      obtain ⟨h1, h2⟩ := hc.pred
      by_cases g : 0 < c
      · exact absurd h2 (m c h1 g)
      · have : c = 0 := by omega
        subst this
        exact absurd h2 q
/-- all border's lengths, ascending -/
def bl (s : Nat → Nat) (n : Nat) : List Nat := (List.range n).filter fun b => decide (Bd s n b)
theorem range_filter_none (n : Nat) (p : Nat → Bool) (h : ∀ b, b < n → p b = false) : (List.range n).filter p = [] := by
  rw [List.filter_eq_nil_iff]
  intro b hb
  rw [h b (List.mem_range.mp hb)]
  exact Bool.false_ne_true
theorem filter_split (a : Nat) (p q : Nat → Bool) : ∀ n, a < n → (∀ b, b < n → p b = (decide (b = a) || q b)) → (∀ b, q b = true → a < b) → (List.range n).filter p = a :: (List.range n).filter q
  | 0, h, _, _ => by omega
  | n + 1, h, h1, h2 => by
    rw [List.range_succ, List.filter_append, List.filter_append]
    by_cases e : a < n
    · rw [filter_split a p q n e (fun b hb => h1 b (by omega)) h2]
      have e2 : p n = q n := by rw [h1 n (by omega)]; simp; omega
      simp [List.filter_cons, e2]
    · have e : a = n := by omega
      subst e
      have e1 : p a = true := by rw [h1 a (by omega)]; simp
      have e2 : q a = false := by
        cases g : q a with
        | false => rfl
        | true => exact absurd (h2 a g) (Nat.lt_irrefl a)
      rw [range_filter_none a p fun b hb => by
        rw [h1 b (by omega)]
        cases g : q b with
        | true => have := h2 b g; omega
        | false => simp; omega]
      rw [range_filter_none a q fun b hb => by
        cases g : q b with
        | true => have := h2 b g; omega
        | false => rfl]
      simp [List.filter_cons, e1, e2]
/-- the borders above h -/
def above (s : Nat → Nat) (n h : Nat) : List Nat := (List.range n).filter fun b => decide (Bd s n b) && decide (h < b)
theorem above_next {h : Nat} (k : Bd s n h) (p : 0 < h) : above s n (lb s h) = h :: above s n h := by
  have hl : lb s h < h := lb_lt p
  refine filter_split h _ _ n k.1 (fun b hb => ?_) fun b hb => ?_
  · by_cases e : b = h
    · subst e; simp [k, hl]
    · by_cases g : Bd s n b
      · simp only [g, decide_true, Bool.true_and, e, decide_false, Bool.false_or]
        by_cases q : h < b
        · simp [q]; omega
        · have : b < h := by omega
          have := lb_max (k.sub g this)
          simp [q]; omega
      · simp [g, e]
  · simp only [Bool.and_eq_true, decide_eq_true_eq] at hb
    exact hb.2
theorem above_zero (h : 0 < n) : bl s n = 0 :: above s n 0 := by
  refine filter_split 0 _ _ n h (fun b hb => ?_) fun b hb => ?_
  · by_cases e : b = 0
    · subst e; simp [Bd.zero h]
    · by_cases g : Bd s n b
      · simp [g]; omega
      · simp [g, e]
  · simp only [Bool.and_eq_true, decide_eq_true_eq] at hb
    exact hb.2
theorem above_lb (h : 0 < n) : above s n (lb s n) = [] := by
  refine range_filter_none n _ fun b hb => ?_
  by_cases g : Bd s n b
  · have := lb_max g
    simp [g]; omega
  · simp [g]
/-- periods, ascending -/
def pl (s : Nat → Nat) (n : Nat) : List Nat := ((bl s n).map fun b => n - b).reverse
theorem mem_bl {b : Nat} : b ∈ bl s n ↔ Bd s n b := by
  unfold bl
  rw [List.mem_filter, List.mem_range, decide_eq_true_eq]
  exact ⟨fun h => h.2, fun h => ⟨h.1, h⟩⟩
theorem bl_sorted : (bl s n).Pairwise (· < ·) := List.Pairwise.filter _ List.pairwise_lt_range
theorem pl_sorted : (pl s n).Pairwise (· < ·) := by
  unfold pl
  rw [List.pairwise_reverse, List.pairwise_map]
  refine List.Pairwise.imp_of_mem (fun {a b} ha hb h => ?_) bl_sorted
  have := (mem_bl.mp hb).1
  omega
theorem pl_head (h : 0 < n) : (pl s n).head? = some (n - lb s n) := by
  unfold pl
  rw [List.head?_reverse, List.getLast?_map]
  have e : (bl s n).getLast? = some (lb s n) := by
    have m : lb s n ∈ bl s n := mem_bl.mpr (lb_bd h)
    obtain ⟨l1, l2, e⟩ := List.append_of_mem m
    have srt := bl_sorted (s := s) (n := n)
    rw [e] at srt
    cases l2 with
    | nil => rw [e]; simp
    | cons y l2 =>
      have hy : y ∈ bl s n := by rw [e]; simp
      have h1 := lb_max (mem_bl.mp hy)
      have h2 := (List.pairwise_append.mp srt).2.1
      rw [List.pairwise_cons] at h2
      have := h2.1 y (by simp)
      omega
  rw [e]
  rfl
end Per
/-! Words and their order, least words (smaller than their own ends), their cuts. Plain. -/
namespace Lyn
variable {s : Nat → Nat} {a b c d e f n p k : Nat}
/-- the sign at a place -/
def sg (l : List Nat) (i : Nat) : Nat := l.getD i 0
theorem sg_cons0 {x : Nat} {l : List Nat} : sg (x :: l) 0 = x := rfl
theorem sg_cons {x i : Nat} {l : List Nat} : sg (x :: l) (i + 1) = sg l i := rfl
/-- the order of lists by places -/
theorem lt_iff : ∀ u v : List Nat, u < v ↔ ((u.length < v.length ∧ ∀ j, j < u.length → sg u j = sg v j) ∨ ∃ i, i < u.length ∧ i < v.length ∧ (∀ j, j < i → sg u j = sg v j) ∧ sg u i < sg v i) := by
  intro u
  induction u with
  | nil =>
    intro v
    cases v with
    | nil => simp
    | cons y v => simp
  | cons x u ih =>
    intro v
    cases v with
    | nil => simp
    | cons y v =>
      rw [List.cons_lt_cons_iff, ih v]
      constructor
      · rintro (h | ⟨rfl, ⟨h1, h2⟩ | ⟨i, h1, h2, h3, h4⟩⟩)
        · exact .inr ⟨0, by simp, by simp, fun j hj => absurd hj (Nat.not_lt_zero j), h⟩
        · refine .inl ⟨by simpa using h1, fun j hj => ?_⟩
          cases j with
          | zero => rfl
          | succ j => exact h2 j (by simpa using hj)
        · refine .inr ⟨i + 1, by simpa using h1, by simpa using h2, fun j hj => ?_, h4⟩
          cases j with
          | zero => rfl
          | succ j => exact h3 j (by omega)
      · rintro (⟨h1, h2⟩ | ⟨i, h1, h2, h3, h4⟩)
        · have e : x = y := h2 0 (by simp)
          exact .inr ⟨e, .inl ⟨by simpa using h1, fun j hj => h2 (j + 1) (by simpa using hj)⟩⟩
        · cases i with
          | zero => exact .inl h4
          | succ i =>
            have e : x = y := h3 0 (by omega)
            exact .inr ⟨e, .inr ⟨i, by simpa using h1, by simpa using h2, fun j hj => h3 (j + 1) (by omega), h4⟩⟩
theorem sg_drop (l : List Nat) (a j : Nat) : sg (l.drop a) j = sg l (a + j) := by unfold sg; simp [List.getD_eq_getElem?_getD]
theorem sg_take (l : List Nat) {a j : Nat} (h : j < a) : sg (l.take a) j = sg l j := by unfold sg; simp [List.getD_eq_getElem?_getD, List.getElem?_take, h]
theorem sg_app1 (l m : List Nat) {j : Nat} (h : j < l.length) : sg (l ++ m) j = sg l j := by unfold sg; simp [List.getD_eq_getElem?_getD, List.getElem?_append_left h]
theorem sg_app2 (l m : List Nat) {j : Nat} (h : l.length ≤ j) : sg (l ++ m) j = sg m (j - l.length) := by unfold sg; simp [List.getD_eq_getElem?_getD, List.getElem?_append_right h]
theorem ext_sg {l m : List Nat} (hl : l.length = m.length) (h : ∀ j, j < l.length → sg l j = sg m j) : l = m := by
  apply List.ext_getElem hl
  intro i h1 h2
  have := h i h1
  unfold sg at this
  simpa [List.getD_eq_getElem?_getD, h1, h2] using this
theorem le_total' (u v : List Nat) (h : ¬ u < v) : v ≤ u := by simpa using h
/-- the part from a to ahead of b -/
def fac (l : List Nat) (a b : Nat) : List Nat := (l.drop a).take (b - a)
theorem fac_len {l : List Nat} (h : b ≤ l.length) : (fac l a b).length = b - a := by unfold fac; simp; omega
theorem fac_sg {l : List Nat} {j : Nat} (h : a + j < b) : sg (fac l a b) j = sg l (a + j) := by
  unfold fac
  rw [sg_take _ (by omega), sg_drop]
/-- [a, b) is smaller than [c, d) -/
theorem fac_lt {l : List Nat} (hb : b ≤ l.length) (hd : d ≤ l.length) : fac l a b < fac l c d ↔ ((b - a < d - c ∧ ∀ j, j < b - a → sg l (a + j) = sg l (c + j)) ∨ ∃ i, a + i < b ∧ c + i < d ∧ (∀ j, j < i → sg l (a + j) = sg l (c + j)) ∧ sg l (a + i) < sg l (c + i)) := by
  rw [lt_iff, fac_len hb, fac_len hd]
  constructor
  · rintro (⟨h1, h2⟩ | ⟨i, h1, h2, h3, h4⟩)
    · refine .inl ⟨h1, fun j hj => ?_⟩
      have := h2 j hj
      rwa [fac_sg (by omega), fac_sg (by omega)] at this
    · refine .inr ⟨i, by omega, by omega, fun j hj => ?_, ?_⟩
      · have := h3 j hj
        rwa [fac_sg (by omega), fac_sg (by omega)] at this
      · rwa [fac_sg (by omega), fac_sg (by omega)] at h4
  · rintro (⟨h1, h2⟩ | ⟨i, h1, h2, h3, h4⟩)
    · refine .inl ⟨h1, fun j hj => ?_⟩
      rw [fac_sg (by omega), fac_sg (by omega)]
      exact h2 j hj
    · refine .inr ⟨i, by omega, by omega, fun j hj => ?_, ?_⟩
      · rw [fac_sg (by omega), fac_sg (by omega)]
        exact h3 j hj
      · rw [fac_sg (by omega), fac_sg (by omega)]
        exact h4
/-- [b, e) is smaller than each of its own ends -/
def Ly (s : Nat → Nat) (b e : Nat) : Prop := b < e ∧ ∀ k, b < k → k < e → ∃ i, k + i < e ∧ (∀ j, j < i → s (b + j) = s (k + j)) ∧ s (b + i) < s (k + i)
theorem Ly.one : Ly s b (b + 1) := ⟨by omega, fun k h1 h2 => by omega⟩
/-- two least words, the first smaller: together a least word -/
theorem Ly.cat (h1 : Ly s b e) (h2 : Ly s e f) (lt : (e - b < f - e ∧ ∀ j, j < e - b → s (b + j) = s (e + j)) ∨ ∃ i, b + i < e ∧ e + i < f ∧ (∀ j, j < i → s (b + j) = s (e + j)) ∧ s (b + i) < s (e + i)) : Ly s b f := by
  have he := h1.1
  have hf := h2.1
  -- the whole is smaller than its part from e
  have key : ∃ i, e + i < f ∧ (∀ j, j < i → s (b + j) = s (e + j)) ∧ s (b + i) < s (e + i) := by
    rcases lt with ⟨l1, l2⟩ | ⟨i, i1, i2, i3, i4⟩
    · obtain ⟨i, i1, i2, i3⟩ := h2.2 (e + (e - b)) (by omega) (by omega)
      refine ⟨e - b + i, by omega, fun j hj => ?_, ?_⟩
      · by_cases g : j < e - b
        · exact l2 j g
        · have := i2 (j - (e - b)) (by omega)
          rw [show e + (j - (e - b)) = b + j by omega, show e + (e - b) + (j - (e - b)) = e + j by omega] at this
          exact this
      · rw [show b + (e - b + i) = e + i by omega, show e + (e - b + i) = e + (e - b) + i by omega]
        exact i3
    · exact ⟨i, i2, i3, i4⟩
  refine ⟨by omega, fun k k1 k2 => ?_⟩
  by_cases g : k < e
  · obtain ⟨i, i1, i2, i3⟩ := h1.2 k k1 g
    exact ⟨i, by omega, i2, i3⟩
  · by_cases g2 : k = e
    · subst g2; exact key
    · obtain ⟨i, i1, i2, i3⟩ := h2.2 k (by omega) k2
      obtain ⟨t, t1, t2, t3⟩ := key
      by_cases c1 : i < t
      · exact ⟨i, i1, fun j hj => (t2 j (by omega)).trans (i2 j hj), by rw [t2 i c1]; exact i3⟩
      · by_cases c2 : i = t
        · subst c2
          exact ⟨i, i1, fun j hj => (t2 j hj).trans (i2 j hj), Nat.lt_trans t3 i3⟩
        · exact ⟨t, by omega, fun j hj => (t2 j hj).trans (i2 j (by omega)), by rw [← i2 t (by omega)]; exact t3⟩
/-- the period p holds from b to n -/
def Pd (s : Nat → Nat) (b p n : Nat) : Prop := ∀ i, b + p ≤ i → i < n → s i = s (i - p)
theorem Pd.mul (h : Pd s b p n) : ∀ q i, b + q * p ≤ i → i < n → s i = s (i - q * p) := by
  intro q
  induction q with
  | zero => intro i _ _; simp
  | succ q ih =>
    intro i h1 h2
    have e : (q + 1) * p = q * p + p := Nat.succ_mul q p
    rw [e] at h1 ⊢
    rw [h i (by omega) h2, ih (i - p) (by omega) (by omega)]
    congr 1
    omega
/-- a greater sign behind the periods: a least word -/
theorem Ly.grow (h : Ly s b (b + p)) (q : Pd s b p n) (hn : b + p ≤ n) (g : s (n - p) < s n) : Ly s b (n + 1) := by
  have hp : 0 < p := by have := h.1; omega
  refine ⟨by omega, fun k k1 k2 => ?_⟩
  obtain ⟨t, r, hr, hk⟩ : ∃ t r, r < p ∧ k = b + t * p + r := ⟨(k - b) / p, (k - b) % p, Nat.mod_lt _ hp, by
    have := Nat.div_add_mod (k - b) p
    rw [Nat.mul_comm] at this
    omega⟩
  by_cases h0 : r = 0
  · subst h0
    have ht : 0 < t := by
      cases t with
      | zero => simp at hk; omega
      | succ t => omega
    refine ⟨n - k, by omega, fun j hj => ?_, ?_⟩
    · have := q.mul t (k + j) (by omega) (by omega)
      rw [this]; congr 1; omega
    · have e1 : k + (n - k) = n := by omega
      have e2 : s (b + (n - k)) = s (n - p) := by
        cases t with
        | zero => omega
        | succ t =>
          have e : (t + 1) * p = t * p + p := Nat.succ_mul t p
          have := q.mul t (n - p) (by omega) (by omega)
          rw [this]; congr 1; omega
      rw [e1, e2]; exact g
  · obtain ⟨i, i1, i2, i3⟩ := h.2 (b + r) (by omega) (by omega)
    have sh : ∀ j, k + j < n → s (k + j) = s (b + r + j) := fun j hj => by
      rw [q.mul t (k + j) (by omega) hj]; congr 1; omega
    by_cases c1 : k + i < n
    · exact ⟨i, by omega, fun j hj => (i2 j hj).trans (sh j (by omega)).symm, by rw [sh i c1]; exact i3⟩
    · have ht : 0 < t := by
        cases t with
        | zero => simp at hk; omega
        | succ t => omega
      refine ⟨n - k, by omega, fun j hj => (i2 j (by omega)).trans (sh j (by omega)).symm, ?_⟩
      have e1 : k + (n - k) = n := by omega
      have e2 : s (b + r + (n - k)) = s (n - p) := by
        cases t with
        | zero => omega
        | succ t =>
          have e : (t + 1) * p = t * p + p := Nat.succ_mul t p
          have := q.mul t (n - p) (by omega) (by omega)
          rw [this]; congr 1; omega
      have e3 : s (b + (n - k)) ≤ s (b + r + (n - k)) := by
        by_cases c2 : n - k < i
        · exact Nat.le_of_eq (i2 _ c2)
        · have : n - k = i := by omega
          rw [this]; exact Nat.le_of_lt i3
      rw [e1]
      omega
/-- [b, e) is the longest least word from b on, ahead of n -/
def Nx (s : Nat → Nat) (n b e : Nat) : Prop := Ly s b e ∧ e ≤ n ∧ ∀ f, e < f → f ≤ n → ¬ Ly s b f
theorem Nx.one_of (h : Nx s n b e) (k : Nx s n b f) : e = f := by
  by_cases c1 : e < f
  · exact absurd k.1 (h.2.2 f c1 k.2.1)
  · by_cases c2 : f < e
    · exact absurd h.1 (k.2.2 e c2 h.2.1)
    · omega
theorem Nx.ex (h : b < n) : ∃ e, Nx s n b e := by
  have key : ∀ m, m ≤ n - b → (∃ e, Nx s n b e) ∨ ∀ f, n - m < f → f ≤ n → ¬ Ly s b f := by
    intro m
    induction m with
    | zero => intro _; exact .inr fun f h1 h2 => by omega
    | succ m ih =>
      intro hm
      rcases ih (by omega) with h1 | h1
      · exact .inl h1
      · by_cases g : Ly s b (n - m)
        · exact .inl ⟨n - m, g, by omega, h1⟩
        · refine .inr fun f f1 f2 => ?_
          by_cases c : f = n - m
          · subst c; exact g
          · exact h1 f (by omega) f2
  rcases key (n - b) (Nat.le_refl _) with h1 | h1
  · exact h1
  · exact absurd Ly.one (h1 (b + 1) (by omega) (by omega))
/-- Duval's step: the periods behind the least word -/
theorem Nx.of_pd (h : Ly s b (b + p)) (q : Pd s b p c) (hc : b + p ≤ c) (hn : c ≤ n) (e : c = n ∨ s c < s (c - p)) (t : Nat) (ht : b + (t + 1) * p ≤ c) : Nx s n (b + t * p) (b + (t + 1) * p) := by
  have hp : 0 < p := by have := h.1; omega
  have em : (t + 1) * p = t * p + p := Nat.succ_mul t p
  have sh : ∀ i, b + t * p + i < c → s (b + t * p + i) = s (b + i) := fun i hi => by
    rw [q.mul t _ (by omega) hi]; congr 1; omega
  refine ⟨⟨by omega, fun k k1 k2 => ?_⟩, by omega, fun f f1 f2 hf => ?_⟩
  · obtain ⟨i, i1, i2, i3⟩ := h.2 (k - t * p) (by omega) (by omega)
    have sk : ∀ j, k + j < b + (t + 1) * p → s (k + j) = s (k - t * p + j) := fun j hj => by
      have := sh (k - b - t * p + j) (by omega)
      rw [show b + t * p + (k - b - t * p + j) = k + j by omega, show b + (k - b - t * p + j) = k - t * p + j by omega] at this
      exact this
    refine ⟨i, by omega, fun j hj => ?_, ?_⟩
    · rw [sh j (by omega), sk j (by omega)]; exact i2 j hj
    · rw [sh i (by omega), sk i (by omega)]; exact i3
  · obtain ⟨i, i1, i2, i3⟩ := hf.2 (b + (t + 1) * p) (by omega) f1
    have eq : ∀ j, b + (t + 1) * p + j < c → s (b + t * p + j) = s (b + (t + 1) * p + j) := fun j hj => by
      rw [q (b + (t + 1) * p + j) (by omega) hj]; congr 1; omega
    by_cases c1 : b + (t + 1) * p + i < c
    · rw [eq i c1] at i3; omega
    · rcases e with e | e
      · omega
      · have i0 : c - (b + (t + 1) * p) ≤ i := by omega
        have e1 : b + (t + 1) * p + (c - (b + (t + 1) * p)) = c := by omega
        have e2 : b + t * p + (c - (b + (t + 1) * p)) = c - p := by omega
        by_cases c2 : c - (b + (t + 1) * p) < i
        · have := i2 _ c2
          rw [e1, e2] at this; omega
        · have : i = c - (b + (t + 1) * p) := by omega
          rw [this, e1, e2] at i3; omega
/-- the longest least word is the one cut that goes on not rising -/
theorem Nx.keep {l : List Nat} (h : Nx (sg l) l.length b e) (h2 : Nx (sg l) l.length e f) : ¬ fac l b e < fac l e f := fun lt => by
  have := h.1.cat h2.1 ((fac_lt h.2.1 h2.2.1).mp lt)
  exact h.2.2 f h2.1.1 h2.2.1 this
theorem Nx.short {l : List Nat} {m : Nat} (h : Nx (sg l) l.length b m) (h1 : Ly (sg l) b e) (he : e < m) : ∀ (r f g : Nat), m - f ≤ r → e ≤ f → f < m → Nx (sg l) l.length f g → fac l b e < fac l f g := by
  have hm := h.2.1
  have hb := h1.1
  intro r
  induction r with
  | zero => intro f g h1 h2 h3; omega
  | succ r ih =>
    intro f g hr hf hfm hx
    have hg := hx.2.1
    have hfg := hx.1.1
    by_cases c : m ≤ g
    · obtain ⟨i, i1, i2, i3⟩ := h.1.2 f (by omega) hfm
      rw [fac_lt (by omega) hg]
      by_cases c2 : b + i < e
      · exact .inr ⟨i, c2, by omega, i2, i3⟩
      · exact .inl ⟨by omega, fun j hj => i2 j (by omega)⟩
    · obtain ⟨g2, hg2⟩ := Nx.ex (s := sg l) (n := l.length) (b := g) (by omega)
      have k1 := ih g g2 (by omega) (by omega) (by omega) hg2
      have k2 := hx.keep hg2
      by_cases z : fac l b e < fac l f g
      · exact z
      · have z1 : fac l f g ≤ fac l b e := le_total' _ _ z
        have z2 : fac l g g2 ≤ fac l f g := le_total' _ _ k2
        exact absurd k1 (by simpa using List.le_trans z2 z1)
/-! ### least words, told by lists -/
def lyB (l : List Nat) (b e : Nat) : Bool := decide (b < e) && (List.range (e - b - 1)).all fun i => decide (fac l b e < fac l (b + 1 + i) e)
theorem lyB_iff {l : List Nat} (he : e ≤ l.length) : lyB l b e = true ↔ Ly (sg l) b e := by
  unfold lyB Ly
  rw [Bool.and_eq_true, decide_eq_true_eq, List.all_eq_true]
  constructor
  · rintro ⟨h1, h2⟩
    refine ⟨h1, fun k k1 k2 => ?_⟩
    have := of_decide_eq_true (h2 (k - b - 1) (List.mem_range.mpr (by omega)))
    rw [show b + 1 + (k - b - 1) = k by omega, fac_lt he he] at this
    rcases this with ⟨z, _⟩ | ⟨i, i1, i2, i3, i4⟩
    · omega
    · exact ⟨i, i2, i3, i4⟩
  · rintro ⟨h1, h2⟩
    refine ⟨h1, fun i hi => decide_eq_true ?_⟩
    have hi2 := List.mem_range.mp hi
    obtain ⟨t, t1, t2, t3⟩ := h2 (b + 1 + i) (by omega) (by omega)
    rw [fac_lt he he]
    exact .inr ⟨t, by omega, t1, t2, t3⟩
def nxB (l : List Nat) (b e : Nat) : Bool := lyB l b e && decide (e ≤ l.length) && (List.range (l.length - e)).all fun i => !lyB l b (e + 1 + i)
theorem nxB_iff {l : List Nat} : nxB l b e = true → Nx (sg l) l.length b e := by
  unfold nxB Nx
  rw [Bool.and_eq_true, Bool.and_eq_true, decide_eq_true_eq, List.all_eq_true]
  rintro ⟨⟨h1, h2⟩, h3⟩
  refine ⟨(lyB_iff h2).mp h1, h2, fun f f1 f2 h => ?_⟩
  have := h3 (f - e - 1) (List.mem_range.mpr (by omega))
  rw [show e + 1 + (f - e - 1) = f by omega, (lyB_iff f2).mpr h] at this
  cases this
/-- the cuts from b on -/
inductive Cut (l : List Nat) : Nat → List (List Nat) → Prop where
  | nil : Cut l l.length []
  | cons {b e : Nat} {fs : List (List Nat)} : Nx (sg l) l.length b e → Cut l e fs → Cut l b (fac l b e :: fs)
theorem Cut.le {l : List Nat} {fs : List (List Nat)} (h : Cut l b fs) : b ≤ l.length := by
  cases h with
  | nil => exact Nat.le_refl _
  | cons h _ => have := h.1.1; have := h.2.1; omega
theorem Cut.one {l : List Nat} {fs gs : List (List Nat)} (h : Cut l b fs) (k : Cut l b gs) : fs = gs := by
  induction h generalizing gs with
  | nil =>
    cases k with
    | nil => rfl
    | cons h _ => have := h.1.1; have := h.2.1; omega
  | cons h _ ih =>
    cases k with
    | nil => have := h.1.1; have := h.2.1; omega
    | cons h2 k =>
      have e := h.one_of h2
      subst e
      rw [ih k]
theorem Ly.shift : Ly (fun j => s (a + j)) b e ↔ Ly s (a + b) (a + e) := by
  constructor
  · rintro ⟨h1, h2⟩
    refine ⟨by omega, fun k k1 k2 => ?_⟩
    obtain ⟨i, i1, i2, i3⟩ := h2 (k - a) (by omega) (by omega)
    have e : ∀ j, a + (k - a + j) = k + j := fun j => by omega
    refine ⟨i, by omega, fun j hj => ?_, ?_⟩
    · have := i2 j hj
      dsimp only at this
      rw [e, ← Nat.add_assoc] at this
      exact this
    · dsimp only at i3
      rw [e, ← Nat.add_assoc] at i3
      exact i3
  · rintro ⟨h1, h2⟩
    refine ⟨by omega, fun k k1 k2 => ?_⟩
    obtain ⟨i, i1, i2, i3⟩ := h2 (a + k) (by omega) (by omega)
    refine ⟨i, by omega, fun j hj => ?_, ?_⟩
    · have := i2 j hj
      rw [Nat.add_assoc, Nat.add_assoc] at this
      exact this
    · rw [Nat.add_assoc, Nat.add_assoc] at i3
      exact i3
theorem Nx.shift {l : List Nat} (ha : a ≤ l.length) : Nx (sg (l.drop a)) (l.drop a).length b e ↔ Nx (sg l) l.length (a + b) (a + e) := by
  have es : sg (l.drop a) = fun j => sg l (a + j) := funext fun j => sg_drop l a j
  rw [es, List.length_drop]
  unfold Nx
  constructor
  · rintro ⟨h1, h2, h3⟩
    refine ⟨Ly.shift.mp h1, by omega, fun f f1 f2 h => ?_⟩
    refine h3 (f - a) (by omega) (by omega) (Ly.shift.mpr ?_)
    rw [show a + (f - a) = f by omega]
    exact h
  · rintro ⟨h1, h2, h3⟩
    exact ⟨Ly.shift.mpr h1, by omega, fun f f1 f2 h => h3 (a + f) (by omega) (by omega) (Ly.shift.mp h)⟩
theorem fac_drop {l : List Nat} : fac (l.drop a) b e = fac l (a + b) (a + e) := by
  unfold fac
  rw [List.drop_drop, show a + e - (a + b) = e - b by omega]
theorem Cut.shift {l : List Nat} {fs : List (List Nat)} (ha : a ≤ l.length) (h : Cut (l.drop a) b fs) : Cut l (a + b) fs := by
  generalize hm : l.drop a = m at h
  induction h with
  | nil =>
    subst hm
    rw [List.length_drop, show a + (l.length - a) = l.length by omega]
    exact .nil
  | cons h _ ih =>
    subst hm
    rw [fac_drop]
    exact .cons ((Nx.shift ha).mp h) ih
/-! ### periods and turns -/
/-- the length of a word's root -/
def rootN (l : List Nat) : Nat := if l.length % (l.length - Per.lb (sg l) l.length) = 0 then l.length - Per.lb (sg l) l.length else l.length
/-- two borders' periods that fit together: their difference is one -/
theorem bd_sub {x y : Nat} (h1 : Per.Bd s n (n - x)) (h2 : Per.Bd s n (n - y)) (hx : 0 < x) (lt : x < y) (hxy : x + y ≤ n) : Per.Bd s n (n - (y - x)) := by
  refine ⟨by omega, fun i hi => ?_⟩
  have p1 : ∀ i, i + x < n → s i = s (i + x) := fun i hi => by
    have := h1.2 i (by omega)
    rw [this]; congr 1; omega
  have p2 : ∀ i, i + y < n → s i = s (i + y) := fun i hi => by
    have := h2.2 i (by omega)
    rw [this]; congr 1; omega
  rw [show n - (n - (y - x)) + i = i + (y - x) by omega]
  by_cases c : i + y < n
  · have a1 := p2 i c
    have a2 := p1 (i + (y - x)) (by omega)
    rw [show i + (y - x) + x = i + y by omega] at a2
    rw [a1, a2]
  · have a1 := p1 (i - x) (by omega)
    have a2 := p2 (i - x) (by omega)
    rw [show i - x + x = i by omega] at a1
    rw [show i - x + y = i + (y - x) by omega] at a2
    rw [← a1, a2]
/-- the least period goes into every period that leaves it room -/
theorem per_dvd {P : Nat} (hP : P = n - Per.lb s n) (h0 : 0 < n) : ∀ (y : Nat), 0 < y → P + y ≤ n → Per.Bd s n (n - y) → P ∣ y := by
  have hlt := Per.lb_lt (s := s) h0
  have hb : Per.Bd s n (n - P) := by
    have := Per.lb_bd (s := s) h0
    rw [show n - P = Per.lb s n by omega]
    exact this
  intro y
  induction y using Nat.strongRecOn with
  | _ y ih =>
    intro y0 hy h
    have := Per.lb_max h
    by_cases c : y = P
    · rw [c]; exact Nat.dvd_refl _
    · have h2 := bd_sub hb h (by omega) (by omega) (by omega)
      have := ih (y - P) (by omega) (by omega) (by omega) h2
      have e : y = (y - P) + P := by omega
      rw [e]
      exact Nat.dvd_add this (Nat.dvd_refl _)
/-- a least word is smaller than its turns, and no power -/
theorem ly_iff {l : List Nat} (h0 : 0 < l.length) : Ly (sg l) 0 l.length ↔ ((∀ i, 0 < i → i < l.length → ¬ (l.drop i ++ l.take i) < l) ∧ rootN l = l.length) := by
  have rl : ∀ i, i < l.length → (l.drop i ++ l.take i).length = l.length := fun i hi => by simp; omega
  have r1 : ∀ i j, i + j < l.length → sg (l.drop i ++ l.take i) j = sg l (i + j) := fun i j hj => by
    rw [sg_app1 _ _ (by simp; omega), sg_drop]
  have r2 : ∀ i j, i < l.length → j < i → sg (l.drop i ++ l.take i) (l.length - i + j) = sg l j := fun i j hi hj => by
    rw [sg_app2 _ _ (by simp), List.length_drop, show l.length - i + j - (l.length - i) = j by omega, sg_take _ hj]
  have hlt := Per.lb_lt (s := sg l) h0
  constructor
  · intro h
    refine ⟨fun i i0 i1 lt => ?_, ?_⟩
    · obtain ⟨t, t1, t2, t3⟩ := h.2 i i0 i1
      rw [lt_iff, rl i i1] at lt
      rcases lt with ⟨z, _⟩ | ⟨u, u1, _, u3, u4⟩
      · omega
      · by_cases c : u < t
        · have := t2 u c
          rw [r1 i u (by omega)] at u4
          rw [Nat.zero_add] at this
          omega
        · by_cases c2 : u = t
          · subst c2
            rw [r1 i u (by omega)] at u4
            rw [Nat.zero_add] at t3
            omega
          · have := u3 t (by omega)
            rw [r1 i t (by omega)] at this
            rw [Nat.zero_add] at t3
            omega
    · unfold rootN
      split
      · rename_i hz
        by_cases c : Per.lb (sg l) l.length = 0
        · omega
        · obtain ⟨i, i1, i2, i3⟩ := h.2 (l.length - Per.lb (sg l) l.length) (by omega) (by omega)
          have := (Per.lb_bd (s := sg l) h0).2 i (by omega)
          rw [Nat.zero_add] at i3
          omega
      · rfl
  · rintro ⟨h1, h2⟩
    refine ⟨h0, fun k k1 k2 => ?_⟩
    apply Classical.byContradiction
    intro hno
    -- no place where the word differs below its end from k on
    have eq : ∀ j, k + j < l.length → sg l j = sg l (k + j) := by
      intro j
      induction j using Nat.strongRecOn with
      | _ j ih =>
        intro hj
        have pre : ∀ t, t < j → sg l t = sg l (k + t) := fun t ht => ih t ht (by omega)
        apply Classical.byContradiction
        intro hne
        by_cases c : sg l j < sg l (k + j)
        · exact hno ⟨j, hj, fun t ht => by rw [Nat.zero_add]; exact pre t ht, by rw [Nat.zero_add]; exact c⟩
        · refine h1 k k1 k2 ?_
          rw [lt_iff, rl k k2]
          refine .inr ⟨j, by omega, by omega, fun t ht => ?_, ?_⟩
          · rw [r1 k t (by omega)]; exact (pre t ht).symm
          · rw [r1 k j hj]; omega
    have eq2 : ∀ j, j < k → sg l j = sg l (l.length - k + j) := by
      intro j
      induction j using Nat.strongRecOn with
      | _ j ih =>
        intro hj
        have pre : ∀ t, t < j → sg l t = sg l (l.length - k + t) := fun t ht => ih t ht (by omega)
        apply Classical.byContradiction
        intro hne
        by_cases c : sg l j < sg l (l.length - k + j)
        · -- the turn by k is smaller
          refine h1 k k1 k2 ?_
          rw [lt_iff, rl k k2]
          refine .inr ⟨l.length - k + j, by omega, by omega, fun t ht => ?_, ?_⟩
          · by_cases g : k + t < l.length
            · rw [r1 k t g]; exact (eq t g).symm
            · obtain ⟨u, rfl⟩ : ∃ u, t = l.length - k + u := ⟨t - (l.length - k), by omega⟩
              rw [r2 k u k2 (by omega)]
              exact pre u (by omega)
          · rw [r2 k j k2 hj]; exact c
        · refine h1 (l.length - k) (by omega) (by omega) ?_
          rw [lt_iff, rl _ (by omega)]
          refine .inr ⟨j, by omega, by omega, fun t ht => ?_, ?_⟩
          · rw [r1 _ t (by omega)]; exact (pre t ht).symm
          · rw [r1 _ j (by omega)]; omega
    have b1 : Per.Bd (sg l) l.length (l.length - k) := ⟨by omega, fun i hi => by
      rw [show l.length - (l.length - k) + i = k + i by omega]
      exact eq i (by omega)⟩
    have b2 : Per.Bd (sg l) l.length k := ⟨k2, eq2⟩
    have m1 := Per.lb_max b1
    have m2 := Per.lb_max b2
    have d1 := per_dvd (s := sg l) (n := l.length) rfl h0 k k1 (by omega) b1
    have d2 := per_dvd (s := sg l) (n := l.length) rfl h0 (l.length - k) (by omega) (by omega) (by rw [show l.length - (l.length - k) = k by omega]; exact b2)
    have d3 : (l.length - Per.lb (sg l) l.length) ∣ l.length := by
      have := Nat.dvd_add d1 d2
      rwa [show k + (l.length - k) = l.length by omega] at this
    unfold rootN at h2
    rw [if_pos (Nat.mod_eq_zero_of_dvd d3)] at h2
    omega
theorem fac_all {l : List Nat} : fac l b l.length = l.drop b := by
  unfold fac
  exact List.take_of_length_le (by simp)
theorem lyB_all (l : List Nat) : lyB l 0 l.length = (decide (l ≠ []) && (List.range (l.length - 1)).all fun i => decide (l < l.drop (1 + i))) := by
  unfold lyB
  rw [Nat.sub_zero]
  congr 1
  · cases l <;> simp
  · congr 1
    funext i
    rw [fac_all, fac_all, List.drop_zero, Nat.zero_add]
theorem Ly.take {l : List Nat} (he : e ≤ c) : Ly (sg (l.take c)) b e ↔ Ly (sg l) b e := by
  have key : ∀ j, j < e → sg (l.take c) j = sg l j := fun j hj => sg_take l (by omega)
  unfold Ly
  constructor
  · rintro ⟨h1, h2⟩
    refine ⟨h1, fun k k1 k2 => ?_⟩
    obtain ⟨i, i1, i2, i3⟩ := h2 k k1 k2
    exact ⟨i, i1, fun j hj => by rw [← key _ (by omega), ← key _ (by omega)]; exact i2 j hj, by rw [← key _ (by omega), ← key _ (by omega)]; exact i3⟩
  · rintro ⟨h1, h2⟩
    refine ⟨h1, fun k k1 k2 => ?_⟩
    obtain ⟨i, i1, i2, i3⟩ := h2 k k1 k2
    exact ⟨i, i1, fun j hj => by rw [key _ (by omega), key _ (by omega)]; exact i2 j hj, by rw [key _ (by omega), key _ (by omega)]; exact i3⟩
theorem fac_zero {l : List Nat} : fac l 0 e = l.take e := by unfold fac; rw [List.drop_zero, Nat.sub_zero]
/-- one least word ahead is the first cut, told by the rest's first -/
theorem first_cut {l : List Nat} {m : Nat} {fs : List (List Nat)} (hm : Nx (sg l) l.length 0 m) (he : e ≤ l.length) (h : Ly (sg l) 0 e) (hc : Cut (l.drop e) 0 fs) : (fs = [] ∨ ∃ g gs, fs = g :: gs ∧ ¬ l.take e < g) ↔ e = m := by
  have hc2 := hc.shift he
  rw [Nat.add_zero] at hc2
  constructor
  · intro hx
    by_cases c1 : e < m
    · cases hc2 with
      | nil => have := hm.2.1; omega
      | cons h3 h4 =>
        rcases hx with hx | ⟨g, gs, hx, hn⟩
        · cases hx
        · injection hx with e1 e2
          have := hm.short h c1 (m - e) e _ (Nat.le_refl _) (Nat.le_refl _) c1 h3
          rw [fac_zero, e1] at this
          exact absurd this hn
    · by_cases c2 : m < e
      · exact absurd h (hm.2.2 e c2 he)
      · omega
  · intro e1
    subst e1
    cases hc2 with
    | nil => exact .inl rfl
    | cons h3 h4 =>
      have := hm.keep h3
      rw [fac_zero] at this
      exact .inr ⟨_, _, rfl, this⟩
theorem Cut.mem {l : List Nat} {fs : List (List Nat)} (h : Cut l b fs) : ∀ w, w ∈ fs → ∀ c, c ∈ w → c ∈ l := by
  induction h with
  | nil => intro w hw; cases hw
  | cons _ _ ih =>
    intro w hw c hc
    rcases List.mem_cons.mp hw with e | hw
    · subst e
      exact List.mem_of_mem_drop (List.mem_of_mem_take hc)
    · exact ih w hw c hc
theorem Cut.len {l : List Nat} {fs : List (List Nat)} (h : Cut l b fs) : fs.length + b ≤ l.length := by
  induction h with
  | nil => simp
  | cons h _ ih => have := h.1.1; rw [List.length_cons]; omega
end Lyn
/-! All words over the first letters, up to a length. Plain. -/
namespace Wds
/-- the words of m letters over the first n -/
def exact (n : Nat) : Nat → List (List Nat)
  | 0 => [[]]
  | m + 1 => (List.range n).flatMap fun c => (exact n m).map fun w => (97 + c) :: w
def upto (n m : Nat) : List (List Nat) := (List.range (m + 1)).flatMap (exact n)
theorem mem_exact {n : Nat} : ∀ (m : Nat) (l : List Nat), l.length = m → (∀ c ∈ l, 97 ≤ c ∧ c < 97 + n) → l ∈ exact n m
  | 0, l, h, _ => by
    have : l = [] := List.length_eq_zero_iff.mp h
    subst this
    exact List.mem_singleton.mpr rfl
  | m + 1, [], h, _ => by cases h
  | m + 1, c :: l, h, w => by
    have h2 := w c List.mem_cons_self
    refine List.mem_flatMap.mpr ⟨c - 97, List.mem_range.mpr (by omega), List.mem_map.mpr ⟨l, mem_exact m l (by simpa using h) fun d hd => w d (List.mem_cons_of_mem _ hd), ?_⟩⟩
    rw [show 97 + (c - 97) = c by omega]
theorem mem_upto {n m : Nat} {l : List Nat} (h : l.length ≤ m) (w : ∀ c ∈ l, 97 ≤ c ∧ c < 97 + n) : l ∈ upto n m :=
  List.mem_flatMap.mpr ⟨l.length, List.mem_range.mpr (by omega), mem_exact _ l rfl w⟩
end Wds
/-! min of data, comprehensions over zip. -/
namespace My
open PySem PySem.Spec L2 SX
open PyProof.Rows hiding St
section
variable {X : Cx} {H : Hp} {Q : VK} {K : PySem.W.Frag}
/-- min(xs), xs a list of alike data -/
def rMinD (K : PySem.W.Frag) : List V → Hp → VK → Prop := fun vs H Q => ∃ (a : Addr) (xs : List V) (d : PyData) (ds : List PyData), vs = [V.ref a] ∧ SqL K H a xs ∧ DpAll K H xs (d :: ds) ∧ PySem.W.AlikeAll (d :: ds) ∧ SeqAt.shaped (.list (d :: ds)) = true ∧
  ∀ (i : Nat) (v : V), xs[i]? = some v → (d :: ds)[i]? = some (PySem.W.minD d ds) → Q v H
theorem dpAll_len : ∀ {xs : List V} {ds : List PyData}, DpAll K H xs ds → xs.length = ds.length
  | _, _, .nil => rfl
  | _, _, .cons _ t => by rw [List.length_cons, List.length_cons, dpAll_len t]
theorem reads_keep {h h' : Heap} (k : ∀ b o, h.get? b = some o → h'.get? b = some o) {v : Value} {d : PyData} {as : List Addr} (r : Reads h v d as) : Reads h' v d as := PyProof.Rows.Reads.keeps k r
theorem cr_minD (hc : X.calm = true) (hu : X.A.units + 100 < cLine) : CallR X (.builtin "min") (rMinD X.K) := by
  intro pins s σ H vs us Q I r h
  obtain ⟨a, xs, d, ds, rfl, hs, hd, hal, hsh, q⟩ := h
  obtain ⟨its, rv, hl, _⟩ := I.list hs
  rw [Vals.ref1 r]
  obtain ⟨as, hr⟩ := Dp.readsAll I (d :: ds) xs its hd rv
  have hcan : PyData.canLayAll0 (d :: ds) = true := SeqAt.canLay_of_shaped hsh
  have hdep : PyData.depthAll (d :: ds) + 1 ≤ 64 := SeqAt.depth_of_shaped hsh
  refine PySem.W.min_list_data (I.ok.hd hc) hl.isList (vs := its.toArray) (by simpa using hr) hal (by omega) fun i v h' tk bs hv hrd hk => ?_
  have hv2 : its[i]? = some v := by simpa using hv
  have hil : i < its.length := (List.getElem?_eq_some_iff.mp hv2).1
  have hxl : i < xs.length := by rw [rv.length]; exact hil
  obtain ⟨u, hu2, ru⟩ := rv.get (List.getElem?_eq_getElem hxl)
  rw [hv2] at hu2
  cases hu2
  have hdl : i < (d :: ds).length := by rw [← dpAll_len hd]; exact hxl
  have hvd : its[i]? = some v := hv2
  obtain ⟨bs2, r2, _, hm, _⟩ := PySem.W.readsAll_at hr i v hv2
  have hci : ((d :: ds).getD i .none).canLay0 = true := PyData.canLay0_of_mem (d :: ds) _ hcan hm
  have e := PySem.SeqAt.Reads.unique _ _ _ _ _ hci (reads_keep hk r2) hrd
  refine ⟨xs[i], H, I.kept hk, ru, q i _ (List.getElem?_eq_getElem hxl) ?_⟩
  rw [List.getElem?_eq_getElem hdl]
  rw [List.getD_eq_getElem?_getD, List.getElem?_eq_getElem hdl] at e
  exact congrArg some e

/-! ### pairs of a text and an int -/
def ltSI (a b : List Nat × Int) : Bool := decide (a.1 < b.1) || (decide (a.1 = b.1) && decide (a.2 < b.2))
def minSI (a : List Nat × Int) (l : List (List Nat × Int)) : List Nat × Int := l.foldl (fun m y => if ltSI y m then y else m) a
def toSI (a : List Nat × Int) : PyData := dSI a.1 a.2
theorem alikeSI (a b : List Nat × Int) : PySem.W.alike (toSI a) (toSI b) = true := by simp [toSI, dSI, PySem.W.alike, PySem.W.alikeAll]
theorem dataLtSI (a b : List Nat × Int) : PySem.W.dataLt (toSI a) (toSI b) = ltSI a b := by
  unfold toSI dSI ltSI
  rw [PySem.W.dataLt_pair (by simp [PySem.W.alike]) (by simp [PySem.W.alike]), PySem.W.dataLt_int, PySem.W.dataLt_str, eqStr]
  have e : PyData.eqv (.int a.2) (.int b.2) = decide (a.2 = b.2) := by simp only [PyData.eqv]; by_cases e : a.2 = b.2 <;> simp [e]
  rw [e]
  show (if decide (a.1 = b.1) = true then _ else decide (a.1 < b.1)) = _
  by_cases h1 : a.1 = b.1
  · rw [decide_eq_true h1, if_pos rfl, h1]
    have h2 : decide (b.1 < b.1) = false := decide_eq_false (List.lt_irrefl _)
    rw [h2]
    by_cases h3 : a.2 = b.2
    · simp [h3]
    · simp [h3]
  · rw [decide_eq_false h1, if_neg Bool.false_ne_true]
    simp
theorem minSI_D (a : List Nat × Int) : ∀ l : List (List Nat × Int), PySem.W.minD (toSI a) (l.map toSI) = toSI (minSI a l) := by
  intro l
  unfold PySem.W.minD minSI
  induction l generalizing a with
  | nil => rfl
  | cons b l ih =>
    rw [List.map_cons, List.foldl_cons, List.foldl_cons, dataLtSI]
    by_cases h : ltSI b a = true
    · rw [if_pos h, if_pos h]; exact ih b
    · rw [if_neg h, if_neg h]; exact ih a
theorem canSI (a : List Nat × Int) (h : OkW a.1) : (toSI a).canLay0 = true := by
  show (PyData.canLay0 (.str (S a.1)) && (PyData.canLay0 (.int a.2) && true)) = true
  rw [canStr h]; rfl
theorem canAllSI : ∀ l : List (List Nat × Int), (∀ a ∈ l, OkW a.1) → PyData.canLayAll0 (l.map toSI) = true
  | [], _ => rfl
  | a :: l, h => by
    show (PyData.canLay0 (toSI a) && PyData.canLayAll0 (l.map toSI)) = true
    rw [canAllSI l fun b hb => h b (List.mem_cons_of_mem _ hb), canSI a (h a List.mem_cons_self)]; rfl
theorem depAllSI : ∀ l : List (List Nat × Int), PyData.depthAll (l.map toSI) ≤ 1
  | [] => Nat.zero_le _
  | a :: l => by
    show max (PyData.depth (toSI a)) (PyData.depthAll (l.map toSI)) ≤ 1
    have h1 : PyData.depth (toSI a) = 1 := rfl
    have := depAllSI l
    omega
theorem toSI_inj {a b : List Nat × Int} (h : toSI a = toSI b) : a = b := by
  unfold toSI dSI at h
  injection h with h
  injection h with h1 h2
  injection h2 with h2 _
  injection h1 with h1
  injection h2 with h2
  exact Prod.ext (S_inj h1) h2
/-- the list's items: new tuples, as they stand -/
def TupsAt (H : Hp) : List V → List (List Nat × Int) → Prop := Paired fun v a => ∃ t, v = .ref t ∧ H t = some (.tup [.str (S a.1), .int a.2])
theorem dpTups : ∀ {vs : List V} {l : List (List Nat × Int)}, TupsAt H vs l → DpAll K H vs (l.map toSI)
  | _, _, .nil => .nil
  | _, _, .cons ⟨t, e, h⟩ r => by
    subst e
    exact .cons (dpSI (SqT.of h)) (dpTups r)
theorem tups_at {vs : List V} {l : List (List Nat × Int)} (h : TupsAt H vs l) {i : Nat} {v : V} {a : List Nat × Int} (hv : vs[i]? = some v) (ha : l[i]? = some a) : ∃ t, v = .ref t ∧ H t = some (.tup [.str (S a.1), .int a.2]) := by
  induction h generalizing i with
  | nil => simp at hv
  | cons r _ ih =>
    cases i with
    | zero =>
      simp at hv ha
      subst hv ha
      exact r
    | succ i => exact ih (by simpa using hv) (by simpa using ha)
theorem rd_minSI {p : Addr} {vs : List V} {a : List Nat × Int} {l : List (List Nat × Int)} (hs : SqL K H p vs) (ht : TupsAt H vs (a :: l)) (ho : ∀ b ∈ a :: l, OkW b.1)
    (q : ∀ t, H t = some (.tup [.str (S (minSI a l).1), .int (minSI a l).2]) → Q (.ref t) H) : rMinD K [.ref p] H Q := by
  refine ⟨p, vs, toSI a, l.map toSI, rfl, hs, dpTups ht, ⟨?_, ?_⟩, ?_, fun i v hv hd => ?_⟩
  · intro x hx y hy
    have hx2 : x ∈ (a :: l).map toSI := hx
    have hy2 : y ∈ (a :: l).map toSI := hy
    obtain ⟨b, _, rfl⟩ := List.mem_map.mp hx2
    obtain ⟨c, _, rfl⟩ := List.mem_map.mp hy2
    exact alikeSI b c
  · intro x hx
    have hx2 : x ∈ (a :: l).map toSI := hx
    obtain ⟨b, _, rfl⟩ := List.mem_map.mp hx2
    exact fun z => nomatch z
  · unfold SeqAt.shaped
    have h1 : PyData.canLay0 (.list ((a :: l).map toSI)) = true := canAllSI _ ho
    have h2 : PyData.depth (.list ((a :: l).map toSI)) ≤ 64 := by
      show PyData.depthAll ((a :: l).map toSI) + 1 ≤ 64
      have := depAllSI (a :: l)
      omega
    rw [Bool.and_eq_true]
    exact ⟨h1, decide_eq_true h2⟩
  · rw [minSI_D] at hd
    have hd2 : ((a :: l).map toSI)[i]? = some (toSI (minSI a l)) := hd
    rw [List.getElem?_map] at hd2
    cases e : (a :: l)[i]? with
    | none => rw [e] at hd2; cases hd2
    | some b =>
      rw [e] at hd2
      have e2 := toSI_inj (Option.some.inj hd2)
      subst e2
      obtain ⟨t, rfl, hst⟩ := tups_at ht hv e
      exact q t hst

/-! ### comprehensions over zip -/
variable {σ : St} {te : TE} {vs : List Nat} {R : It → Hp → Prop}
/-- the target (a, b) of names -/
abbrev g2 (K : PySem.W.Frag) (i j : Nat) : TG := gTup K 2 (gCons (gName i) (gCons (gName j) gNil))
theorem lcZ {J : It} {n : Nat} {G : Hp → Prop} {A B : Nat → Option V} (w : Walk J n G (YPair A B)) (hG : ∀ H', Same H H' → G H') {i j : Nat} (f : Nat → V) (hn : n ≤ 50000)
    (hw : ∀ x y, wipe (((wipe σ vs).set i (some x)).set j (some y)) vs = wipe σ vs)
    (he : ∀ k x y, k < n → A k = some x → B k = some y → PE0 te (((wipe σ vs).set i (some x)).set j (some y)) H (f k))
    (q : ∀ D H', H D = none → Same H H' → H' D = some (.lst ((List.range n).map f)) → Q (.ref D) H') : LcG J (g2 K i j) tYes te vs σ Q H := by
  intro D hD
  refine lc_it w (fun k H' => Same H H' ∧ H' D = some (.lst ((List.range k).map f))) ⟨Same.new hD, upd_same⟩ (fun k H' _ p => hG H' p.1) ?_ ?_
  · rintro k x H1 H1' hk ⟨s1, hd⟩ ⟨T, x, y, rfl, hT, rfl, ha, hb⟩
    refine ⟨T, [x, y], rfl, SqT.of upd_same, rfl, x, [y], rfl, y, [], rfl, rfl, hw x y, ?_⟩
    unfold tYes; dsimp only
    rw [if_pos rfl]
    have s2 : Same H (upd H1 T (.tup [x, y])) := fun b o e => by rw [upd_ne (ne_of_none (s1 b o e) hT)]; exact s1 b o e
    refine he k x y hk ha hb _ s2 _ fun H3 s3 => ?_
    have hDT : D ≠ T := ne_of_none hd hT
    refine ⟨_, s3 _ _ (by rw [upd_ne hDT]; exact hd), ?_, Same.mut (s2.trans s3) hD, ?_⟩
    · rw [List.length_map, List.length_range]
      exact szlt (by omega)
    · rw [upd_same, List.range_succ, List.map_append]
      rfl
  · rintro H1 ⟨s1, hd⟩
    exact q D H1 hD s1 hd
theorem walk_zipT {a b : Addr} {xs ys : List V} (hl : xs.length = ys.length) : Walk (RZ.ItzT K a b) xs.length (fun H => SqT K H a xs ∧ SqT K H b ys) (YPair (fun i => xs[i]?) (fun i => ys[i]?)) := by
  refine ⟨fun i _ hi q => ?_, fun _ q => ⟨xs, ys, q.1, q.2, .inl (Nat.le_refl _)⟩, fun i H v H' _ q y => ?_⟩
  · have h2 : i < ys.length := by omega
    exact ⟨xs, ys, xs[i], ys[i], q.1, q.2, by simp [hi], by simp [h2]⟩
  · obtain ⟨T, x, z, h1, h2, h3, h4, h5⟩ := y
    exact ⟨T, x, z, h1, h2, h3, h4 xs q.1, h5 ys q.2⟩
def qZip (K : PySem.W.Frag) (vs : List V) (H1 : Hp) (R : It → Hp → Prop) : Prop := ∃ a b xs ys, vs = [.ref a, .ref b] ∧ ((SqL K H1 a xs ∧ SqL K H1 b ys ∧ R (Itz K a b) H1) ∨ (SqT K H1 a xs ∧ SqT K H1 b ys ∧ R (RZ.ItzT K a b) H1))
theorem rd_iZip {ta : TA} (h : ta σ H fun vs H1 => qZip K vs H1 R) : RZ.iZipA K ta σ H R := h
theorem rd_zipL {a b : Addr} {xs ys : List V} (h1 : SqL K H a xs) (h2 : SqL K H b ys) (q : R (Itz K a b) H) : qZip K [.ref a, .ref b] H R := ⟨a, b, xs, ys, rfl, .inl ⟨h1, h2, q⟩⟩
theorem rd_zipT {a b : Addr} {xs ys : List V} (h1 : SqT K H a xs) (h2 : SqT K H b ys) (q : R (RZ.ItzT K a b) H) : qZip K [.ref a, .ref b] H R := ⟨a, b, xs, ys, rfl, .inr ⟨h1, h2, q⟩⟩
/-- all, any -/
theorem rd_all {p : Addr} {bs : List Bool} (h : SqL K H p (bs.map V.bl)) (q : Q (.bl (bs.all id)) H) : rAll K [.ref p] H Q := ⟨p, bs, rfl, h, q⟩
theorem rd_any {p : Addr} {bs : List Bool} (h : SqL K H p (bs.map V.bl)) (q : Q (.bl (bs.any id)) H) : rAny K [.ref p] H Q := ⟨p, bs, rfl, h, q⟩
/-- isinstance with a tuple of types just made -/
theorem rd_isiT {x : V} {t : Value} {tp : Addr} {cs : List V} {us : List Value} {b : Bool} (h : H tp = some (.tup cs)) (p : Paired ClsV cs us) (ty : TyX K H x t) (k : PySem.W.kitAny K t us = some b) (q : Q (.bl b) H) : rIsiT K [x, .ref tp] H Q := ⟨x, tp, cs, t, us, b, rfl, h, p, ty, k, q⟩
theorem rd_isiTL {x : V} {a : String} {tp : Addr} {r1 r2 : Bool} (h : H tp = some (.tup [.ty "tuple", .ty "list"])) (ty : TyX K H x (.type a)) (k1 : kitB a "tuple" = some r1) (k2 : kitB a "list" = some r2) (q : Q (.bl (r1 || r2)) H) : rIsiT K [x, .ref tp] H Q := by
  refine rd_isiT h (.cons (.ty _) (.cons (.ty _) .nil)) ty ?_ q
  cases r1 with
  | true => exact kitAny_cons (kit_ty k1) (fun z => nomatch z) fun _ => rfl
  | false =>
    refine kitAny_cons (b := false) (kit_ty k1) (fun _ => ?_) fun z => nomatch z
    cases r2 with
    | true => exact kitAny_cons (kit_ty k2) (fun z => nomatch z) fun _ => rfl
    | false => exact kitAny_cons (b := false) (kit_ty k2) (fun _ => kitAny_nil) fun z => nomatch z
end
end My
/-! Small rules: replace of written texts, room. -/
namespace My
open PySem PySem.Spec L2 SX
open PyProof.Rows hiding St
section
variable {X : Cx} {x y z : Str} {i j k : Nat} {cx c0 c1 apos pos : Pos}
theorem pe_replLit (l : List Nat) (hl : Txt.replace x y z = S l) (hb : x.length + (x.length + 1) * z.length ≤ 16777216) (hyz : (y == z) = false := by decide)
    (hst : starEach [.Constant (.str y) j c0, .Constant (.str z) k c1] X.env = [(false, eval (.Constant (.str y) j c0) X.env), (false, eval (.Constant (.str z) k c1) X.env)] := by rfl)
    (hbase : attributeBase (.Constant (.str x) i cx) "replace" X.env (eval (.Constant (.str x) i cx) X.env) = eval (.Constant (.str x) i cx) X.env := by rfl) (hline : (apos.endLine == pos.line) = true := by rfl) :
    PE X (.Call (.Attribute (.Constant (.str x) i cx) "replace" apos) [.Constant (.str y) j c0, .Constant (.str z) k c1] [] pos) (tC (.str (S l))) := by
  refine ⟨fun pins s σ H Q I h => ?_⟩
  refine PySem.Call_method2 hbase hst hline (Calls.Constant_str ?_)
  refine ⟨"str", _, PySem.F.plainAttrs_str, PySem.F.slot_str_replace, PySem.F.type_str_replace, typeIs_str _ _ _, (fun _ e => nomatch e), Calls.callWith_builtin rfl (Calls.evalArgs_plain (Calls.spliced_cons ?_))⟩
  refine Calls.Constant_str (Calls.spliced_cons (Calls.Constant_str (Calls.spliced_nil ?_)))
  refine PySem.SC.replace (by show s.toks + 1 ≠ 0; omega) (by show s.toks + 1 + 1 ≠ 0; omega) (by show s.toks + 1 ≠ s.toks + 1 + 1; omega) hyz hb fun t' hk => ⟨.str (S l), H, (I.tok _).tok hk, ⟨t', by rw [hl]⟩, h⟩
end
theorem pg_two {X : Cx} {i j k : Nat} {x y : Str} {p q pos : Pos} (K : PySem.W.Frag) (hK : X.K = K) (hc : X.calm = true) (hN : X.N.Nodup) (hi : X.N[i]? = some x) (hx : Loc X.env.scope x) (hj : X.N[j]? = some y) (hy : Loc X.env.scope y)
    (h1 : X.fn x = true ∨ X.env.scope.names.lookup x = some .local := by first | exact .inl rfl | exact .inr rfl | assumption)
    (h2 : X.fn y = true ∨ X.env.scope.names.lookup y = some .local := by first | exact .inl rfl | exact .inr rfl | assumption) :
    PG X (.Tuple [.Name x p, .Name y q] k pos) (gTup K 2 (gCons (gName i) (gCons (gName j) gNil))) := by
  subst hK
  exact pg_tup hc (pgs_cons (pg_name hN hi hx h1) (pgs_cons (pg_name hN hj hy h2) pgs_nil))
theorem rd_slS_mid {H : Hp} {Q : VK} {l : List Nat} {i j : Int} (hl : l.length ≤ 100000) (h0 : 0 ≤ i) (h1 : i ≤ j) (h2 : j ≤ (l.length : Int)) (q : Q (.str (S ((l.drop i.toNat).take (j - i).toNat))) H) : C8.rSlX (.str (S l)) (some i) (some j) H Q := by
  refine ⟨S l, rfl, by rw [S_len]; exact sz hl, ?_⟩
  have e : Txt.slice (S l) (some i) (some j) = S ((l.drop i.toNat).take (j - i).toNat) :=
    (beq_iff_eq.mp (PyProof.Rows.slice_closesL (x := S l) h0 h1 (by rw [S_len]; exact h2))).trans (TL.ext_tl rfl)
  rw [e]
  exact q
theorem one_lt {x y : Nat} : [x] < [y] ↔ x < y := by
  rw [List.cons_lt_cons_iff]
  simp
theorem paired_snoc {α β : Type} {R : α → β → Prop} {as : List α} {bs : List β} {a : α} {b : β} (h : Paired R as bs) (r : R a b) : Paired R (as ++ [a]) (bs ++ [b]) := by
  induction h with
  | nil => exact .cons r .nil
  | cons x _ ih => exact .cons x ih
/-- a while with what holds behind it said once -/
theorem rd_whileX {σ : St} {H : Hp} {tt : TT} {tb : TS} {nx : St → Hp → Prop} {rt : VK} {bk ct : St → Hp → Prop} (W : Nat → St → Hp → Prop) (Ex : St → Hp → Prop) (m0 : Nat) (h0 : W m0 σ H) (hx : ∀ σ H, Ex σ H → nx σ H)
    (hs : (∀ σ H, Ex σ H → nx σ H) → ∀ m σ H, W m σ H → tt σ H fun b H1 => if b = true then WhB W m tb rt nx σ H1 else nx σ H1) : tWhile tt tb ⟨nx, rt, bk, ct⟩ σ H :=
  rd_while W m0 h0 (hs hx)
theorem rd_two {a b : V} {R : V → V → Prop} (h : R a b) : ∃ v w, [a, b] = [v, w] ∧ R v w := ⟨a, b, rfl, h⟩
theorem rd_evT {b : Bool} {A B : Prop} (h : b = true) (q : A) : if b = true then A else B := by rw [if_pos h]; exact q
theorem rd_evF {b : Bool} {A B : Prop} (h : b = false) (q : B) : if b = true then A else B := by rw [if_neg (by rw [h]; exact Bool.false_ne_true)]; exact q
theorem Room.u100 {k : Nat} {A : Around} (r : Room k A) : A.units + 100 < cLine := by have := r.un; omega
theorem Room.u65 {k : Nat} {A : Around} (r : Room k A) : A.units + 65 < cLine := by have := r.un; omega
end My
namespace My
open PySem PySem.Spec L2 SX
open PyProof.Rows hiding St
def top (i : Nat) : Stmt := PySem.Challenge.pw_wordfolds_k36_whole_words_that_commute_a.main.body.getD i (.Pass ⟨0, 0, 0, 0⟩)
abbrev s_check_word : Stmt := top 7
abbrev s_check_letters : Stmt := top 9
abbrev s_check_filled : Stmt := top 10
abbrev s_border_lengths : Stmt := top 11
abbrev s_borders : Stmt := top 12
abbrev s_periods : Stmt := top 13
abbrev s_root_of : Stmt := top 14
abbrev s_do_commute : Stmt := top 15
abbrev s_common_root : Stmt := top 16
abbrev s_least_cuts : Stmt := top 17
abbrev s_least_turn : Stmt := top 18
abbrev s_is_least_of_ends : Stmt := top 19
abbrev s__law_hand : Stmt := top 21
abbrev s__law_draw : Stmt := top 22
abbrev s__law_some : Stmt := top 23
abbrev s__law_word : Stmt := top 24
abbrev s__law_is : Stmt := top 25
abbrev s__law_is_least : Stmt := top 26
abbrev s__law_all_cuts : Stmt := top 27
abbrev s__law_root : Stmt := top 28
abbrev s_law : Stmt := top 29
abbrev N_check_word : List Str := ["word", "letters", "most", "one"]
theorem sc_check_word : FnScope N_check_word ["word", "letters", "most"] (defScope s_check_word) := ⟨rfl, rfl, rfl, by decide +kernel, rfl, by decide +kernel, by decide +kernel⟩
abbrev N_check_letters : List Str := ["word"]
theorem sc_check_letters : FnScope N_check_letters ["word"] (defScope s_check_letters) := ⟨rfl, rfl, rfl, by decide +kernel, rfl, by decide +kernel, by decide +kernel⟩
abbrev N_check_filled : List Str := ["word"]
theorem sc_check_filled : FnScope N_check_filled ["word"] (defScope s_check_filled) := ⟨rfl, rfl, rfl, by decide +kernel, rfl, by decide +kernel, by decide +kernel⟩
abbrev N_border_lengths : List Str := ["word", "found", "sign", "here"]
theorem sc_border_lengths : FnScope N_border_lengths ["word"] (defScope s_border_lengths) := ⟨rfl, rfl, rfl, by decide +kernel, rfl, by decide +kernel, by decide +kernel⟩
abbrev N_borders : List Str := ["word", "lengths", "found", "here"]
theorem sc_borders : FnScope N_borders ["word"] (defScope s_borders) := ⟨rfl, rfl, rfl, by decide +kernel, rfl, by decide +kernel, by decide +kernel⟩
abbrev N_periods : List Str := ["word", "length"]
theorem sc_periods : FnScope N_periods ["word"] (defScope s_periods) := ⟨rfl, rfl, rfl, by decide +kernel, rfl, by decide +kernel, by decide +kernel⟩
abbrev N_root_of : List Str := ["word", "period"]
theorem sc_root_of : FnScope N_root_of ["word"] (defScope s_root_of) := ⟨rfl, rfl, rfl, by decide +kernel, rfl, by decide +kernel, by decide +kernel⟩
abbrev N_do_commute : List Str := ["one", "other"]
theorem sc_do_commute : FnScope N_do_commute ["one", "other"] (defScope s_do_commute) := ⟨rfl, rfl, rfl, by decide +kernel, rfl, by decide +kernel, by decide +kernel⟩
abbrev N_common_root : List Str := ["one", "other", "root"]
theorem sc_common_root : FnScope N_common_root ["one", "other"] (defScope s_common_root) := ⟨rfl, rfl, rfl, by decide +kernel, rfl, by decide +kernel, by decide +kernel⟩
abbrev N_least_cuts : List Str := ["word", "found", "begin", "ahead", "back"]
theorem sc_least_cuts : FnScope N_least_cuts ["word"] (defScope s_least_cuts) := ⟨rfl, rfl, rfl, by decide +kernel, rfl, by decide +kernel, by decide +kernel⟩
abbrev N_least_turn : List Str := ["word", "turns", "shift"]
theorem sc_least_turn : FnScope N_least_turn ["word"] (defScope s_least_turn) := ⟨rfl, rfl, rfl, by decide +kernel, rfl, by decide +kernel, by decide +kernel⟩
abbrev N_is_least_of_ends : List Str := ["word", "begin"]
theorem sc_is_least_of_ends : FnScope N_is_least_of_ends ["word"] (defScope s_is_least_of_ends) := ⟨rfl, rfl, rfl, by decide +kernel, rfl, by decide +kernel, by decide +kernel⟩
abbrev N__law_hand : List Str := ["script", "cells", "cell"]
theorem sc__law_hand : FnScope N__law_hand ["script"] (defScope s__law_hand) := ⟨rfl, rfl, rfl, by decide +kernel, rfl, by decide +kernel, by decide +kernel⟩
abbrev N__law_draw : List Str := ["hand", "limit", "cell", "digit", "number"]
theorem sc__law_draw : FnScope N__law_draw ["hand", "limit"] (defScope s__law_draw) := ⟨rfl, rfl, rfl, by decide +kernel, rfl, by decide +kernel, by decide +kernel⟩
abbrev N__law_some : List Str := ["hand", "things"]
theorem sc__law_some : FnScope N__law_some ["hand", "things"] (defScope s__law_some) := ⟨rfl, rfl, rfl, by decide +kernel, rfl, by decide +kernel, by decide +kernel⟩
abbrev N__law_word : List Str := ["hand", "letters", "most", "turn"]
theorem sc__law_word : FnScope N__law_word ["hand", "letters", "most"] (defScope s__law_word) := ⟨rfl, rfl, rfl, by decide +kernel, rfl, by decide +kernel, by decide +kernel⟩
abbrev N__law_is : List Str := ["shown", "due", "one", "other"]
theorem sc__law_is : FnScope N__law_is ["shown", "due"] (defScope s__law_is) := ⟨rfl, rfl, rfl, by decide +kernel, rfl, by decide +kernel, by decide +kernel⟩
abbrev N__law_is_least : List Str := ["word", "begin"]
theorem sc__law_is_least : FnScope N__law_is_least ["word"] (defScope s__law_is_least) := ⟨rfl, rfl, rfl, by decide +kernel, rfl, by decide +kernel, by decide +kernel⟩
abbrev N__law_all_cuts : List Str := ["word", "found", "length", "rest"]
theorem sc__law_all_cuts : FnScope N__law_all_cuts ["word"] (defScope s__law_all_cuts) := ⟨rfl, rfl, rfl, by decide +kernel, rfl, by decide +kernel, by decide +kernel⟩
abbrev N__law_root : List Str := ["word", "part"]
theorem sc__law_root : FnScope N__law_root ["word"] (defScope s__law_root) := ⟨rfl, rfl, rfl, by decide +kernel, rfl, by decide +kernel, by decide +kernel⟩
abbrev N_law : List Str := ["script", "hand", "turn", "one", "two", "due", "roots", "word", "cuts", "turns", "shift"]
theorem sc_law : FnScope N_law ["script"] (defScope s_law) := ⟨rfl, rfl, rfl, by decide +kernel, rfl, by decide +kernel, by decide +kernel⟩
structure Txt (K : PySem.W.Frag) (mg : Str → Option Value) : Prop where
  n_str : mg "str" = none
  n_isinstance : mg "isinstance" = none
  n_len : mg "len" = none
  n_int : mg "int" = none
  n_sorted : mg "sorted" = none
  n_range : mg "range" = none
  n_min : mg "min" = none
  n_all : mg "all" = none
  n_abs : mg "abs" = none
  n_list : mg "list" = none
  n_tuple : mg "tuple" = none
  n_zip : mg "zip" = none
  n_bool : mg "bool" = none
  c_SIGNS : ∃ u, mg "SIGNS" = some u ∧ RelV (.str (S [97, 98, 99, 100])) u
  c_MOST_SIGNS : ∃ u, mg "MOST_SIGNS" = some u ∧ RelV (.int 300) u
/-- the hand at h: its cells at c -/
def HandAt (H : Hp) (h c : Addr) : Prop := ∃ (cs : List Int) (i z m t : Int), H h = some (.lst [.ref c, .int i, .int z, .int m, .int t]) ∧ H c = some (.lst (cs.map V.int)) ∧ (∀ x ∈ cs, 0 ≤ x) ∧ 0 ≤ i ∧ 0 ≤ z ∧ 0 ≤ m ∧ m < 2 ^ 31 ∧ 0 ≤ t
def sp__law_draw (_ : PySem.W.Frag) : Sp := fun vs H Q _ => ∃ (h c : Addr) (n : Int), vs = [.ref h, .int n] ∧ HandAt H h c ∧ 0 < n ∧ n < 1000000 ∧ ∀ (d : Int) (H' : Hp), 0 ≤ d → d < n → HandAt H' h c → ExB h H H' → Q (.int d) H'
def sp__law_some (_ : PySem.W.Frag) : Sp := fun vs H Q _ => ∃ (h c q : Addr) (l : List Nat), vs = [.ref h, .ref q] ∧ HandAt H h c ∧ H q = some (.lst (signs l)) ∧ q ≠ h ∧ 0 < l.length ∧ l.length < 1000 ∧ ∀ (d : Nat) (H' : Hp), d ∈ l → HandAt H' h c → ExB h H H' → Q (.str (S [d])) H'
def sp__law_hand (K : PySem.W.Frag) : Sp := fun vs H Q _ => ∃ (a : Addr) (ns : List Int), vs = [.ref a] ∧ SqL K H a (ns.map V.int) ∧ ∀ (h c : Addr) (H' : Hp), HandAt H' h c → Same H H' → Q (.ref h) H'
/-- a word over the first n letters -/
def Wd (n : Int) (l : List Nat) : Prop := ∀ c ∈ l, 97 ≤ c ∧ (c : Int) < 97 + n
def sp__law_word (_ : PySem.W.Frag) : Sp := fun vs H Q _ => ∃ (h c : Addr) (n m : Int), vs = [.ref h, .int n, .int m] ∧ HandAt H h c ∧ 1 ≤ n ∧ n ≤ 4 ∧ 0 ≤ m ∧ m ≤ 100 ∧ ∀ (l : List Nat) (H' : Hp), Wd n l → (l.length : Int) ≤ m → HandAt H' h c → ExB h H H' → Q (.str (S l)) H'

open Lyn (sg rootN)
def spUnit (P : List V → Prop) : Sp := fun vs H Q _ => P vs ∧ ∀ H', Same H H' → Q .non H'
def sp_check_word (_ : PySem.W.Frag) : Sp := fun vs H Q _ => ∃ (l : List Nat) (n m : Int), vs = [.str (S l), .int n, .int m] ∧ Wd n l ∧ 0 ≤ n ∧ n ≤ 4 ∧ (l.length : Int) ≤ m ∧ m ≤ 1000 ∧ ∀ H', Same H H' → Q .non H'
def sp_check_letters (_ : PySem.W.Frag) : Sp := fun vs H Q _ => ∃ (l : List Nat), vs = [.str (S l)] ∧ Wd 4 l ∧ l.length ≤ 300 ∧ ∀ H', Same H H' → Q .non H'
def sp_check_filled (_ : PySem.W.Frag) : Sp := fun vs H Q _ => ∃ (l : List Nat), vs = [.str (S l)] ∧ Wd 4 l ∧ l.length ≤ 300 ∧ l ≠ [] ∧ ∀ H', Same H H' → Q .non H'
/-- the lengths that border_lengths tells -/
def bLen (l : List Nat) : List Int := (List.range l.length).map fun k => ((Per.lb (sg l) (k + 1) : Nat) : Int)
def sp_border_lengths (_ : PySem.W.Frag) : Sp := fun vs H Q _ => ∃ (l : List Nat), vs = [.str (S l)] ∧ l ≠ [] ∧ l.length ≤ 300 ∧ ∀ p H', H p = none → Same H H' → H' p = some (.lst ((bLen l).map V.int)) → Q (.ref p) H'
def bordL (l : List Nat) : List Int := (Per.bl (sg l) l.length).map fun (b : Nat) => (b : Int)
def sp_borders (_ : PySem.W.Frag) : Sp := fun vs H Q _ => ∃ (l : List Nat), vs = [.str (S l)] ∧ Wd 4 l ∧ l.length ≤ 300 ∧ ∀ p H', H p = none → Same H H' → H' p = some (.lst ((bordL l).map V.int)) → Q (.ref p) H'
def perL (l : List Nat) : List Int := (Per.pl (sg l) l.length).map fun (b : Nat) => (b : Int)
def sp_periods (_ : PySem.W.Frag) : Sp := fun vs H Q _ => ∃ (l : List Nat), vs = [.str (S l)] ∧ Wd 4 l ∧ l.length ≤ 300 ∧ ∀ p H', H p = none → Same H H' → H' p = some (.lst ((perL l).map V.int)) → Q (.ref p) H'
def sp_root_of (_ : PySem.W.Frag) : Sp := fun vs H Q _ => ∃ (l : List Nat), vs = [.str (S l)] ∧ Wd 4 l ∧ l.length ≤ 300 ∧ l ≠ [] ∧ ∀ p H', H p = none → Same H H' → H' p = some (.tup [.str (S (l.take (rootN l))), .int ((l.length / rootN l : Nat) : Int)]) → Q (.ref p) H'
/-- border_lengths' list behind n signs -/
def bV (l : List Nat) (n : Nat) : List V := (List.range n).map fun k => V.int ((Per.lb (sg l) (k + 1) : Nat) : Int)
theorem bV_len (l : List Nat) (n : Nat) : (bV l n).length = n := by unfold bV; rw [List.length_map, List.length_range]
theorem bV_succ (l : List Nat) (n : Nat) : bV l (n + 1) = bV l n ++ [V.int ((Per.lb (sg l) (n + 1) : Nat) : Int)] := by unfold bV; rw [List.range_succ, List.map_append]; rfl
theorem bV_at (l : List Nat) {n k : Nat} (h : k < n) : (bV l n)[k]? = some (.int ((Per.lb (sg l) (k + 1) : Nat) : Int)) := by unfold bV; simp [h]
theorem bV_all (l : List Nat) : (bLen l).map V.int = bV l l.length := by unfold bLen bV; rw [List.map_map]; rfl
theorem sg_at {l : List Nat} {i : Nat} (h : i < l.length) : l[i]? = some (sg l i) := by unfold sg; simp [h]

/-- a value that is no container -/
def Leaf (x : V) : Prop := (∃ i : Int, x = .int i) ∨ (∃ b : Bool, x = .bl b) ∨ (∃ l : List Nat, x = .str (S l)) ∨ x = .non
def sp__law_is_leaf (_ : PySem.W.Frag) : Sp := fun vs H Q _ => ∃ x, vs = [x, x] ∧ Leaf x ∧ ∀ H', Same H H' → Q (.bl true) H'
def sp__law_is (_ : PySem.W.Frag) : Sp := fun vs H Q _ => ∃ x y, vs = [x, y] ∧ ((x = y ∧ Leaf x) ∨ ∃ (p q : Addr) (xs : List V), x = .ref p ∧ y = .ref q ∧ (∀ z ∈ xs, Leaf z) ∧ xs.length ≤ 50000 ∧ ((H p = some (.lst xs) ∧ H q = some (.lst xs)) ∨ (H p = some (.tup xs) ∧ H q = some (.tup xs)))) ∧ ∀ H', Same H H' → Q (.bl true) H'

/-- a list of texts at p -/
def TxsAt (H : Hp) (p : Addr) (ws : List (List Nat)) : Prop := H p = some (.lst (ws.map fun w => V.str (S w)))
def sp_do_commute (_ : PySem.W.Frag) : Sp := fun vs H Q _ => ∃ a b : List Nat, vs = [.str (S a), .str (S b)] ∧ Wd 4 a ∧ Wd 4 b ∧ a.length ≤ 300 ∧ b.length ≤ 300 ∧ ∀ H', Same H H' → Q (.bl (decide (a ++ b = b ++ a))) H'
def sp_common_root (_ : PySem.W.Frag) : Sp := fun vs H Q _ => ∃ a b : List Nat, vs = [.str (S a), .str (S b)] ∧ Wd 4 a ∧ Wd 4 b ∧ a.length ≤ 300 ∧ b.length ≤ 300 ∧ a ≠ [] ∧ b ≠ [] ∧ ∀ H', Same H H' → Q (if a.take (rootN a) = b.take (rootN b) then .str (S (a.take (rootN a))) else .non) H'
def sp_least_cuts (_ : PySem.W.Frag) : Sp := fun vs H Q _ => ∃ l : List Nat, vs = [.str (S l)] ∧ Wd 4 l ∧ l.length ≤ 300 ∧ ∀ p fs H', H p = none → Same H H' → TxsAt H' p fs → Lyn.Cut l 0 fs → Q (.ref p) H'
def turnsL (l : List Nat) : List (List Nat × Int) := (List.range (l.length - 1)).map fun i => (l.drop (1 + i) ++ l.take (1 + i), ((1 + i : Nat) : Int))
/-- the least turn and its shift -/
def ltv (l : List Nat) : List Nat × Int := minSI (l, 0) (turnsL l)
def sp_least_turn (_ : PySem.W.Frag) : Sp := fun vs H Q _ => ∃ l : List Nat, vs = [.str (S l)] ∧ Wd 4 l ∧ l.length ≤ 300 ∧ l ≠ [] ∧ ∀ t H', Same H H' → H' t = some (.tup [.str (S (ltv l).1), .int (ltv l).2]) → Q (.ref t) H'
def sp_is_least_of_ends (_ : PySem.W.Frag) : Sp := fun vs H Q _ => ∃ l : List Nat, vs = [.str (S l)] ∧ Wd 4 l ∧ l.length ≤ 300 ∧ l ≠ [] ∧ ∀ H', Same H H' → Q (.bl (Lyn.lyB l 0 l.length)) H'
def sp__law_is_least (_ : PySem.W.Frag) : Sp := fun vs H Q _ => ∃ l : List Nat, vs = [.str (S l)] ∧ l.length ≤ 300 ∧ ∀ H', Same H H' → Q (.bl (Lyn.lyB l 0 l.length)) H'
def sp__law_all_cuts (n : Nat) (_ : PySem.W.Frag) : Sp := fun vs H Q _ => ∃ l : List Nat, vs = [.str (S l)] ∧ Wd 4 l ∧ l.length < n ∧ n ≤ 300 ∧ ∀ p q fs H', H p = none → H q = none → Same H H' → H' p = some (.lst [.ref q]) → TxsAt H' q fs → Lyn.Cut l 0 fs → Q (.ref p) H'
/-- the lengths whose power is the word -/
def lrs (l : List Nat) : List Nat := ((List.range l.length).filter fun i => decide (repL (l.take (1 + i)) (l.length / (1 + i)) = l)).map fun i => 1 + i
def lroot (l : List Nat) : Nat := (lrs l).headD 0
def sp__law_root (_ : PySem.W.Frag) : Sp := fun vs H Q _ => ∃ l : List Nat, vs = [.str (S l)] ∧ l.length ≤ 300 ∧ l ≠ [] ∧ ∀ H', Same H H' → Q (.str (S (l.take (lroot l)))) H'
def sp_law (K : PySem.W.Frag) : Sp := fun vs H Q _ => ∃ (a : Addr) (ns : List Int), vs = [.ref a] ∧ SqL K H a (ns.map V.int) ∧ ∀ H', Q (.bl true) H'
end My
namespace My
open PySem PySem.Spec L2 SX
open PyProof.Rows hiding St
open Lyn (sg rootN)
local macro_rules | `(tactic| walk_at "kb") => `(tactic| first | exact kb_str_str | exact kb_str_int | exact kb_str_bool | exact kb_str_list | exact kb_str_tuple | exact kb_int_str | exact kb_int_int | exact kb_int_bool | exact kb_int_list | exact kb_int_tuple | exact kb_bool_str | exact kb_bool_int | exact kb_bool_bool | exact kb_bool_list | exact kb_bool_tuple | exact kb_list_str | exact kb_list_int | exact kb_list_bool | exact kb_list_list | exact kb_list_tuple | exact kb_tuple_str | exact kb_tuple_int | exact kb_tuple_bool | exact kb_tuple_list | exact kb_tuple_tuple | exact kb_NoneType_str | exact kb_NoneType_int | exact kb_NoneType_bool | exact kb_NoneType_list | exact kb_NoneType_tuple)
local macro_rules | `(tactic| walk_at "hp") => `(tactic| first | assumption | exact upd_same | (refine (upd_ne (by first | assumption | (apply Ne.symm; assumption))).trans ?_; walk_at "hp"))
local macro_rules | `(tactic| walk_at "sq") => `(tactic| first | assumption | exact SqL.of (by walk_at "hp"))
local macro_rules | `(tactic| walk_at "sqt") => `(tactic| first | assumption | exact SqT.of (by walk_at "hp"))
local macro_rules | `(tactic| walk_at "ar") => `(tactic| first | omega | (dsimp only; omega) | (unfold CMul; omega) | (unfold CDiv; omega) | (unfold CPow; refine ⟨?_, ?_, ?_⟩ <;> decide) | (simp only [List.length_cons, List.length_nil]; decide))
local macro_rules | `(tactic| walk_at "rd") => `(tactic| first
  | with_reducible refine rd_seq ?_
  | with_reducible refine rd_asg ?_
  | with_reducible refine rd_if ?_
  | with_reducible refine rd_ret ?_
  | with_reducible refine rd_drop ?_
  | with_reducible refine rd_name ?_
  | with_reducible refine rd_sub ?_
  | ((with_reducible refine' rd_var ?e ?_); (case e => exact rfl))
  | with_reducible refine rd_c ?_
  | with_reducible refine rd_op ?_
  | with_reducible refine rd_un ?_
  | with_reducible refine rd_I0 ?_
  | ((with_reducible refine' rd_I ?c ?_); (case c => walk_at "ar"))
  | with_reducible refine rd_U ?_
  | with_reducible refine rd_eqI ?_
  | with_reducible refine rd_neI ?_
  | with_reducible refine rd_eqS ?_
  | with_reducible refine rd_neS ?_
  | with_reducible refine rd_eqB ?_
  | with_reducible refine rd_neB ?_
  | with_reducible refine rd_test ?_
  | with_reducible refine rd_B ?_
  | with_reducible refine rd_and ?_
  | with_reducible refine rd_or ?_
  | with_reducible refine rd_not ?_
  | with_reducible refine rd_andV ?_
  | with_reducible refine rd_orV ?_
  | with_reducible refine rd_notV ?_
  | with_reducible refine rd_ifE ?_
  | with_reducible refine rd_isN ?_
  | with_reducible refine rd_notN ?_
  | with_reducible refine rd_cons ?_
  | with_reducible refine rd_nil ?_
  | with_reducible refine rd_lst ?_
  | with_reducible refine rd_tup ?_
  | with_reducible refine rd_CB ?_
  | with_reducible refine rd_call ?_
  | with_reducible refine rd_sl ?_
  | with_reducible refine rd_part ?_
  | with_reducible refine rd_nopart ?_
  | with_reducible refine rd_par ?_
  | with_reducible refine rd_two ?_
  | with_reducible refine rd_next ?_
  | with_reducible refine rd_retN ?_
  | with_reducible refine rd_bool ?_
  | with_reducible refine rd_int ?_
  | with_reducible refine rd_intI ?_
  | with_reducible refine rd_intB ?_
  | with_reducible refine rd_ltS ?_
  | with_reducible refine rd_leS ?_
  | with_reducible refine rd_gtS ?_
  | with_reducible refine rd_geS ?_
  | with_reducible refine rd_inC ?_
  | with_reducible refine rd_notInC ?_
  | with_reducible refine rd_abs ?_
  | with_reducible refine rd_max2 ?_
  | with_reducible refine rd_min2 ?_
  | with_reducible refine rd_M1 ?_
  | with_reducible refine rd_isStr ?_
  | ((with_reducible refine' rd_len ?b ?_); (case b => (simp only [List.length_cons, List.length_nil]; decide)))
  | ((with_reducible refine' rd_listS ?b ?_); (case b => first | (simp only [List.length_take, List.length_cons, List.length_nil]; omega) | omega))
  | ((with_reducible refine' rd_isi ?ty ?h ?_); (case ty => first | exact ty_str | exact ty_int | exact ty_bl | exact ty_non | exact ty_lst (by walk_at "hp") | exact ty_tup (by walk_at "hp")); (case h => walk_at "kb"))
  | with_reducible refine rd_lc ?_
  | with_reducible refine rd_for ?_
  | with_reducible refine rd_iList ?_
  | with_reducible refine rd_iTup ?_
  | with_reducible refine rd_iRng1 ?_
  | with_reducible refine rd_iRng2 ?_
  | with_reducible refine rd_iRng3 ?_
  | with_reducible refine rd_iStr ?_
  | with_reducible refine rd_qIs ?_
  | with_reducible refine rd_whb ?_
  | ((with_reducible refine' rd_qIl ?sq ?_); (case sq => walk_at "sq"))
  | ((with_reducible refine' rd_qItu ?sq ?_); (case sq => walk_at "sqt"))
  | ((with_reducible refine' rd_qIr1 ?b1 ?b2 ?_); (case b1 => walk_at "ar"); (case b2 => walk_at "ar"))
  | ((with_reducible refine' rd_qIr2 ?b1 ?b2 ?b3 ?b4 ?_); (case b1 => walk_at "ar"); (case b2 => walk_at "ar"); (case b3 => walk_at "ar"); (case b4 => walk_at "ar"))
  | ((with_reducible refine' rd_qIr3 ?b1 ?b2 ?b3 ?b4 ?_); (case b1 => walk_at "ar"); (case b2 => walk_at "ar"); (case b3 => walk_at "ar"); (case b4 => walk_at "ar"))
  | ((with_reducible refine' rd_mulS ?b1 ?b2 ?b3 ?_); (case b1 => walk_at "ar"); (case b2 => walk_at "ar"); (case b3 => walk_at "ar"))
  | ((with_reducible refine' rd_slS_to ?b1 ?b2 ?_); (case b1 => walk_at "ar"); (case b2 => walk_at "ar"))
  | ((with_reducible refine' rd_slS_from ?b1 ?b2 ?_); (case b1 => walk_at "ar"); (case b2 => walk_at "ar"))
  | ((with_reducible refine' rd_slS_mid ?b1 ?b2 ?b3 ?b4 ?_); (case b1 => walk_at "ar"); (case b2 => walk_at "ar"); (case b3 => walk_at "ar"); (case b4 => walk_at "ar"))
  | ((with_reducible refine' rd_slL ?sq ?_); (case sq => walk_at "sq"))
  | with_reducible refine rd_true ?_
  | with_reducible refine rd_false ?_
  | with_reducible refine rd_nt ?_
  | with_reducible refine rd_nf ?_
  | ((with_reducible refine' rd_decT ?h ?_); (case h => omega))
  | ((with_reducible refine' rd_decF ?h ?_); (case h => omega))
  | ((with_reducible refine' rd_ndecT ?h ?_); (case h => omega))
  | ((with_reducible refine' rd_ndecF ?h ?_); (case h => omega))
  | ((with_reducible refine' rd_evT ?h ?_); (case h => first | exact rfl | (simp; done)))
  | ((with_reducible refine' rd_evF ?h ?_); (case h => first | exact rfl | (simp; done)))
  | ((with_reducible refine' rd_ixL ?sq ?a1 ?_); (case sq => walk_at "sq"); (case a1 => first | exact rfl | exact at_of (by omega) (by assumption)))
  | ((with_reducible refine' rd_ixT ?sq ?a1 ?_); (case sq => walk_at "sqt"); (case a1 => first | exact rfl | exact at_of (by omega) (by assumption)))
  | ((with_reducible refine' rd_lenL ?sq ?_); (case sq => walk_at "sq"))
  | ((with_reducible refine' rd_lenT ?sq ?_); (case sq => walk_at "sqt"))
  | ((with_reducible refine' rd_setL ?h ?j ?_); (case h => walk_at "hp"); (case j => exact rfl); (with_reducible refine id ?_))
  | ((with_reducible refine' rd_strlen ?l ?_); (case l => walk_at "ar"))
  | ((with_reducible refine' rd_cat ?l ?_); (case l => walk_at "ar")))
local macro_rules | `(tactic| walk_at "go") => `(tactic| ((try dsimp only); (repeat (walk_at "rd"))))

section
variable {P : Program} {w : World} {K : PySem.W.Frag} {mg : Str → Option Value} {base : Heap}
theorem cells_ne {H : Hp} {h c : Addr} {cs : List Int} {i z m t : Int} (h1 : H h = some (.lst [.ref c, .int i, .int z, .int m, .int t])) (h2 : H c = some (.lst (cs.map V.int))) : c ≠ h := ne_of h2 h1 (by
    intro e
    have e2 := congrArg (fun o => match o with | HO.lst xs => xs.head? | _ => none) e
    cases cs <;> simp at e2)
theorem get_cell {cs : List Int} {i : Int} (h0 : 0 ≤ i) (h : i < (cs.map V.int).length) : ∃ x, x ∈ cs ∧ (cs.map V.int)[i.toNat]? = some (.int x) := by
  have hl : i.toNat < cs.length := by rw [List.length_map] at h; omega
  exact ⟨cs[i.toNat], List.getElem_mem hl, by simp [hl]⟩
theorem _root_.My.HandAt.ne {H : Hp} {h c p : Addr} (A : HandAt H h c) (n : H p = none) : p ≠ h := by
  obtain ⟨cs, i, z, m, t, h1, _⟩ := A
  exact (ne_of_none h1 n).symm
theorem _root_.My.HandAt.keep {H H' : Hp} {h c : Addr} (A : HandAt H h c) (e : Same H H') : HandAt H' h c := by
  obtain ⟨cs, i, z, m, t, h1, h2, r⟩ := A
  exact ⟨cs, i, z, m, t, e _ _ h1, e _ _ h2, r⟩
theorem _root_.My.HandAt.new {H : Hp} {h c p : Addr} {o : HO} (A : HandAt H h c) (n : H p = none) : HandAt (L2.upd H p o) h c := A.keep (Same.new n)
theorem _root_.My.ExB.back {h D : Addr} {H H' : Hp} (e : ExB h H H') (n : H' D = none) (hD : D ≠ h) : H D = none := by
  cases q : H D with
  | none => rfl
  | some o => rw [e _ _ hD q] at n; cases n
theorem _root_.My.HandAt.neC {H : Hp} {h c p : Addr} (A : HandAt H h c) (n : H p = none) : p ≠ c := by
  obtain ⟨cs, i, z, m, t, _, h1, _⟩ := A
  exact (ne_of_none h1 n).symm
theorem _root_.My.HandAt.upd {H : Hp} {h c D : Addr} {o : HO} (A : HandAt H h c) (hD : D ≠ h) (hc : D ≠ c) : HandAt (L2.upd H D o) h c := by
  obtain ⟨cs, i, z, m, t, h1, h2, r⟩ := A
  exact ⟨cs, i, z, m, t, by rw [upd_ne hD.symm]; exact h1, by rw [upd_ne hc.symm]; exact h2, r⟩
theorem ok__law_draw {f : Addr} {fd : FuncData} (F : Fun K "_law_draw" "_law_draw" s__law_draw f fd) (T : Txt K mg) : FnOk P w K mg base CX0 1 f fd ["hand", "limit"] (sp__law_draw K) := by
  refine F.ok sc__law_draw (fun vs H Q E h => by repeat (first | (obtain ⟨rfl, _⟩ := h; rfl) | obtain ⟨_, h⟩ := h)) (fun cdv A outer s H vs Q E hr h => ?_)
  refine ⟨_, (C8.pss_cut (ps_if (PW.pt (pw_and (pt_cmpR op_eq (pe_ix ix_list (pv 0) pe_int (fun _ _ => rfl)) pe_int (nomark _)) (pw_and1 (pt_cmpR op_lt (pe_ix ix_list (pv 0) pe_int (fun _ _ => rfl)) (pe_callB cq_len rfl T.n_len boot_len (pa_cons (pe_ix ix_list (pv 0) pe_int (fun _ _ => rfl)) pa_nil)) (nomark _))))) (pss_cons (ps_set (i := 2) sc__law_draw.nd rfl (Or.inl rfl) (pe_ix ix_list (pe_ix ix_list (pv 0) pe_int (fun _ _ => rfl)) (pe_ix ix_list (pv 0) pe_int (fun _ _ => rfl)) (fun _ _ => rfl)))
  (pss_cons (ps_asg (pe_op op_add (pe_ix ix_list (pv 0) pe_int (fun _ _ => rfl)) pe_int) (pg_sub (pv 0) pe_int set_list))
  (pss_cons (ps_asg (pe_op op_mod (pe_callTy cq_int rfl T.n_int boot_int (pa_cons (pe_op op_add (pe_op op_add (pe_op op_mul (pe_ix ix_list (pv 0) pe_int (fun _ _ => rfl)) pe_int) (pv 2)) pe_int) pa_nil)) pe_int) (pg_sub (pv 0) pe_int set_list))
  (pss_one (ps_if (pt_cmpR op_ge (pv 2) (pe_op op_pow pe_int pe_int) (nomark _)) (pss_one (ps_asg (pv 2) (pg_sub (pv 0) pe_int set_list))) pss_nil))))) pss_nil)
  (pss_cons (ps_if (pt_cmpR op_gt (pe_ix ix_list (pv 0) pe_int (fun _ _ => rfl)) pe_int (nomark _)) (pss_cons (ps_set (i := 3) sc__law_draw.nd rfl (Or.inl rfl) (pe_op op_mod (pe_callTy cq_int rfl T.n_int boot_int (pa_cons (pe_ix ix_list (pv 0) pe_int (fun _ _ => rfl)) pa_nil)) (pv 1)))
  (pss_cons (ps_asg (pe_op op_fdiv (pe_ix ix_list (pv 0) pe_int (fun _ _ => rfl)) (pv 1)) (pg_sub (pv 0) pe_int set_list))
  (pss_one (ps_ret (pv 3))))) pss_nil)
  (pss_cons (ps_asg (pe_op op_add (pe_ix ix_list (pv 0) pe_int (fun _ _ => rfl)) pe_int) (pg_sub (pv 0) pe_int set_list))
  (pss_cons (ps_set (i := 4) sc__law_draw.nd rfl (Or.inl rfl) (pe_op op_mod (pe_callTy cq_int rfl T.n_int boot_int (pa_cons (pe_op op_mul (pe_callTy cq_int rfl T.n_int boot_int (pa_cons (pe_op op_add (pe_ix ix_list (pv 0) pe_int (fun _ _ => rfl)) (pe_op op_mul pe_int (pe_ix ix_list (pv 0) pe_int (fun _ _ => rfl)))) pa_nil)) pe_int) pa_nil)) pe_int))
  (pss_cons (ps_set (i := 4) sc__law_draw.nd rfl (Or.inl rfl) (pe_op op_mod (pe_callTy cq_int rfl T.n_int boot_int (pa_cons (pe_op op_mul (pv 4) (pe_op op_add (pe_op op_fdiv (pv 4) pe_int) pe_int)) pa_nil)) pe_int))
  (pss_cons (ps_set (i := 4) sc__law_draw.nd rfl (Or.inl rfl) (pe_op op_mod (pe_callTy cq_int rfl T.n_int boot_int (pa_cons (pe_op op_mul (pv 4) (pe_op op_add (pe_op op_fdiv (pv 4) pe_int) pe_int)) pa_nil)) pe_int))
  (pss_one (ps_ret (pe_op op_mod (pe_callTy cq_int rfl T.n_int boot_int (pa_cons (pe_op op_fdiv (pv 4) pe_int) pa_nil)) (pv 1)))))))))), ?_⟩
  try dsimp only [cxOf, Cx.nox, Cx.wish]
  obtain ⟨h, c, n, rfl, HA, hn, hn2, k⟩ := h
  refine ⟨fun σ' H' => ∃ v, σ' = [some (.ref h), some (.int n), v, none, none] ∧ HandAt H' h c ∧ ExB h H H', ?_, ?_⟩
  · obtain ⟨cs, i, z, m, t, h1, h2, hcs, hi, hz, hm, hm2, ht⟩ := id HA
    have hc := cells_ne h1 h2
    walk_at "go"

    refine rd_dec (fun e1 => ?_) (fun e1 => ?_)
    · walk_at "go"
      refine rd_dec (fun e2 => ?_) (fun e2 => ?_)
      · obtain ⟨x, hx, e3⟩ := get_cell hi e2
        have hx0 := hcs x hx
        walk_at "go"
        refine rd_dec (fun e4 => ?_) (fun e4 => ?_)
        · walk_at "go"
          simp only [upd_upd]
          refine ⟨_, rfl, ⟨cs, i + 1, x, _, t, upd_same, (by walk_at "hp"), hcs, by omega, hx0, Int.emod_nonneg _ (by decide), ?_, ht⟩, ExB.upd⟩
          have := Int.emod_lt_of_pos (m * 69621 + x + 29) (show (0 : Int) < 2147483629 by decide)
          omega
        · walk_at "go"
          simp only [upd_upd]
          refine ⟨_, rfl, ⟨cs, i + 1, z, _, t, upd_same, (by walk_at "hp"), hcs, by omega, hz, Int.emod_nonneg _ (by decide), ?_, ht⟩, ExB.upd⟩
          have := Int.emod_lt_of_pos (m * 69621 + x + 29) (show (0 : Int) < 2147483629 by decide)
          omega
      · walk_at "go"
        exact ⟨_, rfl, HA, ExB.refl _ _⟩
    · walk_at "go"
      exact ⟨_, rfl, HA, ExB.refl _ _⟩
  · rintro σ' H1 ⟨v, rfl, HA1, X1⟩
    obtain ⟨cs, i, z, m, t, h1, h2, hcs, hi, hz, hm, hm2, ht⟩ := HA1
    have hc := cells_ne h1 h2
    walk_at "go"
    refine rd_dec (fun e1 => ?_) (fun e1 => ?_)
    · walk_at "go"
      refine k _ _ (Int.emod_nonneg _ (by omega)) (Int.emod_lt_of_pos _ hn) ⟨cs, i, _, m, t, upd_same, (by walk_at "hp"), hcs, hi, Int.ediv_nonneg hz (by omega), hm, hm2, ht⟩ (X1.trans ExB.upd)
    · walk_at "go"
      exact k _ _ (Int.emod_nonneg _ (by omega)) (Int.emod_lt_of_pos _ hn) ⟨cs, i, z, m, t + 1, upd_same, (by walk_at "hp"), hcs, hi, hz, hm, hm2, by omega⟩ (X1.trans ExB.upd)
theorem ok__law_some {f : Addr} {fd : FuncData} (F : Fun K "_law_some" "_law_some" s__law_some f fd) (T : Txt K mg) (C__law_draw : Cal P w K mg base 1 "_law_draw" (sp__law_draw K)) : FnOk P w K mg base CX0 2 f fd ["hand", "things"] (sp__law_some K) := by
  refine F.ok sc__law_some (fun vs H Q E h => by repeat (first | (obtain ⟨rfl, _⟩ := h; rfl) | obtain ⟨_, h⟩ := h)) (fun cdv A outer s H vs Q E hr h => ?_)
  refine ⟨_, (pss_one (ps_ret (pe_ix ix_list (pv 1) (pe_c C__law_draw hr (by decide) rfl (pa_cons (pv 0) (pa_cons (pe_callB cq_len rfl T.n_len boot_len (pa_cons (pv 1) pa_nil)) pa_nil))) (fun _ _ => rfl)))), ?_⟩
  try dsimp only [cxOf, Cx.nox, Cx.wish]
  obtain ⟨h, c, q, l, rfl, HA, hq, hql, hl0, hl1, k⟩ := h
  walk_at "go"
  have hsl : (signs l).length = l.length := List.length_map _
  refine ⟨h, c, _, rfl, HA, by omega, by omega, fun d H1 h0 h1 HA1 X1 => ?_⟩
  rw [hsl] at h1
  have hd : d.toNat < l.length := by omega
  refine rd_ixL (v := .str (S [l[d.toNat]])) (SqL.of (X1 _ _ hql hq)) (at_of h0 (by unfold signs; simp [hd])) ?_
  exact k _ _ (List.getElem_mem hd) HA1 X1
theorem ok__law_hand {f : Addr} {fd : FuncData} (F : Fun K "_law_hand" "_law_hand" s__law_hand f fd) (T : Txt K mg) : FnOk P w K mg base CX0 1 f fd ["script"] (sp__law_hand K) := by
  refine F.ok sc__law_hand (fun vs H Q E h => by repeat (first | (obtain ⟨rfl, _⟩ := h; rfl) | obtain ⟨_, h⟩ := h)) (fun cdv A outer s H vs Q E hr h => ?_)
  refine ⟨_, (pss_cons (ps_setLc (i := 1) (own := [("cell", 2)]) rfl sc__law_hand.nd rfl rfl (sw_true rfl rfl rfl (by decide +kernel)) (pi_list (pe_slice sl_list (pv 0) po_none (po_some pe_int))) (blkOk_by (N := N__law_hand) (sc := defScope s__law_hand) (by decide +kernel)) (fun _ _ _ _ _ => (pg_name (i := 2) sc__law_hand.nd rfl (Or.inl rfl))) (fun _ _ _ _ _ => pts_nil) (fun _ _ _ _ _ => (pe_callB cq_abs rfl T.n_abs boot_abs (pa_cons (pe_callTy cq_int rfl T.n_int boot_int (pa_cons (pv 2) pa_nil)) pa_nil))))
  (pss_one (ps_ret (pe_lst (pa_cons (pv 1) (pa_cons pe_int (pa_cons pe_int (pa_cons (pe_op op_add pe_int (pe_op op_mul pe_int (pe_callB cq_len rfl T.n_len boot_len (pa_cons (pv 1) pa_nil)))) (pa_cons pe_int pa_nil))))))))), ?_⟩
  try dsimp only [cxOf, Cx.nox, Cx.wish]
  obtain ⟨a, ns, rfl, hq, k⟩ := h
  walk_at "go"
  intro p1 n1
  rw [cutV_to (by decide), ← List.map_take]
  walk_at "go"
  refine lcL _ V.int (SqL.of upd_same) (fun _ => true) (fun x => .int (if x < 0 then -x else x)) (by rw [List.length_take]; have := (show ((63 : Int).toNat) = 63 from rfl); omega) (fun _ => rfl) (fun _ _ => pt_yes) (fun y hy _ H2 s2 Q2 q2 => ?_) (fun D H2 nD s2 hD => ?_)
  · walk_at "go"
    exact q2 _ (Same.refl _)
  · rw [filter_yes] at hD
    walk_at "go"
    intro p2 n2
    have e0 : Same H (upd H2 p2 (.lst [V.ref D, V.int 0, V.int 0, V.int (83 + 7 * ((List.map (fun x => V.int (if x < 0 then -x else x)) (List.take (Int.toNat 63) ns)).length : Nat)), V.int 0])) := fun b o e => by
      rw [upd_ne (ne_of_none (s2 _ _ (Same.new n1 _ _ e)) n2)]
      exact s2 _ _ (Same.new n1 _ _ e)
    refine k p2 D _ ⟨(List.take (Int.toNat 63) ns).map fun x => if x < 0 then -x else x, 0, 0, _, 0, upd_same, ?_, ?_, by omega, by omega, by omega, ?_, by omega⟩ e0
    · rw [upd_ne (ne_of_none hD n2), hD, List.map_map]
      rfl
    · intro x hx
      obtain ⟨y, _, rfl⟩ := List.mem_map.mp hx
      show 0 ≤ if y < 0 then -y else y
      split <;> omega
    · rw [List.length_map, List.length_take]
      have : Int.toNat 63 = 63 := rfl
      omega
theorem ok__law_word {f : Addr} {fd : FuncData} (F : Fun K "_law_word" "_law_word" s__law_word f fd) (T : Txt K mg) (C__law_draw : Cal P w K mg base 1 "_law_draw" (sp__law_draw K)) (C__law_some : Cal P w K mg base 2 "_law_some" (sp__law_some K)) : FnOk P w K mg base CX0 3 f fd ["hand", "letters", "most"] (sp__law_word K) := by
  refine F.ok sc__law_word (fun vs H Q E h => by repeat (first | (obtain ⟨rfl, _⟩ := h; rfl) | obtain ⟨_, h⟩ := h)) (fun cdv A outer s H vs Q E hr h => ?_)
  refine ⟨_, (pss_one (ps_ret (pe_joinE (pe_strS [] rfl) (pe_lc (own := [("turn", 3)]) rfl sc__law_word.nd (pi_range1 rfl T.n_range (pa_cons (pe_c C__law_draw hr (by decide) rfl (pa_cons (pv 0) (pa_cons (pe_op op_add (pv 2) pe_int) pa_nil))) pa_nil)) (blkOk_by (N := N__law_word) (sc := defScope s__law_word) (by decide +kernel)) (fun _ _ _ _ _ => (pg_name (i := 3) sc__law_word.nd rfl (Or.inl rfl))) (fun _ _ _ _ _ => pts_nil) (fun _ _ _ _ _ => (pe_c C__law_some hr (by decide) rfl (pa_cons (pv 0) (pa_cons (pe_callTy (call_listS rfl) rfl T.n_list boot_list (pa_cons (pe_slice C8.sl_txt (pe_strS [97, 98, 99, 100] rfl) po_none (po_some (pv 1))) pa_nil)) pa_nil)))))))), ?_⟩
  try dsimp only [cxOf, Cx.nox, Cx.wish]
  obtain ⟨h, c, n, m, rfl, HA, n1, n4, m0, m1, k⟩ := h
  walk_at "go"
  refine ⟨h, c, _, rfl, HA, by omega, by omega, fun d H1 d0 d1 HA1 X1 => ?_⟩
  walk_at "go"
  refine lcR_inv (fun D i acc H' => D ≠ h ∧ D ≠ c ∧ ∃ l : List Nat, acc = signs l ∧ Wd n l ∧ HandAt H' h c ∧ ExB h H H') ?_ ?_ (fun D nD => ?_) (fun D i acc H2 Q2 hi nD hl p hD q2 => ?_) (fun D acc H2 nD hl p hD => ?_)
  · omega
  · intro _; rfl
  · exact ⟨HA1.ne nD, HA1.neC nD, [], rfl, (fun x hx => by cases hx), HA1.new nD, X1.mut (X1.back nD (HA1.ne nD))⟩
  · obtain ⟨hDh, hDc, l, rfl, hw, HA2, X2⟩ := p
    walk_at "go"
    intro p3 n3
    walk_at "go"
    have hlen : (List.take n.toNat [97, 98, 99, 100]).length = n.toNat := by simp only [List.length_take, List.length_cons, List.length_nil]; omega
    refine ⟨h, c, p3, _, rfl, HA2.new n3, upd_same, HA2.ne n3, by omega, by omega, fun e H3 he HA3 X3 => ?_⟩
    have hDp : D ≠ p3 := ne_of_none hD n3
    have hD3 : H3 D = some (.lst (signs l)) := X3 _ _ hDh (by rw [upd_ne hDp]; exact hD)
    refine q2 _ _ hD3 ⟨hDh, hDc, l ++ [e], by unfold signs; rw [List.map_append]; rfl, ?_, HA3.upd hDh hDc, ?_⟩
    · intro x hx
      rcases List.mem_append.mp hx with hx | hx
      · exact hw x hx
      · have hx2 : x = e := by simpa using hx
        subst hx2
        obtain ⟨k, hk, e2⟩ := List.mem_iff_getElem.mp he
        rw [hlen] at hk
        simp only [List.getElem_take] at e2
        have : k = 0 ∨ k = 1 ∨ k = 2 ∨ k = 3 := by omega
        rcases this with rfl | rfl | rfl | rfl <;> (simp at e2; omega)
    · exact (X2.trans ((ExB.new n3).trans X3)).mut (X1.back nD hDh)
  · obtain ⟨hDh, hDc, l, rfl, hw, HA2, X2⟩ := p
    have hl2 : l.length = d.toNat := by unfold signs at hl; rwa [List.length_map] at hl
    refine rd_joinC (SqL.of hD) (by omega) ?_
    exact k l _ hw (by omega) HA2 X2

end
end My
namespace My
open PySem PySem.Spec L2 SX
open PyProof.Rows hiding St
open Lyn (sg rootN)
local macro_rules | `(tactic| walk_at "kb") => `(tactic| first | exact kb_str_str | exact kb_str_int | exact kb_str_bool | exact kb_str_list | exact kb_str_tuple | exact kb_int_str | exact kb_int_int | exact kb_int_bool | exact kb_int_list | exact kb_int_tuple | exact kb_bool_str | exact kb_bool_int | exact kb_bool_bool | exact kb_bool_list | exact kb_bool_tuple | exact kb_list_str | exact kb_list_int | exact kb_list_bool | exact kb_list_list | exact kb_list_tuple | exact kb_tuple_str | exact kb_tuple_int | exact kb_tuple_bool | exact kb_tuple_list | exact kb_tuple_tuple | exact kb_NoneType_str | exact kb_NoneType_int | exact kb_NoneType_bool | exact kb_NoneType_list | exact kb_NoneType_tuple)
local macro_rules | `(tactic| walk_at "hp") => `(tactic| first | assumption | exact upd_same | (refine (upd_ne (by first | assumption | (apply Ne.symm; assumption))).trans ?_; walk_at "hp"))
local macro_rules | `(tactic| walk_at "sq") => `(tactic| first | assumption | exact SqL.of (by walk_at "hp"))
local macro_rules | `(tactic| walk_at "sqt") => `(tactic| first | assumption | exact SqT.of (by walk_at "hp"))
local macro_rules | `(tactic| walk_at "ar") => `(tactic| first | omega | (dsimp only; omega) | (unfold CMul; omega) | (unfold CDiv; omega) | (unfold CPow; refine ⟨?_, ?_, ?_⟩ <;> decide) | (simp only [List.length_cons, List.length_nil]; decide))
local macro_rules | `(tactic| walk_at "rd") => `(tactic| first
  | with_reducible refine rd_seq ?_
  | with_reducible refine rd_asg ?_
  | with_reducible refine rd_if ?_
  | with_reducible refine rd_ret ?_
  | with_reducible refine rd_drop ?_
  | with_reducible refine rd_name ?_
  | with_reducible refine rd_sub ?_
  | ((with_reducible refine' rd_var ?e ?_); (case e => exact rfl))
  | with_reducible refine rd_c ?_
  | with_reducible refine rd_op ?_
  | with_reducible refine rd_un ?_
  | with_reducible refine rd_I0 ?_
  | ((with_reducible refine' rd_I ?c ?_); (case c => walk_at "ar"))
  | with_reducible refine rd_U ?_
  | with_reducible refine rd_eqI ?_
  | with_reducible refine rd_neI ?_
  | with_reducible refine rd_eqS ?_
  | with_reducible refine rd_neS ?_
  | with_reducible refine rd_eqB ?_
  | with_reducible refine rd_neB ?_
  | with_reducible refine rd_test ?_
  | with_reducible refine rd_B ?_
  | with_reducible refine rd_and ?_
  | with_reducible refine rd_or ?_
  | with_reducible refine rd_not ?_
  | with_reducible refine rd_andV ?_
  | with_reducible refine rd_orV ?_
  | with_reducible refine rd_notV ?_
  | with_reducible refine rd_ifE ?_
  | with_reducible refine rd_isN ?_
  | with_reducible refine rd_notN ?_
  | with_reducible refine rd_cons ?_
  | with_reducible refine rd_nil ?_
  | with_reducible refine rd_lst ?_
  | with_reducible refine rd_tup ?_
  | with_reducible refine rd_CB ?_
  | with_reducible refine rd_call ?_
  | with_reducible refine rd_sl ?_
  | with_reducible refine rd_part ?_
  | with_reducible refine rd_nopart ?_
  | with_reducible refine rd_par ?_
  | with_reducible refine rd_two ?_
  | with_reducible refine rd_next ?_
  | with_reducible refine rd_retN ?_
  | with_reducible refine rd_bool ?_
  | with_reducible refine rd_int ?_
  | with_reducible refine rd_intI ?_
  | with_reducible refine rd_intB ?_
  | with_reducible refine rd_ltS ?_
  | with_reducible refine rd_leS ?_
  | with_reducible refine rd_gtS ?_
  | with_reducible refine rd_geS ?_
  | with_reducible refine rd_inC ?_
  | with_reducible refine rd_notInC ?_
  | with_reducible refine rd_abs ?_
  | with_reducible refine rd_max2 ?_
  | with_reducible refine rd_min2 ?_
  | with_reducible refine rd_M1 ?_
  | with_reducible refine rd_isStr ?_
  | ((with_reducible refine' rd_len ?b ?_); (case b => (simp only [List.length_cons, List.length_nil]; decide)))
  | ((with_reducible refine' rd_listS ?b ?_); (case b => first | (simp only [List.length_take, List.length_cons, List.length_nil]; omega) | omega))
  | ((with_reducible refine' rd_isi ?ty ?h ?_); (case ty => first | exact ty_str | exact ty_int | exact ty_bl | exact ty_non | exact ty_lst (by walk_at "hp") | exact ty_tup (by walk_at "hp")); (case h => walk_at "kb"))
  | with_reducible refine rd_lc ?_
  | with_reducible refine rd_for ?_
  | with_reducible refine rd_iList ?_
  | with_reducible refine rd_iTup ?_
  | with_reducible refine rd_iRng1 ?_
  | with_reducible refine rd_iRng2 ?_
  | with_reducible refine rd_iRng3 ?_
  | with_reducible refine rd_iStr ?_
  | with_reducible refine rd_qIs ?_
  | with_reducible refine rd_whb ?_
  | ((with_reducible refine' rd_qIl ?sq ?_); (case sq => walk_at "sq"))
  | ((with_reducible refine' rd_qItu ?sq ?_); (case sq => walk_at "sqt"))
  | ((with_reducible refine' rd_qIr1 ?b1 ?b2 ?_); (case b1 => walk_at "ar"); (case b2 => walk_at "ar"))
  | ((with_reducible refine' rd_qIr2 ?b1 ?b2 ?b3 ?b4 ?_); (case b1 => walk_at "ar"); (case b2 => walk_at "ar"); (case b3 => walk_at "ar"); (case b4 => walk_at "ar"))
  | ((with_reducible refine' rd_qIr3 ?b1 ?b2 ?b3 ?b4 ?_); (case b1 => walk_at "ar"); (case b2 => walk_at "ar"); (case b3 => walk_at "ar"); (case b4 => walk_at "ar"))
  | ((with_reducible refine' rd_mulS ?b1 ?b2 ?b3 ?_); (case b1 => walk_at "ar"); (case b2 => walk_at "ar"); (case b3 => walk_at "ar"))
  | ((with_reducible refine' rd_slS_to ?b1 ?b2 ?_); (case b1 => walk_at "ar"); (case b2 => walk_at "ar"))
  | ((with_reducible refine' rd_slS_from ?b1 ?b2 ?_); (case b1 => walk_at "ar"); (case b2 => walk_at "ar"))
  | ((with_reducible refine' rd_slS_mid ?b1 ?b2 ?b3 ?b4 ?_); (case b1 => walk_at "ar"); (case b2 => walk_at "ar"); (case b3 => walk_at "ar"); (case b4 => walk_at "ar"))
  | ((with_reducible refine' rd_slL ?sq ?_); (case sq => walk_at "sq"))
  | with_reducible refine rd_true ?_
  | with_reducible refine rd_false ?_
  | with_reducible refine rd_nt ?_
  | with_reducible refine rd_nf ?_
  | ((with_reducible refine' rd_decT ?h ?_); (case h => omega))
  | ((with_reducible refine' rd_decF ?h ?_); (case h => omega))
  | ((with_reducible refine' rd_ndecT ?h ?_); (case h => omega))
  | ((with_reducible refine' rd_ndecF ?h ?_); (case h => omega))
  | ((with_reducible refine' rd_evT ?h ?_); (case h => first | exact rfl | (simp; done)))
  | ((with_reducible refine' rd_evF ?h ?_); (case h => first | exact rfl | (simp; done)))
  | ((with_reducible refine' rd_ixL ?sq ?a1 ?_); (case sq => walk_at "sq"); (case a1 => first | exact rfl | exact at_of (by omega) (by assumption)))
  | ((with_reducible refine' rd_ixT ?sq ?a1 ?_); (case sq => walk_at "sqt"); (case a1 => first | exact rfl | exact at_of (by omega) (by assumption)))
  | ((with_reducible refine' rd_lenL ?sq ?_); (case sq => walk_at "sq"))
  | ((with_reducible refine' rd_lenT ?sq ?_); (case sq => walk_at "sqt"))
  | ((with_reducible refine' rd_setL ?h ?j ?_); (case h => walk_at "hp"); (case j => exact rfl); (with_reducible refine id ?_))
  | ((with_reducible refine' rd_strlen ?l ?_); (case l => walk_at "ar"))
  | ((with_reducible refine' rd_cat ?l ?_); (case l => walk_at "ar")))
local macro_rules | `(tactic| walk_at "go") => `(tactic| ((try dsimp only); (repeat (walk_at "rd"))))

section
variable {P : Program} {w : World} {K : PySem.W.Frag} {mg : Str → Option Value} {base : Heap}
theorem ok_check_word {f : Addr} {fd : FuncData} (F : Fun K "check_word" "check_word" s_check_word f fd) (T : Txt K mg) : FnOk P w K mg base CX0 1 f fd ["word", "letters", "most"] (sp_check_word K) := by
  refine F.ok sc_check_word (fun vs H Q E h => by repeat (first | (obtain ⟨rfl, _⟩ := h; rfl) | obtain ⟨_, h⟩ := h)) (fun cdv A outer s H vs Q E hr h => ?_)
  refine ⟨_, (pss_one (ps_if (PW.pt (pw_or (pt_not (pt_val (pe_callB call_isi rfl T.n_isinstance boot_isinstance (pa_cons (pv 0) (pa_cons (pe_bltn (v := .ty "str") rfl T.n_str boot_str rfl) pa_nil))))) (pw_or (pt_cmpR op_gt (pe_callB cq_lenS rfl T.n_len boot_len (pa_cons (pv 0) pa_nil)) (pv 2) (nomark _)) (pw_or1 (pt_cmpR (op_neD hr.units) (pe_lc (own := [("one", 3)]) rfl sc_check_word.nd (pi_str (pv 0)) (blkOk_by (N := N_check_word) (sc := defScope s_check_word) (by decide +kernel)) (fun _ _ _ _ _ => (pg_name (i := 3) sc_check_word.nd rfl (Or.inl rfl))) (fun _ _ _ _ _ => (pts_one (pt_cmpR oq_notInC (pv 3) (pe_slice C8.sl_txt (C8.pe_gc rfl T.c_SIGNS) po_none (po_some (pv 1))) rfl))) (fun _ _ _ _ _ => (pv 3))) (pe_lst pa_nil) (nomark _)))))) (pss_one ps_never) pss_nil)), ?_⟩
  try dsimp only [cxOf, Cx.nox, Cx.wish]
  obtain ⟨l, n, m, rfl, hw, n0, n4, hl, hm, k⟩ := h
  walk_at "go"
  refine lcS (fun c => !decide (c ∈ [97, 98, 99, 100].take n.toNat)) (fun c => .str (S [c])) (by omega) (fun _ => rfl) (fun y hy H1 s1 Q1 q1 => ?_) (fun y hy _ H1 s1 Q1 q1 => ?_) (fun D H1 nD s1 hD => ?_)
  · walk_at "go"
    exact q1 _ (Same.refl _)
  · walk_at "go"
    exact q1 _ (Same.refl _)
  · have e : l.filter (fun c => !decide (c ∈ [97, 98, 99, 100].take n.toNat)) = [] := by
      rw [List.filter_eq_nil_iff]
      intro c hc
      have := hw c hc
      have h3 : n.toNat = 0 ∨ n.toNat = 1 ∨ n.toNat = 2 ∨ n.toNat = 3 ∨ n.toNat = 4 := by omega
      have h4 : c ∈ List.take n.toNat [97, 98, 99, 100] := by
        rcases h3 with h3 | h3 | h3 | h3 | h3 <;> rw [h3] <;> simp <;> omega
      simp [h4]
    rw [e] at hD
    walk_at "go"
    intro p2 n2
    refine rd_neLI (ns := []) (ms := []) (SqL.of ?_) (SqL.of upd_same) ?_
    · rw [upd_ne (ne_of_none hD n2)]
      exact hD
    walk_at "go"
    exact k _ fun b o e => by
      rw [upd_ne (ne_of_none (s1 b o e) n2)]
      exact s1 b o e
theorem ok_check_letters {f : Addr} {fd : FuncData} (F : Fun K "check_letters" "check_letters" s_check_letters f fd) (T : Txt K mg) (C_check_word : Cal P w K mg base 1 "check_word" (sp_check_word K)) : FnOk P w K mg base CX0 2 f fd ["word"] (sp_check_letters K) := by
  refine F.ok sc_check_letters (fun vs H Q E h => by repeat (first | (obtain ⟨rfl, _⟩ := h; rfl) | obtain ⟨_, h⟩ := h)) (fun cdv A outer s H vs Q E hr h => ?_)
  refine ⟨_, (pss_one (ps_expr (pe_c C_check_word hr (by decide) rfl (pa_cons (pv 0) (pa_cons (pe_callB cq_lenS rfl T.n_len boot_len (pa_cons (C8.pe_gc rfl T.c_SIGNS) pa_nil)) (pa_cons (C8.pe_gc rfl T.c_MOST_SIGNS) pa_nil)))))), ?_⟩
  try dsimp only [cxOf, Cx.nox, Cx.wish]
  obtain ⟨l, rfl, hw, hl, k⟩ := h
  walk_at "go"
  refine ⟨l, _, _, rfl, hw, by decide, by decide, by omega, by decide, fun H1 s1 => ?_⟩
  walk_at "go"
  exact k _ s1
theorem ok_check_filled {f : Addr} {fd : FuncData} (F : Fun K "check_filled" "check_filled" s_check_filled f fd) (T : Txt K mg) (C_check_letters : Cal P w K mg base 2 "check_letters" (sp_check_letters K)) : FnOk P w K mg base CX0 3 f fd ["word"] (sp_check_filled K) := by
  refine F.ok sc_check_filled (fun vs H Q E h => by repeat (first | (obtain ⟨rfl, _⟩ := h; rfl) | obtain ⟨_, h⟩ := h)) (fun cdv A outer s H vs Q E hr h => ?_)
  refine ⟨_, (pss_cons (ps_expr (pe_c C_check_letters hr (by decide) rfl (pa_cons (pv 0) pa_nil)))
  (pss_one (ps_if (pt_cmpR op_eq (pv 0) (pe_strS [] rfl) (nomark _)) (pss_one ps_never) pss_nil))), ?_⟩
  try dsimp only [cxOf, Cx.nox, Cx.wish]
  obtain ⟨l, rfl, hw, hl, hne, k⟩ := h
  walk_at "go"
  refine ⟨l, rfl, hw, hl, fun H1 s1 => ?_⟩
  walk_at "go"
  refine rd_decF hne ?_
  walk_at "go"
  exact k _ s1
theorem ok_border_lengths {f : Addr} {fd : FuncData} (F : Fun K "border_lengths" "border_lengths" s_border_lengths f fd) (T : Txt K mg) : FnOk P w K mg base CX0 1 f fd ["word"] (sp_border_lengths K) := by
  refine F.ok sc_border_lengths (fun vs H Q E h => by repeat (first | (obtain ⟨rfl, _⟩ := h; rfl) | obtain ⟨_, h⟩ := h)) (fun cdv A outer s H vs Q E hr h => ?_)
  refine ⟨_, (pss_cons (ps_set (i := 1) sc_border_lengths.nd rfl (Or.inl rfl) (pe_lst (pa_cons pe_int pa_nil)))
  (pss_cons (ps_for PassesOwn.never rfl (pi_str (pe_slice C8.sl_txt (pv 0) (po_some pe_int) po_none)) (pg_name (i := 2) sc_border_lengths.nd rfl (Or.inl rfl))
  (pss_cons (ps_set (i := 3) sc_border_lengths.nd rfl (Or.inl rfl) (pe_ix ix_list (pv 1) (pe_un un_neg pe_int) (fun _ _ => rfl)))
  (pss_cons (ps_while PassesOwn.never (PW.pt (pw_and (pt_cmpR op_gt (pv 3) pe_int (nomark _)) (pw_and1 (pt_cmpR op_ne (pe_ix ix_str (pv 0) (pv 3) (fun _ _ => rfl)) (pv 2) (nomark _))))) (pss_one (ps_set (i := 3) sc_border_lengths.nd rfl (Or.inl rfl) (pe_ix ix_list (pv 1) (pe_op op_sub (pv 3) pe_int) (fun _ _ => rfl)))))
  (pss_one (ps_expr (pe_bm PySem.F.plainAttrs_list PySem.F.slot_list_append PySem.F.type_list_append mt_append (pv 1) (pa_cons (pe_op op_add (pv 3) (pe_callTy cq_int rfl T.n_int boot_int (pa_cons (pe_cmpR op_eq (pe_ix ix_str (pv 0) (pv 3) (fun _ _ => rfl)) (pv 2) (nomark _)) pa_nil))) pa_nil)))))))
  (pss_one (ps_ret (pv 1))))), ?_⟩
  try dsimp only [cxOf, Cx.nox, Cx.wish]
  obtain ⟨l, rfl, hne, hl, k⟩ := h
  walk_at "go"
  intro p np
  walk_at "go"
  have hlp : 0 < l.length := List.length_pos_iff.mpr hne
  refine forS (fun i σ' H' => ∃ v2 v3, σ' = [some (.str (S l)), some (.ref p), v2, v3] ∧ Same H H' ∧ H' p = some (.lst (bV l (i + 1)))) ⟨_, _, rfl, Same.new np, upd_same⟩ ?_ ?_
  · rintro i y σ1 H1 hy ⟨v2, v3, rfl, s1, h1⟩
    have hy2 : i + 1 < l.length ∧ y = sg l (i + 1) := by
      rw [List.getElem?_drop] at hy
      have h2 : Int.toNat 1 + i < l.length := (List.getElem?_eq_some_iff.mp hy).1
      have h3 : Int.toNat 1 + i = i + 1 := by have : Int.toNat 1 = 1 := rfl; omega
      rw [h3] at h2 hy
      rw [sg_at h2] at hy
      exact ⟨h2, (Option.some.inj hy).symm⟩
    obtain ⟨hi, rfl⟩ := hy2
    walk_at "go"
    refine rd_ixL (SqL.of h1) (by rw [bV_succ]; exact atI_last _ _) ?_
    walk_at "go"
    refine rd_while (fun b σ' H' => σ' = [some (.str (S l)), some (.ref p), some (.str (S [sg l (i + 1)])), some (.int (b : Int))] ∧ Same H H' ∧ H' p = some (.lst (bV l (i + 1))) ∧
      Per.Bd (sg l) (i + 1) b ∧ ∀ c, Per.Bd (sg l) (i + 1) c → b < c → sg l c ≠ sg l (i + 1)) _ ⟨rfl, s1, h1, Per.lb_bd (Nat.succ_pos i), fun c hc hlt => absurd (Per.lb_max hc) (by omega)⟩ ?_
    rintro b σ2 H2 ⟨rfl, s2, h2, hb, hm⟩
    have hbl : b < l.length := by have := hb.1; omega
    have hat : atI l (b : Int) = some (sg l b) := atI_nat (sg_at hbl)
    walk_at "go"
    refine rd_dec (fun e1 => ?_) (fun e1 => ?_)
    · walk_at "go"
      refine rd_ixS (by omega) hat ?_
      walk_at "go"
      refine rd_ndec (fun e2 => ?_) (fun e2 => ?_)
      · walk_at "go"
        have e3 : (b : Int) - 1 = ((b - 1 : Nat) : Int) := by omega
        refine rd_ixL (SqL.of h2) (v := .int ((Per.lb (sg l) b : Nat) : Int)) ?_ ?_
        · rw [e3]
          refine atI_nat ((bV_at l (by have := hb.1; omega)).trans ?_)
          rw [show b - 1 + 1 = b by omega]
        walk_at "go"
        have hb0 : 0 < b := by omega
        refine ⟨_, Per.lb_lt hb0, rfl, s2, h2, hb.trans (Per.lb_bd hb0), fun c hc hlt => ?_⟩
        by_cases g : b < c
        · exact hm c hc g
        · by_cases g2 : c = b
          · subst g2; exact fun z => e2 (by rw [z])
          · have := Per.lb_max (hb.sub hc (by omega))
            omega
      · walk_at "go"
        have e3 : sg l b = sg l (i + 1) := by simpa using e2
        refine rd_BM (p := p) (ys := []) ?_
        walk_at "go"
        refine ⟨tyL h2, ?_⟩
        walk_at "go"
        refine rd_ixS (by omega) hat ?_
        walk_at "go"
        refine rd_app h2 (by rw [bV_len]; omega) ?_
        walk_at "go"
        refine ⟨_, _, rfl, Same.mut s2 np, ?_⟩
        rw [upd_same, bV_succ l (i + 1), Per.lb_next (Nat.succ_pos i) hb hm (.inr e3), if_pos e3]
        simp [e3]
    · walk_at "go"
      have hb0 : b = 0 := by omega
      subst hb0
      refine rd_BM (p := p) (ys := []) ?_
      walk_at "go"
      refine ⟨tyL h2, ?_⟩
      walk_at "go"
      refine rd_ixS (by omega) hat ?_
      walk_at "go"
      refine rd_app h2 (by rw [bV_len]; omega) ?_
      walk_at "go"
      refine ⟨_, _, rfl, Same.mut s2 np, ?_⟩
      rw [upd_same, bV_succ l (i + 1), Per.lb_next (Nat.succ_pos i) hb hm (.inl rfl)]
      by_cases e3 : sg l 0 = sg l (i + 1) <;> simp [e3]
  · rintro σ1 H1 ⟨v2, v3, rfl, s1, h1⟩
    walk_at "go"
    refine k p H1 np s1 ?_
    rw [bV_all, h1, List.length_drop, show l.length - Int.toNat 1 + 1 = l.length by have : Int.toNat 1 = 1 := rfl; omega]
theorem ok_borders {f : Addr} {fd : FuncData} (F : Fun K "borders" "borders" s_borders f fd) (T : Txt K mg) (C_check_letters : Cal P w K mg base 2 "check_letters" (sp_check_letters K)) (C_border_lengths : Cal P w K mg base 1 "border_lengths" (sp_border_lengths K)) : FnOk P w K mg base CX0 3 f fd ["word"] (sp_borders K) := by
  refine F.ok sc_borders (fun vs H Q E h => by repeat (first | (obtain ⟨rfl, _⟩ := h; rfl) | obtain ⟨_, h⟩ := h)) (fun cdv A outer s H vs Q E hr h => ?_)
  refine ⟨_, (pss_cons (ps_expr (pe_c C_check_letters hr (by decide) rfl (pa_cons (pv 0) pa_nil)))
  (pss_cons (ps_if (pt_cmpR op_eq (pv 0) (pe_strS [] rfl) (nomark _)) (pss_one (ps_ret (pe_lst pa_nil))) pss_nil)
  (pss_cons (ps_par (i := 1) (j := 2) rfl sc_borders.nd rfl rfl (by decide) rfl rfl (pa_cons (pe_c C_border_lengths hr (by decide) rfl (pa_cons (pv 0) pa_nil)) (pa_cons (pe_lst pa_nil) pa_nil)) (by rfl))
  (pss_cons (ps_set (i := 3) sc_borders.nd rfl (Or.inl rfl) (pe_ix ix_list (pv 1) (pe_un un_neg pe_int) (fun _ _ => rfl)))
  (pss_cons (ps_while PassesOwn.never (pt_cmpR op_gt (pv 3) pe_int (nomark _)) (pss_cons (ps_expr (pe_bm PySem.F.plainAttrs_list PySem.F.slot_list_append PySem.F.type_list_append mt_append (pv 2) (pa_cons (pv 3) pa_nil)))
  (pss_one (ps_set (i := 3) sc_borders.nd rfl (Or.inl rfl) (pe_ix ix_list (pv 1) (pe_op op_sub (pv 3) pe_int) (fun _ _ => rfl))))))
  (pss_one (ps_ret (pe_op op_cat (pe_lst (pa_cons pe_int pa_nil)) (pe_revL (pv 2)))))))))), ?_⟩
  try dsimp only [cxOf, Cx.nox, Cx.wish]
  obtain ⟨l, rfl, hw, hl, k⟩ := h
  walk_at "go"
  refine ⟨l, rfl, hw, hl, fun H1 s1 => ?_⟩
  walk_at "go"
  refine rd_dec (fun e1 => ?_) (fun e1 => ?_)
  · subst e1
    walk_at "go"
    intro p np
    exact k p _ (s1.free np) (fun b o e => by rw [upd_ne (ne_of_none (s1 b o e) np)]; exact s1 b o e) upd_same
  walk_at "go"
  refine ⟨l, rfl, e1, hl, fun p H2 np s2 h2 => ?_⟩
  walk_at "go"
  intro q nq
  refine ⟨_, _, rfl, ?_⟩
  walk_at "go"
  have hlp : 0 < l.length := List.length_pos_iff.mpr e1
  have hpq : p ≠ q := ne_of_none h2 nq
  have h3 : upd H2 q (.lst []) p = some (.lst (bV l l.length)) := by rw [upd_ne hpq, h2, bV_all]
  obtain ⟨n, hn⟩ : ∃ n, l.length = n + 1 := ⟨l.length - 1, by omega⟩
  refine rd_ixL (SqL.of h3) (v := .int ((Per.lb (sg l) l.length : Nat) : Int)) (by rw [hn, bV_succ]; exact atI_last _ _) ?_
  walk_at "go"
  have s12 : Same H H2 := s1.trans s2
  refine rd_while (fun b σ' H' => σ' = [some (.str (S l)), some (.ref p), some (.ref q), some (.int (b : Int))] ∧ Same H H' ∧ H' p = some (.lst (bV l l.length)) ∧
    H' q = some (.lst ((Per.above (sg l) l.length b).reverse.map fun b : Nat => V.int (b : Int))) ∧ Per.Bd (sg l) l.length b) _
    ⟨rfl, fun b o e => by rw [upd_ne (ne_of_none (s12 b o e) nq)]; exact s12 b o e, h3, by rw [upd_same, Per.above_lb hlp]; rfl, Per.lb_bd hlp⟩ ?_
  rintro b σ2 H3 ⟨rfl, s3, hp3, hq3, hb⟩
  walk_at "go"
  refine rd_dec (fun e2 => ?_) (fun e2 => ?_)
  · have hb0 : 0 < b := by omega
    walk_at "go"
    refine rd_BM (p := p) (ys := []) ?_
    walk_at "go"
    refine ⟨tyL hq3, ?_⟩
    walk_at "go"
    refine rd_app hq3 ?_ ?_
    · rw [List.length_map, List.length_reverse]
      have := List.length_filter_le (fun c => decide (Per.Bd (sg l) l.length c) && decide (b < c)) (List.range l.length)
      rw [List.length_range] at this
      unfold Per.above
      omega
    walk_at "go"
    have e3 : (b : Int) - 1 = ((b - 1 : Nat) : Int) := by omega
    refine rd_ixL (SqL.of (by rw [upd_ne hpq]; exact hp3)) (v := .int ((Per.lb (sg l) b : Nat) : Int)) ?_ ?_
    · rw [e3]
      refine atI_nat ((bV_at l (by have := hb.1; omega)).trans ?_)
      rw [show b - 1 + 1 = b by omega]
    walk_at "go"
    refine ⟨_, Per.lb_lt hb0, rfl, fun c o e => ?_, by rw [upd_ne hpq]; exact hp3, ?_, hb.trans (Per.lb_bd hb0)⟩
    · rw [upd_ne (ne_of_none e ((s12.free nq)))]
      exact s3 c o e
    · rw [upd_same, Per.above_next hb hb0, List.reverse_cons, List.map_append]
      rfl
  · have hb0 : b = 0 := by omega
    subst hb0
    walk_at "go"
    intro r nr
    walk_at "go"
    refine rd_revL ?_
    walk_at "go"
    have hqr : q ≠ r := ne_of_none hq3 nr
    refine ⟨q, _, rfl, SqL.of (by rw [upd_ne hqr]; exact hq3), fun u nu => ?_⟩
    walk_at "go"
    have hru : r ≠ u := ne_of_none upd_same nu
    refine rd_catL (by rw [upd_ne hru]; exact upd_same) upd_same ?_ fun x nx => ?_
    · rw [List.length_reverse, List.length_map, List.length_reverse]
      have := List.length_filter_le (fun c => decide (Per.Bd (sg l) l.length c) && decide (0 < c)) (List.range l.length)
      rw [List.length_range] at this
      unfold Per.above
      simp only [List.length_cons, List.length_nil]
      omega
    walk_at "go"
    have hf : ∀ b o, H b = some o → upd (upd H3 r (.lst [V.int 0])) u (.lst ((Per.above (sg l) l.length 0).reverse.map fun b : Nat => V.int (b : Int)).reverse) b = some o := fun b o e => by
      rw [upd_ne (ne_of_none (by rw [upd_ne (ne_of_none (s3 b o e) nr)]; exact s3 b o e) nu), upd_ne (ne_of_none (s3 b o e) nr)]
      exact s3 b o e
    refine k x _ (Same.free hf nx) (fun b o e => by rw [upd_ne (ne_of_none (hf b o e) nx)]; exact hf b o e) ?_
    rw [upd_same]
    unfold bordL
    rw [Per.above_zero hlp, List.map_cons, List.map_cons, ← List.map_reverse, List.reverse_reverse, List.map_map]
    rfl
theorem ok_periods {f : Addr} {fd : FuncData} (F : Fun K "periods" "periods" s_periods f fd) (T : Txt K mg) (C_borders : Cal P w K mg base 3 "borders" (sp_borders K)) : FnOk P w K mg base CX0 4 f fd ["word"] (sp_periods K) := by
  refine F.ok sc_periods (fun vs H Q E h => by repeat (first | (obtain ⟨rfl, _⟩ := h; rfl) | obtain ⟨_, h⟩ := h)) (fun cdv A outer s H vs Q E hr h => ?_)
  refine ⟨_, (pss_one (ps_ret (pe_callB cr_sortedI rfl T.n_sorted boot_sorted (pa_cons (pe_lc (own := [("length", 1)]) rfl sc_periods.nd (pi_list (pe_c C_borders hr (by decide) rfl (pa_cons (pv 0) pa_nil))) (blkOk_by (N := N_periods) (sc := defScope s_periods) (by decide +kernel)) (fun _ _ _ _ _ => (pg_name (i := 1) sc_periods.nd rfl (Or.inl rfl))) (fun _ _ _ _ _ => pts_nil) (fun _ _ _ _ _ => (pe_op op_sub (pe_callB cq_lenS rfl T.n_len boot_len (pa_cons (pv 0) pa_nil)) (pv 1)))) pa_nil)))), ?_⟩
  try dsimp only [cxOf, Cx.nox, Cx.wish]
  obtain ⟨l, rfl, hw, hl, k⟩ := h
  walk_at "go"
  refine ⟨l, rfl, hw, hl, fun p H1 np s1 h1 => ?_⟩
  dsimp only
  refine rd_qIl (SqL.of h1) ?_
  have hbl : (bordL l).length ≤ 300 := by
    unfold bordL Per.bl
    rw [List.length_map]
    have := List.length_filter_le (fun b => decide (Per.Bd (sg l) l.length b)) (List.range l.length)
    rw [List.length_range] at this
    omega
  refine lcL (bordL l) V.int (SqL.of h1) (fun _ => true) (fun b => .int ((l.length : Int) - b)) (by omega) (fun _ => rfl) (fun _ _ => pt_yes) (fun y hy _ H2 s2 Q2 q2 => ?_) (fun D H2 nD s2 hD => ?_)
  · walk_at "go"
    exact q2 _ (Same.refl _)
  rw [filter_yes] at hD
  walk_at "go"
  have e : (bordL l).map (fun b => V.int ((l.length : Int) - b)) = ((bordL l).map fun b => (l.length : Int) - b).map V.int := by rw [List.map_map]; rfl
  rw [e] at hD
  have e2 : perL l = ((bordL l).map fun b => (l.length : Int) - b).reverse := by
    unfold perL Per.pl bordL
    rw [List.map_reverse, List.map_map, List.map_map]
    congr 1
    refine List.map_congr_left fun b hb => ?_
    have := (Per.mem_bl.mp hb).1
    simp only [Function.comp]
    omega
  refine rd_sortedI (ms := perL l) (SqL.of hD) ?_ ?_ fun r nr => ?_
  · rw [e2]
    exact List.reverse_perm _
  · unfold perL
    rw [List.pairwise_map]
    refine List.Pairwise.imp (fun {a b} h => ?_) Per.pl_sorted
    omega
  · have s12 : Same H H2 := s1.trans s2
    exact k r _ (s12.free nr) (fun b o e => by rw [upd_ne (ne_of_none (s12 b o e) nr)]; exact s12 b o e) upd_same
theorem ok_root_of {f : Addr} {fd : FuncData} (F : Fun K "root_of" "root_of" s_root_of f fd) (T : Txt K mg) (C_check_filled : Cal P w K mg base 3 "check_filled" (sp_check_filled K)) (C_periods : Cal P w K mg base 4 "periods" (sp_periods K)) : FnOk P w K mg base CX0 5 f fd ["word"] (sp_root_of K) := by
  refine F.ok sc_root_of (fun vs H Q E h => by repeat (first | (obtain ⟨rfl, _⟩ := h; rfl) | obtain ⟨_, h⟩ := h)) (fun cdv A outer s H vs Q E hr h => ?_)
  refine ⟨_, (pss_cons (ps_expr (pe_c C_check_filled hr (by decide) rfl (pa_cons (pv 0) pa_nil)))
  (pss_cons (ps_set (i := 1) sc_root_of.nd rfl (Or.inl rfl) (pe_ix ix_list (pe_c C_periods hr (by decide) rfl (pa_cons (pv 0) pa_nil)) pe_int (fun _ _ => rfl)))
  (pss_cons (ps_if (pt_cmpR op_ne (pe_op op_mod (pe_callTy cq_int rfl T.n_int boot_int (pa_cons (pe_callB cq_lenS rfl T.n_len boot_len (pa_cons (pv 0) pa_nil)) pa_nil)) (pv 1)) pe_int (nomark _)) (pss_one (ps_set (i := 1) sc_root_of.nd rfl (Or.inl rfl) (pe_callB cq_lenS rfl T.n_len boot_len (pa_cons (pv 0) pa_nil)))) pss_nil)
  (pss_one (ps_ret (pe_tup (pa_cons (pe_slice C8.sl_txt (pv 0) po_none (po_some (pv 1))) (pa_cons (pe_op op_fdiv (pe_callB cq_lenS rfl T.n_len boot_len (pa_cons (pv 0) pa_nil)) (pv 1)) pa_nil)))))))), ?_⟩
  try dsimp only [cxOf, Cx.nox, Cx.wish]
  obtain ⟨l, rfl, hw, hl, hne, k⟩ := h
  walk_at "go"
  refine ⟨l, rfl, hw, hl, hne, fun H1 s1 => ?_⟩
  walk_at "go"
  refine ⟨l, rfl, hw, hl, fun p H2 np s2 h2 => ?_⟩
  walk_at "go"
  have hlp : 0 < l.length := List.length_pos_iff.mpr hne
  have hlb := Per.lb_lt (s := sg l) hlp
  have s12 : Same H H2 := s1.trans s2
  obtain ⟨P, hP⟩ : ∃ P, l.length - Per.lb (sg l) l.length = P := ⟨_, rfl⟩
  refine rd_ixL (SqL.of h2) (v := .int (P : Int)) ?_ ?_
  · refine atI_nat (j := 0) ?_
    unfold perL
    rw [List.map_map, ← List.head?_eq_getElem?, List.head?_map, Per.pl_head hlp, hP]
    rfl
  have hPp : 0 < P := by omega
  have hPl : P ≤ l.length := by omega
  walk_at "go"
  have hrt : rootN l = if l.length % P = 0 then P else l.length := by unfold rootN; rw [hP]
  refine rd_ndec (fun e1 => ?_) (fun e1 => ?_)
  · walk_at "go"
    intro r nr
    refine k r _ (s12.free nr) (fun b o e => by rw [upd_ne (ne_of_none (s12 b o e) nr)]; exact s12 b o e) ?_
    have e2 : ¬ l.length % P = 0 := by omega
    rw [upd_same, hrt, if_neg e2]
    simp
  · walk_at "go"
    intro r nr
    refine k r _ (s12.free nr) (fun b o e => by rw [upd_ne (ne_of_none (s12 b o e) nr)]; exact s12 b o e) ?_
    have e2 : l.length % P = 0 := by omega
    rw [upd_same, hrt, if_pos e2]
    simp

end
end My
namespace My
open PySem PySem.Spec L2 SX
open PyProof.Rows hiding St
open Lyn (sg rootN)
local macro_rules | `(tactic| walk_at "kb") => `(tactic| first | exact kb_str_str | exact kb_str_int | exact kb_str_bool | exact kb_str_list | exact kb_str_tuple | exact kb_int_str | exact kb_int_int | exact kb_int_bool | exact kb_int_list | exact kb_int_tuple | exact kb_bool_str | exact kb_bool_int | exact kb_bool_bool | exact kb_bool_list | exact kb_bool_tuple | exact kb_list_str | exact kb_list_int | exact kb_list_bool | exact kb_list_list | exact kb_list_tuple | exact kb_tuple_str | exact kb_tuple_int | exact kb_tuple_bool | exact kb_tuple_list | exact kb_tuple_tuple | exact kb_NoneType_str | exact kb_NoneType_int | exact kb_NoneType_bool | exact kb_NoneType_list | exact kb_NoneType_tuple)
local macro_rules | `(tactic| walk_at "hp") => `(tactic| first | assumption | exact upd_same | (refine (upd_ne (by first | assumption | (apply Ne.symm; assumption))).trans ?_; walk_at "hp"))
local macro_rules | `(tactic| walk_at "sq") => `(tactic| first | assumption | exact SqL.of (by walk_at "hp"))
local macro_rules | `(tactic| walk_at "sqt") => `(tactic| first | assumption | exact SqT.of (by walk_at "hp"))
local macro_rules | `(tactic| walk_at "ar") => `(tactic| first | omega | (dsimp only; omega) | (unfold CMul; omega) | (unfold CDiv; omega) | (unfold CPow; refine ⟨?_, ?_, ?_⟩ <;> decide) | (simp only [List.length_cons, List.length_nil]; decide))
local macro_rules | `(tactic| walk_at "rd") => `(tactic| first
  | with_reducible refine rd_seq ?_
  | with_reducible refine rd_asg ?_
  | with_reducible refine rd_if ?_
  | with_reducible refine rd_ret ?_
  | with_reducible refine rd_drop ?_
  | with_reducible refine rd_name ?_
  | with_reducible refine rd_sub ?_
  | ((with_reducible refine' rd_var ?e ?_); (case e => exact rfl))
  | with_reducible refine rd_c ?_
  | with_reducible refine rd_op ?_
  | with_reducible refine rd_un ?_
  | with_reducible refine rd_I0 ?_
  | ((with_reducible refine' rd_I ?c ?_); (case c => walk_at "ar"))
  | with_reducible refine rd_U ?_
  | with_reducible refine rd_eqI ?_
  | with_reducible refine rd_neI ?_
  | with_reducible refine rd_eqS ?_
  | with_reducible refine rd_neS ?_
  | with_reducible refine rd_eqB ?_
  | with_reducible refine rd_neB ?_
  | with_reducible refine rd_test ?_
  | with_reducible refine rd_B ?_
  | with_reducible refine rd_and ?_
  | with_reducible refine rd_or ?_
  | with_reducible refine rd_not ?_
  | with_reducible refine rd_andV ?_
  | with_reducible refine rd_orV ?_
  | with_reducible refine rd_notV ?_
  | with_reducible refine rd_ifE ?_
  | with_reducible refine rd_isN ?_
  | with_reducible refine rd_notN ?_
  | with_reducible refine rd_cons ?_
  | with_reducible refine rd_nil ?_
  | with_reducible refine rd_lst ?_
  | with_reducible refine rd_tup ?_
  | with_reducible refine rd_CB ?_
  | with_reducible refine rd_call ?_
  | with_reducible refine rd_sl ?_
  | with_reducible refine rd_part ?_
  | with_reducible refine rd_nopart ?_
  | with_reducible refine rd_par ?_
  | with_reducible refine rd_two ?_
  | with_reducible refine rd_next ?_
  | with_reducible refine rd_retN ?_
  | with_reducible refine rd_bool ?_
  | with_reducible refine rd_int ?_
  | with_reducible refine rd_intI ?_
  | with_reducible refine rd_intB ?_
  | with_reducible refine rd_ltS ?_
  | with_reducible refine rd_leS ?_
  | with_reducible refine rd_gtS ?_
  | with_reducible refine rd_geS ?_
  | with_reducible refine rd_inC ?_
  | with_reducible refine rd_notInC ?_
  | with_reducible refine rd_abs ?_
  | with_reducible refine rd_max2 ?_
  | with_reducible refine rd_min2 ?_
  | with_reducible refine rd_M1 ?_
  | with_reducible refine rd_isStr ?_
  | ((with_reducible refine' rd_len ?b ?_); (case b => (simp only [List.length_cons, List.length_nil]; decide)))
  | ((with_reducible refine' rd_listS ?b ?_); (case b => first | (simp only [List.length_take, List.length_cons, List.length_nil]; omega) | omega))
  | ((with_reducible refine' rd_isi ?ty ?h ?_); (case ty => first | exact ty_str | exact ty_int | exact ty_bl | exact ty_non | exact ty_lst (by walk_at "hp") | exact ty_tup (by walk_at "hp")); (case h => walk_at "kb"))
  | with_reducible refine rd_lc ?_
  | with_reducible refine rd_for ?_
  | with_reducible refine rd_iList ?_
  | with_reducible refine rd_iTup ?_
  | with_reducible refine rd_iRng1 ?_
  | with_reducible refine rd_iRng2 ?_
  | with_reducible refine rd_iRng3 ?_
  | with_reducible refine rd_iStr ?_
  | with_reducible refine rd_qIs ?_
  | with_reducible refine rd_whb ?_
  | ((with_reducible refine' rd_qIl ?sq ?_); (case sq => walk_at "sq"))
  | ((with_reducible refine' rd_qItu ?sq ?_); (case sq => walk_at "sqt"))
  | ((with_reducible refine' rd_qIr1 ?b1 ?b2 ?_); (case b1 => walk_at "ar"); (case b2 => walk_at "ar"))
  | ((with_reducible refine' rd_qIr2 ?b1 ?b2 ?b3 ?b4 ?_); (case b1 => walk_at "ar"); (case b2 => walk_at "ar"); (case b3 => walk_at "ar"); (case b4 => walk_at "ar"))
  | ((with_reducible refine' rd_qIr3 ?b1 ?b2 ?b3 ?b4 ?_); (case b1 => walk_at "ar"); (case b2 => walk_at "ar"); (case b3 => walk_at "ar"); (case b4 => walk_at "ar"))
  | ((with_reducible refine' rd_mulS ?b1 ?b2 ?b3 ?_); (case b1 => walk_at "ar"); (case b2 => walk_at "ar"); (case b3 => walk_at "ar"))
  | ((with_reducible refine' rd_slS_to ?b1 ?b2 ?_); (case b1 => walk_at "ar"); (case b2 => walk_at "ar"))
  | ((with_reducible refine' rd_slS_from ?b1 ?b2 ?_); (case b1 => walk_at "ar"); (case b2 => walk_at "ar"))
  | ((with_reducible refine' rd_slS_mid ?b1 ?b2 ?b3 ?b4 ?_); (case b1 => walk_at "ar"); (case b2 => walk_at "ar"); (case b3 => walk_at "ar"); (case b4 => walk_at "ar"))
  | ((with_reducible refine' rd_slL ?sq ?_); (case sq => walk_at "sq"))
  | with_reducible refine rd_true ?_
  | with_reducible refine rd_false ?_
  | with_reducible refine rd_nt ?_
  | with_reducible refine rd_nf ?_
  | ((with_reducible refine' rd_decT ?h ?_); (case h => omega))
  | ((with_reducible refine' rd_decF ?h ?_); (case h => omega))
  | ((with_reducible refine' rd_ndecT ?h ?_); (case h => omega))
  | ((with_reducible refine' rd_ndecF ?h ?_); (case h => omega))
  | ((with_reducible refine' rd_evT ?h ?_); (case h => first | exact rfl | (simp; done)))
  | ((with_reducible refine' rd_evF ?h ?_); (case h => first | exact rfl | (simp; done)))
  | ((with_reducible refine' rd_ixL ?sq ?a1 ?_); (case sq => walk_at "sq"); (case a1 => first | exact rfl | exact at_of (by omega) (by assumption)))
  | ((with_reducible refine' rd_ixT ?sq ?a1 ?_); (case sq => walk_at "sqt"); (case a1 => first | exact rfl | exact at_of (by omega) (by assumption)))
  | ((with_reducible refine' rd_lenL ?sq ?_); (case sq => walk_at "sq"))
  | ((with_reducible refine' rd_lenT ?sq ?_); (case sq => walk_at "sqt"))
  | ((with_reducible refine' rd_setL ?h ?j ?_); (case h => walk_at "hp"); (case j => exact rfl); (with_reducible refine id ?_))
  | ((with_reducible refine' rd_strlen ?l ?_); (case l => walk_at "ar"))
  | ((with_reducible refine' rd_cat ?l ?_); (case l => walk_at "ar")))
local macro_rules | `(tactic| walk_at "go") => `(tactic| ((try dsimp only); (repeat (walk_at "rd"))))

section
variable {P : Program} {w : World} {K : PySem.W.Frag} {mg : Str → Option Value} {base : Heap}
theorem ok__law_is_leaf {f : Addr} {fd : FuncData} (F : Fun K "_law_is" "_law_is" s__law_is f fd) (T : Txt K mg) : FnOk P w K mg base CX0 1 f fd ["shown", "due"] (sp__law_is_leaf K) := by
  refine F.ok sc__law_is (fun vs H Q E h => by repeat (first | (obtain ⟨rfl, _⟩ := h; rfl) | obtain ⟨_, h⟩ := h)) (fun cdv A outer s H vs Q E hr h => ?_)
  refine ⟨_, (pss_cons (ps_if (pt_val (pe_callB call_isiT rfl T.n_isinstance boot_isinstance (pa_cons (pv 1) (pa_cons (pe_tup (pa_cons (pe_bltn (v := .ty "tuple") rfl T.n_tuple boot_tuple rfl) (pa_cons (pe_bltn (v := .ty "list") rfl T.n_list boot_list rfl) pa_nil))) pa_nil)))) pss_never pss_nil)
  (pss_cons (ps_if (PW.pt (pw_or (pt_cmp (pc_isN (pv 1))) (pw_or1 (pt_cmp (pc_isN (pv 0)))))) (pss_one (ps_ret (pe_and (pe_cmp (pc_isN (pv 1)) rfl) (pe_one (pe_cmp (pc_isN (pv 0)) rfl))))) pss_nil)
  (pss_cons (ps_if (PW.pt (pw_or (pt_cmpR op_ne (pe_callB call_isi rfl T.n_isinstance boot_isinstance (pa_cons (pv 0) (pa_cons (pe_bltn (v := .ty "bool") rfl T.n_bool boot_bool rfl) pa_nil))) (pe_callB call_isi rfl T.n_isinstance boot_isinstance (pa_cons (pv 1) (pa_cons (pe_bltn (v := .ty "bool") rfl T.n_bool boot_bool rfl) pa_nil))) (nomark _)) (pw_or1 (pt_cmpR op_ne (pe_callB call_isi rfl T.n_isinstance boot_isinstance (pa_cons (pv 0) (pa_cons (pe_bltn (v := .ty "int") rfl T.n_int boot_int rfl) pa_nil))) (pe_callB call_isi rfl T.n_isinstance boot_isinstance (pa_cons (pv 1) (pa_cons (pe_bltn (v := .ty "int") rfl T.n_int boot_int rfl) pa_nil))) (nomark _))))) (pss_one (ps_ret pe_bl)) pss_nil)
  (pss_one (ps_ret (pe_and (pe_cmpR op_eq (pe_callB call_isi rfl T.n_isinstance boot_isinstance (pa_cons (pv 0) (pa_cons (pe_bltn (v := .ty "str") rfl T.n_str boot_str rfl) pa_nil))) (pe_callB call_isi rfl T.n_isinstance boot_isinstance (pa_cons (pv 1) (pa_cons (pe_bltn (v := .ty "str") rfl T.n_str boot_str rfl) pa_nil))) (nomark _)) (pe_one (pe_cmpR op_eq (pv 0) (pv 1) (nomark _))))))))), ?_⟩
  try dsimp only [cxOf, Cx.nox, Cx.wish]
  obtain ⟨x, rfl, hx, k⟩ := h
  have sn : ∀ {p : Addr} {o : HO}, H p = none → Same H (upd H p o) := fun n => Same.new n
  rcases hx with ⟨i, rfl⟩ | ⟨b, rfl⟩ | ⟨l, rfl⟩ | rfl <;>
  · walk_at "go"
    intro tp ntp
    walk_at "go"
    refine rd_isiTL upd_same (by first | exact ty_str | exact ty_int | exact ty_bl | exact ty_non) (by walk_at "kb") (by walk_at "kb") ?_
    walk_at "go"
    first | exact k _ (sn ntp) | (simp only [decide_true, beq_self_eq_true]; exact k _ (sn ntp))
theorem ok__law_is {f : Addr} {fd : FuncData} (F : Fun K "_law_is" "_law_is" s__law_is f fd) (T : Txt K mg) (C__law_is_leaf : Cal P w K mg base 1 "_law_is" (sp__law_is_leaf K)) : FnOk P w K mg base CX0 2 f fd ["shown", "due"] (sp__law_is K) := by
  refine F.ok sc__law_is (fun vs H Q E h => by repeat (first | (obtain ⟨rfl, _⟩ := h; rfl) | obtain ⟨_, h⟩ := h)) (fun cdv A outer s H vs Q E hr h => ?_)
  refine ⟨_, (pss_cons (ps_if (pt_val (pe_callB call_isiT rfl T.n_isinstance boot_isinstance (pa_cons (pv 1) (pa_cons (pe_tup (pa_cons (pe_bltn (v := .ty "tuple") rfl T.n_tuple boot_tuple rfl) (pa_cons (pe_bltn (v := .ty "list") rfl T.n_list boot_list rfl) pa_nil))) pa_nil)))) (pss_cons (ps_if (PW.pt (pw_or (pt_cmpR op_ne (pe_callB call_isi rfl T.n_isinstance boot_isinstance (pa_cons (pv 0) (pa_cons (pe_bltn (v := .ty "tuple") rfl T.n_tuple boot_tuple rfl) pa_nil))) (pe_callB call_isi rfl T.n_isinstance boot_isinstance (pa_cons (pv 1) (pa_cons (pe_bltn (v := .ty "tuple") rfl T.n_tuple boot_tuple rfl) pa_nil))) (nomark _)) (pw_or1 (pt_cmpR op_ne (pe_callB call_isi rfl T.n_isinstance boot_isinstance (pa_cons (pv 0) (pa_cons (pe_bltn (v := .ty "list") rfl T.n_list boot_list rfl) pa_nil))) (pe_callB call_isi rfl T.n_isinstance boot_isinstance (pa_cons (pv 1) (pa_cons (pe_bltn (v := .ty "list") rfl T.n_list boot_list rfl) pa_nil))) (nomark _))))) (pss_one (ps_ret pe_bl)) pss_nil)
  (pss_one (ps_ret (pe_and (pe_cmpR op_eq (pe_callB cq_len rfl T.n_len boot_len (pa_cons (pv 0) pa_nil)) (pe_callB cq_len rfl T.n_len boot_len (pa_cons (pv 1) pa_nil)) (nomark _)) (pe_one (pe_callB (cr_all rfl) rfl T.n_all boot_all (pa_cons (pe_lc (own := [("one", 2), ("other", 3)]) rfl sc__law_is.nd (RZ.pi_zipA rfl T.n_zip (pa_cons (pv 0) (pa_cons (pv 1) pa_nil))) (blkOk_by (N := N__law_is) (sc := defScope s__law_is) (by decide +kernel)) (fun _ _ _ _ _ => (pg_two (i := 2) (j := 3) K rfl rfl sc__law_is.nd rfl (Or.inl rfl) rfl (Or.inl rfl))) (fun _ _ _ _ _ => pts_nil) (fun _ _ _ _ _ => (pe_c C__law_is_leaf hr (by decide) rfl (pa_cons (pv 2) (pa_cons (pv 3) pa_nil))))) pa_nil))))))) pss_nil)
  (pss_cons (ps_if (PW.pt (pw_or (pt_cmp (pc_isN (pv 1))) (pw_or1 (pt_cmp (pc_isN (pv 0)))))) (pss_one (ps_ret (pe_and (pe_cmp (pc_isN (pv 1)) rfl) (pe_one (pe_cmp (pc_isN (pv 0)) rfl))))) pss_nil)
  (pss_cons (ps_if (PW.pt (pw_or (pt_cmpR op_ne (pe_callB call_isi rfl T.n_isinstance boot_isinstance (pa_cons (pv 0) (pa_cons (pe_bltn (v := .ty "bool") rfl T.n_bool boot_bool rfl) pa_nil))) (pe_callB call_isi rfl T.n_isinstance boot_isinstance (pa_cons (pv 1) (pa_cons (pe_bltn (v := .ty "bool") rfl T.n_bool boot_bool rfl) pa_nil))) (nomark _)) (pw_or1 (pt_cmpR op_ne (pe_callB call_isi rfl T.n_isinstance boot_isinstance (pa_cons (pv 0) (pa_cons (pe_bltn (v := .ty "int") rfl T.n_int boot_int rfl) pa_nil))) (pe_callB call_isi rfl T.n_isinstance boot_isinstance (pa_cons (pv 1) (pa_cons (pe_bltn (v := .ty "int") rfl T.n_int boot_int rfl) pa_nil))) (nomark _))))) (pss_one (ps_ret pe_bl)) pss_nil)
  (pss_one (ps_ret (pe_and (pe_cmpR op_eq (pe_callB call_isi rfl T.n_isinstance boot_isinstance (pa_cons (pv 0) (pa_cons (pe_bltn (v := .ty "str") rfl T.n_str boot_str rfl) pa_nil))) (pe_callB call_isi rfl T.n_isinstance boot_isinstance (pa_cons (pv 1) (pa_cons (pe_bltn (v := .ty "str") rfl T.n_str boot_str rfl) pa_nil))) (nomark _)) (pe_one (pe_cmpR op_eq (pv 0) (pv 1) (nomark _))))))))), ?_⟩
  try dsimp only [cxOf, Cx.nox, Cx.wish]
  obtain ⟨x, y, rfl, hx, k⟩ := h
  have sn : ∀ {p : Addr} {o : HO}, H p = none → Same H (upd H p o) := fun n => Same.new n
  rcases hx with ⟨rfl, hx⟩ | ⟨p, q, xs, rfl, rfl, hxs, hl, hx⟩
  · rcases hx with ⟨i, rfl⟩ | ⟨b, rfl⟩ | ⟨l, rfl⟩ | rfl <;>
    · walk_at "go"
      intro tp ntp
      walk_at "go"
      refine rd_isiTL upd_same (by first | exact ty_str | exact ty_int | exact ty_bl | exact ty_non) (by walk_at "kb") (by walk_at "kb") ?_
      walk_at "go"
      first | exact k _ (sn ntp) | (simp only [decide_true, beq_self_eq_true]; exact k _ (sn ntp))
  · have fin : ∀ {H1 : Hp} {D : Addr}, Same H H1 → H1 D = some (.lst ((List.range xs.length).map fun _ => V.bl true)) → rAll K [.ref D] H1 Q := fun {H1 D} s1 hD => by
      refine rd_all (bs := (List.range xs.length).map fun _ => true) (SqL.of (by rw [hD, List.map_map]; rfl)) ?_
      rw [show ((List.range xs.length).map fun _ => true).all id = true by simp]
      exact k _ s1
    have turn : ∀ (H1 : Hp) (i : Nat) (u v : V), i < xs.length → xs[i]? = some u → xs[i]? = some v → PE0 (tCall (sp__law_is_leaf K) [] E0 (tCons (tVar 2) (tCons (tVar 3) tNil))) [some (.ref p), some (.ref q), some u, some v] H1 (.bl true) := fun H1 i u v hi hu hv => by
      intro H2 s2 Q2 q2
      have e : u = v := by rw [hu] at hv; exact Option.some.inj hv
      subst e
      walk_at "go"
      exact ⟨u, rfl, hxs u (List.mem_of_getElem? hu), fun H3 s3 => q2 _ s3⟩
    rcases hx with ⟨hp, hq⟩ | ⟨hp, hq⟩
    · walk_at "go"
      intro tp ntp
      have hp1 := ne_of_none hp ntp
      have hq1 := ne_of_none hq ntp
      walk_at "go"
      refine rd_isiTL upd_same (ty_lst (by walk_at "hp")) (by walk_at "kb") (by walk_at "kb") ?_
      walk_at "go"
      refine rd_iZip ?_
      walk_at "go"
      have hp2 : SqL K (upd H tp (HO.tup [V.ty "tuple", V.ty "list"])) p xs := .of (by walk_at "hp")
      have hq2 : SqL K (upd H tp (HO.tup [V.ty "tuple", V.ty "list"])) q xs := .of (by walk_at "hp")
      refine rd_zipL hp2 hq2 ?_
      refine lcZ (walk_zip (by omega)) (fun H' s => ⟨Same.seq s hp2, Same.seq s hq2⟩) (fun _ => .bl true) hl (fun _ _ => rfl) (fun i u v hi hu hv => turn _ i u v hi hu hv) (fun D H1 nD s1 hD => ?_)
      walk_at "go"
      exact fin ((sn ntp).trans s1) hD
    · walk_at "go"
      intro tp ntp
      have hp1 := ne_of_none hp ntp
      have hq1 := ne_of_none hq ntp
      walk_at "go"
      refine rd_isiTL upd_same (ty_tup (by walk_at "hp")) (by walk_at "kb") (by walk_at "kb") ?_
      walk_at "go"
      refine rd_iZip ?_
      walk_at "go"
      have hp2 : SqT K (upd H tp (HO.tup [V.ty "tuple", V.ty "list"])) p xs := .of (by walk_at "hp")
      have hq2 : SqT K (upd H tp (HO.tup [V.ty "tuple", V.ty "list"])) q xs := .of (by walk_at "hp")
      refine rd_zipT hp2 hq2 ?_
      refine lcZ (walk_zipT rfl) (fun H' s => ⟨Same.seqT s hp2, Same.seqT s hq2⟩) (fun _ => .bl true) hl (fun _ _ => rfl) (fun i u v hi hu hv => turn _ i u v hi hu hv) (fun D H1 nD s1 hD => ?_)
      walk_at "go"
      exact fin ((sn ntp).trans s1) hD

end
end My
namespace My
open PySem PySem.Spec L2 SX
open PyProof.Rows hiding St
open Lyn (sg rootN)
local macro_rules | `(tactic| walk_at "kb") => `(tactic| first | exact kb_str_str | exact kb_str_int | exact kb_str_bool | exact kb_str_list | exact kb_str_tuple | exact kb_int_str | exact kb_int_int | exact kb_int_bool | exact kb_int_list | exact kb_int_tuple | exact kb_bool_str | exact kb_bool_int | exact kb_bool_bool | exact kb_bool_list | exact kb_bool_tuple | exact kb_list_str | exact kb_list_int | exact kb_list_bool | exact kb_list_list | exact kb_list_tuple | exact kb_tuple_str | exact kb_tuple_int | exact kb_tuple_bool | exact kb_tuple_list | exact kb_tuple_tuple | exact kb_NoneType_str | exact kb_NoneType_int | exact kb_NoneType_bool | exact kb_NoneType_list | exact kb_NoneType_tuple)
local macro_rules | `(tactic| walk_at "hp") => `(tactic| first | assumption | exact upd_same | (refine (upd_ne (by first | assumption | (apply Ne.symm; assumption))).trans ?_; walk_at "hp"))
local macro_rules | `(tactic| walk_at "sq") => `(tactic| first | assumption | exact SqL.of (by walk_at "hp"))
local macro_rules | `(tactic| walk_at "sqt") => `(tactic| first | assumption | exact SqT.of (by walk_at "hp"))
local macro_rules | `(tactic| walk_at "ar") => `(tactic| first | omega | (dsimp only; omega) | (unfold CMul; omega) | (unfold CDiv; omega) | (unfold CPow; refine ⟨?_, ?_, ?_⟩ <;> decide) | (simp only [List.length_cons, List.length_nil]; decide))
local macro_rules | `(tactic| walk_at "rd") => `(tactic| first
  | with_reducible refine rd_seq ?_
  | with_reducible refine rd_asg ?_
  | with_reducible refine rd_if ?_
  | with_reducible refine rd_ret ?_
  | with_reducible refine rd_drop ?_
  | with_reducible refine rd_name ?_
  | with_reducible refine rd_sub ?_
  | ((with_reducible refine' rd_var ?e ?_); (case e => exact rfl))
  | with_reducible refine rd_c ?_
  | with_reducible refine rd_op ?_
  | with_reducible refine rd_un ?_
  | with_reducible refine rd_I0 ?_
  | ((with_reducible refine' rd_I ?c ?_); (case c => walk_at "ar"))
  | with_reducible refine rd_U ?_
  | with_reducible refine rd_eqI ?_
  | with_reducible refine rd_neI ?_
  | with_reducible refine rd_eqS ?_
  | with_reducible refine rd_neS ?_
  | with_reducible refine rd_eqB ?_
  | with_reducible refine rd_neB ?_
  | with_reducible refine rd_test ?_
  | with_reducible refine rd_B ?_
  | with_reducible refine rd_and ?_
  | with_reducible refine rd_or ?_
  | with_reducible refine rd_not ?_
  | with_reducible refine rd_andV ?_
  | with_reducible refine rd_orV ?_
  | with_reducible refine rd_notV ?_
  | with_reducible refine rd_ifE ?_
  | with_reducible refine rd_isN ?_
  | with_reducible refine rd_notN ?_
  | with_reducible refine rd_cons ?_
  | with_reducible refine rd_nil ?_
  | with_reducible refine rd_lst ?_
  | with_reducible refine rd_tup ?_
  | with_reducible refine rd_CB ?_
  | with_reducible refine rd_call ?_
  | with_reducible refine rd_sl ?_
  | with_reducible refine rd_part ?_
  | with_reducible refine rd_nopart ?_
  | with_reducible refine rd_par ?_
  | with_reducible refine rd_two ?_
  | with_reducible refine rd_next ?_
  | with_reducible refine rd_retN ?_
  | with_reducible refine rd_bool ?_
  | with_reducible refine rd_int ?_
  | with_reducible refine rd_intI ?_
  | with_reducible refine rd_intB ?_
  | with_reducible refine rd_ltS ?_
  | with_reducible refine rd_leS ?_
  | with_reducible refine rd_gtS ?_
  | with_reducible refine rd_geS ?_
  | with_reducible refine rd_inC ?_
  | with_reducible refine rd_notInC ?_
  | with_reducible refine rd_abs ?_
  | with_reducible refine rd_max2 ?_
  | with_reducible refine rd_min2 ?_
  | with_reducible refine rd_M1 ?_
  | with_reducible refine rd_isStr ?_
  | ((with_reducible refine' rd_len ?b ?_); (case b => (simp only [List.length_cons, List.length_nil]; decide)))
  | ((with_reducible refine' rd_listS ?b ?_); (case b => first | (simp only [List.length_take, List.length_cons, List.length_nil]; omega) | omega))
  | ((with_reducible refine' rd_isi ?ty ?h ?_); (case ty => first | exact ty_str | exact ty_int | exact ty_bl | exact ty_non | exact ty_lst (by walk_at "hp") | exact ty_tup (by walk_at "hp")); (case h => walk_at "kb"))
  | with_reducible refine rd_lc ?_
  | with_reducible refine rd_for ?_
  | with_reducible refine rd_iList ?_
  | with_reducible refine rd_iTup ?_
  | with_reducible refine rd_iRng1 ?_
  | with_reducible refine rd_iRng2 ?_
  | with_reducible refine rd_iRng3 ?_
  | with_reducible refine rd_iStr ?_
  | with_reducible refine rd_qIs ?_
  | with_reducible refine rd_whb ?_
  | ((with_reducible refine' rd_qIl ?sq ?_); (case sq => walk_at "sq"))
  | ((with_reducible refine' rd_qItu ?sq ?_); (case sq => walk_at "sqt"))
  | ((with_reducible refine' rd_qIr1 ?b1 ?b2 ?_); (case b1 => walk_at "ar"); (case b2 => walk_at "ar"))
  | ((with_reducible refine' rd_qIr2 ?b1 ?b2 ?b3 ?b4 ?_); (case b1 => walk_at "ar"); (case b2 => walk_at "ar"); (case b3 => walk_at "ar"); (case b4 => walk_at "ar"))
  | ((with_reducible refine' rd_qIr3 ?b1 ?b2 ?b3 ?b4 ?_); (case b1 => walk_at "ar"); (case b2 => walk_at "ar"); (case b3 => walk_at "ar"); (case b4 => walk_at "ar"))
  | ((with_reducible refine' rd_mulS ?b1 ?b2 ?b3 ?_); (case b1 => walk_at "ar"); (case b2 => walk_at "ar"); (case b3 => walk_at "ar"))
  | ((with_reducible refine' rd_slS_to ?b1 ?b2 ?_); (case b1 => walk_at "ar"); (case b2 => walk_at "ar"))
  | ((with_reducible refine' rd_slS_from ?b1 ?b2 ?_); (case b1 => walk_at "ar"); (case b2 => walk_at "ar"))
  | ((with_reducible refine' rd_slS_mid ?b1 ?b2 ?b3 ?b4 ?_); (case b1 => walk_at "ar"); (case b2 => walk_at "ar"); (case b3 => walk_at "ar"); (case b4 => walk_at "ar"))
  | ((with_reducible refine' rd_slL ?sq ?_); (case sq => walk_at "sq"))
  | with_reducible refine rd_true ?_
  | with_reducible refine rd_false ?_
  | with_reducible refine rd_nt ?_
  | with_reducible refine rd_nf ?_
  | ((with_reducible refine' rd_decT ?h ?_); (case h => omega))
  | ((with_reducible refine' rd_decF ?h ?_); (case h => omega))
  | ((with_reducible refine' rd_ndecT ?h ?_); (case h => omega))
  | ((with_reducible refine' rd_ndecF ?h ?_); (case h => omega))
  | ((with_reducible refine' rd_evT ?h ?_); (case h => first | exact rfl | (simp; done)))
  | ((with_reducible refine' rd_evF ?h ?_); (case h => first | exact rfl | (simp; done)))
  | ((with_reducible refine' rd_ixL ?sq ?a1 ?_); (case sq => walk_at "sq"); (case a1 => first | exact rfl | exact at_of (by omega) (by assumption)))
  | ((with_reducible refine' rd_ixT ?sq ?a1 ?_); (case sq => walk_at "sqt"); (case a1 => first | exact rfl | exact at_of (by omega) (by assumption)))
  | ((with_reducible refine' rd_lenL ?sq ?_); (case sq => walk_at "sq"))
  | ((with_reducible refine' rd_lenT ?sq ?_); (case sq => walk_at "sqt"))
  | ((with_reducible refine' rd_setL ?h ?j ?_); (case h => walk_at "hp"); (case j => exact rfl); (with_reducible refine id ?_))
  | ((with_reducible refine' rd_strlen ?l ?_); (case l => walk_at "ar"))
  | ((with_reducible refine' rd_cat ?l ?_); (case l => walk_at "ar")))
local macro_rules | `(tactic| walk_at "go") => `(tactic| ((try dsimp only); (repeat (walk_at "rd"))))

section
variable {P : Program} {w : World} {K : PySem.W.Frag} {mg : Str → Option Value} {base : Heap}
theorem lyB_list {l : List Nat} (h : l ≠ []) : ((List.range ((l.length : Int) - 1).toNat).map fun y : Nat => decide (l < l.drop (1 + (y : Int)).toNat)).all id = Lyn.lyB l 0 l.length := by
  rw [Lyn.lyB_all, decide_eq_true h, Bool.true_and, List.all_map]
  have e1 : ((l.length : Int) - 1).toNat = l.length - 1 := by omega
  rw [e1]
  congr 1
theorem ok_do_commute {f : Addr} {fd : FuncData} (F : Fun K "do_commute" "do_commute" s_do_commute f fd) (T : Txt K mg) (C_check_letters : Cal P w K mg base 2 "check_letters" (sp_check_letters K)) : FnOk P w K mg base CX0 3 f fd ["one", "other"] (sp_do_commute K) := by
  refine F.ok sc_do_commute (fun vs H Q E h => by repeat (first | (obtain ⟨rfl, _⟩ := h; rfl) | obtain ⟨_, h⟩ := h)) (fun cdv A outer s H vs Q E hr h => ?_)
  refine ⟨_, (pss_cons (ps_expr (pe_c C_check_letters hr (by decide) rfl (pa_cons (pv 0) pa_nil)))
  (pss_cons (ps_expr (pe_c C_check_letters hr (by decide) rfl (pa_cons (pv 1) pa_nil)))
  (pss_one (ps_ret (pe_cmpR op_eq (pe_op oq_addS (pv 0) (pv 1)) (pe_op oq_addS (pv 1) (pv 0)) (nomark _)))))), ?_⟩
  try dsimp only [cxOf, Cx.nox, Cx.wish]
  obtain ⟨a, b, rfl, wa, wb, la, lb, k⟩ := h
  walk_at "go"
  refine ⟨a, rfl, wa, la, fun H1 s1 => ?_⟩
  walk_at "go"
  refine ⟨b, rfl, wb, lb, fun H2 s2 => ?_⟩
  walk_at "go"
  exact k _ (s1.trans s2)
theorem ok_common_root {f : Addr} {fd : FuncData} (F : Fun K "common_root" "common_root" s_common_root f fd) (T : Txt K mg) (C_check_filled : Cal P w K mg base 3 "check_filled" (sp_check_filled K)) (C_root_of : Cal P w K mg base 5 "root_of" (sp_root_of K)) : FnOk P w K mg base CX0 6 f fd ["one", "other"] (sp_common_root K) := by
  refine F.ok sc_common_root (fun vs H Q E h => by repeat (first | (obtain ⟨rfl, _⟩ := h; rfl) | obtain ⟨_, h⟩ := h)) (fun cdv A outer s H vs Q E hr h => ?_)
  refine ⟨_, (pss_cons (ps_expr (pe_c C_check_filled hr (by decide) rfl (pa_cons (pv 0) pa_nil)))
  (pss_cons (ps_expr (pe_c C_check_filled hr (by decide) rfl (pa_cons (pv 1) pa_nil)))
  (pss_cons (ps_set (i := 2) sc_common_root.nd rfl (Or.inl rfl) (pe_ix ix_tup (pe_c C_root_of hr (by decide) rfl (pa_cons (pv 0) pa_nil)) pe_int (fun _ _ => rfl)))
  (pss_one (ps_ret (pe_ifExp (pt_cmpR op_eq (pv 2) (pe_ix ix_tup (pe_c C_root_of hr (by decide) rfl (pa_cons (pv 1) pa_nil)) pe_int (fun _ _ => rfl)) (nomark _)) (pv 2) pe_non)))))), ?_⟩
  try dsimp only [cxOf, Cx.nox, Cx.wish]
  obtain ⟨a, b, rfl, wa, wb, la, lb, na, nb, k⟩ := h
  walk_at "go"
  refine ⟨a, rfl, wa, la, na, fun H1 s1 => ?_⟩
  walk_at "go"
  refine ⟨b, rfl, wb, lb, nb, fun H2 s2 => ?_⟩
  walk_at "go"
  refine ⟨a, rfl, wa, la, na, fun p H3 np s3 h3 => ?_⟩
  walk_at "go"
  refine ⟨b, rfl, wb, lb, nb, fun q H4 nq s4 h4 => ?_⟩
  have s14 : Same H H4 := ((Same.trans s1 s2).trans s3).trans s4
  walk_at "go"
  refine rd_dec (fun e => ?_) (fun e => ?_)
  · walk_at "go"
    have := k _ s14
    rwa [if_pos e] at this
  · walk_at "go"
    have := k _ s14
    rwa [if_neg e] at this
theorem ok_is_least_of_ends {f : Addr} {fd : FuncData} (F : Fun K "is_least_of_ends" "is_least_of_ends" s_is_least_of_ends f fd) (T : Txt K mg) (C_check_filled : Cal P w K mg base 3 "check_filled" (sp_check_filled K)) : FnOk P w K mg base CX0 4 f fd ["word"] (sp_is_least_of_ends K) := by
  refine F.ok sc_is_least_of_ends (fun vs H Q E h => by repeat (first | (obtain ⟨rfl, _⟩ := h; rfl) | obtain ⟨_, h⟩ := h)) (fun cdv A outer s H vs Q E hr h => ?_)
  refine ⟨_, (pss_cons (ps_expr (pe_c C_check_filled hr (by decide) rfl (pa_cons (pv 0) pa_nil)))
  (pss_one (ps_ret (pe_callB (cr_all rfl) rfl T.n_all boot_all (pa_cons (pe_lc (own := [("begin", 1)]) rfl sc_is_least_of_ends.nd (pi_range2 rfl T.n_range (pa_cons pe_int (pa_cons (pe_callB cq_lenS rfl T.n_len boot_len (pa_cons (pv 0) pa_nil)) pa_nil))) (blkOk_by (N := N_is_least_of_ends) (sc := defScope s_is_least_of_ends) (by decide +kernel)) (fun _ _ _ _ _ => (pg_name (i := 1) sc_is_least_of_ends.nd rfl (Or.inl rfl))) (fun _ _ _ _ _ => pts_nil) (fun _ _ _ _ _ => (pe_cmpR oq_ltS (pv 0) (pe_slice C8.sl_txt (pv 0) (po_some (pv 1)) po_none) (nomark _)))) pa_nil))))), ?_⟩
  try dsimp only [cxOf, Cx.nox, Cx.wish]
  obtain ⟨l, rfl, hw, hl, hne, k⟩ := h
  walk_at "go"
  refine ⟨l, rfl, hw, hl, hne, fun H1 s1 => ?_⟩
  walk_at "go"
  refine lcR (fun _ => true) (fun y => .bl (decide (l < l.drop (1 + (y : Int)).toNat))) (by omega) (fun _ => rfl) (fun _ _ => pt_yes) (fun y hy _ H2 s2 Q1 q1 => ?_) (fun D H2 nD s2 hD => ?_)
  · walk_at "go"
    exact q1 _ (Same.refl _)
  rw [filter_yes] at hD
  walk_at "go"
  refine rd_all (bs := (List.range ((l.length : Int) - 1).toNat).map fun y : Nat => decide (l < l.drop (1 + (y : Int)).toNat)) (SqL.of (by rw [hD, List.map_map]; rfl)) ?_
  rw [lyB_list hne]
  exact k _ (s1.trans s2)
theorem ok__law_is_least {f : Addr} {fd : FuncData} (F : Fun K "_law_is_least" "_law_is_least" s__law_is_least f fd) (T : Txt K mg) : FnOk P w K mg base CX0 1 f fd ["word"] (sp__law_is_least K) := by
  refine F.ok sc__law_is_least (fun vs H Q E h => by repeat (first | (obtain ⟨rfl, _⟩ := h; rfl) | obtain ⟨_, h⟩ := h)) (fun cdv A outer s H vs Q E hr h => ?_)
  refine ⟨_, (pss_one (ps_ret (pe_and (pe_cmpR op_ne (pv 0) (pe_strS [] rfl) (nomark _)) (pe_one (pe_callB (cr_all rfl) rfl T.n_all boot_all (pa_cons (pe_lc (own := [("begin", 1)]) rfl sc__law_is_least.nd (pi_range2 rfl T.n_range (pa_cons pe_int (pa_cons (pe_callB cq_lenS rfl T.n_len boot_len (pa_cons (pv 0) pa_nil)) pa_nil))) (blkOk_by (N := N__law_is_least) (sc := defScope s__law_is_least) (by decide +kernel)) (fun _ _ _ _ _ => (pg_name (i := 1) sc__law_is_least.nd rfl (Or.inl rfl))) (fun _ _ _ _ _ => pts_nil) (fun _ _ _ _ _ => (pe_cmpR oq_ltS (pv 0) (pe_slice C8.sl_txt (pv 0) (po_some (pv 1)) po_none) (nomark _)))) pa_nil)))))), ?_⟩
  try dsimp only [cxOf, Cx.nox, Cx.wish]
  obtain ⟨l, rfl, hl, k⟩ := h
  walk_at "go"
  refine rd_ndec (fun e => ?_) (fun e => ?_)
  · walk_at "go"
    refine lcR (fun _ => true) (fun y => .bl (decide (l < l.drop (1 + (y : Int)).toNat))) (by omega) (fun _ => rfl) (fun _ _ => pt_yes) (fun y hy _ H2 s2 Q1 q1 => ?_) (fun D H2 nD s2 hD => ?_)
    · walk_at "go"
      exact q1 _ (Same.refl _)
    rw [filter_yes] at hD
    walk_at "go"
    refine rd_all (bs := (List.range ((l.length : Int) - 1).toNat).map fun y : Nat => decide (l < l.drop (1 + (y : Int)).toNat)) (SqL.of (by rw [hD, List.map_map]; rfl)) ?_
    rw [lyB_list e]
    exact k _ s2
  · walk_at "go"
    subst e
    exact k _ (Same.refl _)
theorem turns_eq {l : List Nat} (hne : l ≠ []) : ((l, 0) :: turnsL l) = (List.range (l.length : Int).toNat).map fun y : Nat => (l.drop (0 + (y : Int)).toNat ++ l.take (0 + (y : Int)).toNat, 0 + (y : Int)) := by
  have hlp : 0 < l.length := List.length_pos_iff.mpr hne
  obtain ⟨n, hn⟩ : ∃ n, l.length = n + 1 := ⟨l.length - 1, by omega⟩
  unfold turnsL
  rw [Int.toNat_natCast, hn, List.range_succ_eq_map, List.map_cons, List.map_map, Nat.add_sub_cancel]
  congr 1
  · simp
  · refine List.map_congr_left fun y _ => ?_
    simp only [Function.comp]
    have e : (0 + ((y + 1 : Nat) : Int)).toNat = 1 + y := by omega
    rw [e]
    congr 1
    omega
theorem okW_of {n : Int} {l : List Nat} (h : Wd n l) (hn : n ≤ 4) : OkW l := fun c hc => by
  have := h c hc
  omega
theorem okW_turns {l : List Nat} (h : OkW l) : ∀ b ∈ (l, (0 : Int)) :: turnsL l, OkW b.1 := by
  intro b hb
  rcases List.mem_cons.mp hb with e | hb
  · subst e; exact h
  · unfold turnsL at hb
    obtain ⟨i, _, rfl⟩ := List.mem_map.mp hb
    intro c hc
    rcases List.mem_append.mp hc with z | z
    · exact h c (List.mem_of_mem_drop z)
    · exact h c (List.mem_of_mem_take z)
/-- the list of turns as the comprehension has made it -/
theorem lcTurns {l : List Nat} {σ : St} {vs : List Nat} {H : Hp} {Q : VK} {j : Nat} {te : TE} (hne : l ≠ []) (hl : l.length ≤ 300) (hw : ∀ x, wipe ((wipe σ vs).set j (some x)) vs = wipe σ vs)
    (he : ∀ (y : Nat) (H1 : Hp) (Q1 : VK), y < l.length → (∀ t, H1 t = none → Q1 (.ref t) (upd H1 t (.tup [.str (S (l.drop (0 + (y : Int)).toNat ++ l.take (0 + (y : Int)).toNat)), .int (0 + (y : Int))]))) → te ((wipe σ vs).set j (some (.int (0 + (y : Int))))) H1 Q1)
    (q : ∀ D vals H', Same H H' → H' D = some (.lst vals) → TupsAt H' vals ((l, 0) :: turnsL l) → Q (.ref D) H') : LcG (Itr 0 (l.length : Int).toNat) (gName j) tYes te vs σ Q H := by
  refine lcR_inv (fun D i acc H' => Same H H' ∧ TupsAt H' acc ((List.range i).map fun y : Nat => (l.drop (0 + (y : Int)).toNat ++ l.take (0 + (y : Int)).toNat, 0 + (y : Int)))) (by omega) hw (fun D nD => ⟨Same.new nD, .nil⟩) ?_ ?_
  · rintro D i acc H1 Q1 hi nD hlen ⟨s1, ht⟩ hD q1
    refine he i H1 Q1 (by omega) fun t nt => ?_
    have hDt := ne_of_none hD nt
    refine q1 _ _ (by rw [upd_ne hDt]; exact hD) ⟨Same.mut (s1.trans (Same.new nt)) nD, ?_⟩
    rw [List.range_succ, List.map_append]
    refine paired_snoc (Paired.mapP ht fun v a z => ?_) ⟨t, rfl, ?_⟩
    · obtain ⟨u, e, hu⟩ := z
      refine ⟨u, e, ?_⟩
      have h1 : u ≠ t := ne_of_none hu nt
      have h2 : u ≠ D := ne_of hu hD (by intro e; cases e)
      rw [upd_ne h2, upd_ne h1]
      exact hu
    · rw [upd_ne hDt.symm, upd_same]
  · rintro D acc H1 nD hlen ⟨s1, ht⟩ hD
    refine q D acc H1 s1 hD ?_
    rw [turns_eq hne]
    exact ht
theorem ok_least_turn {f : Addr} {fd : FuncData} (F : Fun K "least_turn" "least_turn" s_least_turn f fd) (T : Txt K mg) (C_check_filled : Cal P w K mg base 3 "check_filled" (sp_check_filled K)) : FnOk P w K mg base CX0 4 f fd ["word"] (sp_least_turn K) := by
  refine F.ok sc_least_turn (fun vs H Q E h => by repeat (first | (obtain ⟨rfl, _⟩ := h; rfl) | obtain ⟨_, h⟩ := h)) (fun cdv A outer s H vs Q E hr h => ?_)
  refine ⟨_, (pss_cons (ps_expr (pe_c C_check_filled hr (by decide) rfl (pa_cons (pv 0) pa_nil)))
  (pss_cons (ps_setLc (i := 1) (own := [("shift", 2)]) rfl sc_least_turn.nd rfl rfl (sw_true rfl rfl rfl (by decide +kernel)) (pi_range1 rfl T.n_range (pa_cons (pe_callB cq_lenS rfl T.n_len boot_len (pa_cons (pv 0) pa_nil)) pa_nil)) (blkOk_by (N := N_least_turn) (sc := defScope s_least_turn) (by decide +kernel)) (fun _ _ _ _ _ => (pg_name (i := 2) sc_least_turn.nd rfl (Or.inl rfl))) (fun _ _ _ _ _ => pts_nil) (fun _ _ _ _ _ => (pe_tup (pa_cons (pe_op oq_addS (pe_slice C8.sl_txt (pv 0) (po_some (pv 2)) po_none) (pe_slice C8.sl_txt (pv 0) po_none (po_some (pv 2)))) (pa_cons (pv 2) pa_nil)))))
  (pss_one (ps_ret (pe_callB (cr_minD rfl (Room.u100 hr)) rfl T.n_min boot_min (pa_cons (pv 1) pa_nil)))))), ?_⟩
  try dsimp only [cxOf, Cx.nox, Cx.wish]
  obtain ⟨l, rfl, hw, hl, hne, k⟩ := h
  have hlp : 0 < l.length := List.length_pos_iff.mpr hne
  walk_at "go"
  refine ⟨l, rfl, hw, hl, hne, fun H1 s1 => ?_⟩
  walk_at "go"
  refine lcTurns hne hl (fun _ => rfl) (fun y H2 Q2 hy q2 => ?_) (fun D vals H2 s2 hD ht => ?_)
  · walk_at "go"
    refine rd_cat (by rw [List.length_drop, List.length_take]; omega) ?_
    walk_at "go"
    exact q2
  · walk_at "go"
    refine rd_minSI (SqL.of hD) ht (okW_turns (okW_of hw (by decide))) fun t h2 => ?_
    exact k t _ (s1.trans s2) h2
theorem lrs_ne {l : List Nat} (hne : l ≠ []) : lrs l ≠ [] := by
  have hlp : 0 < l.length := List.length_pos_iff.mpr hne
  unfold lrs
  intro e
  rw [List.map_eq_nil_iff, List.filter_eq_nil_iff] at e
  have h2 := e (l.length - 1) (List.mem_range.mpr (by omega))
  rw [show 1 + (l.length - 1) = l.length by omega, Nat.div_self hlp, List.take_length] at h2
  simp [repL] at h2
theorem ok__law_root {f : Addr} {fd : FuncData} (F : Fun K "_law_root" "_law_root" s__law_root f fd) (T : Txt K mg) : FnOk P w K mg base CX0 1 f fd ["word"] (sp__law_root K) := by
  refine F.ok sc__law_root (fun vs H Q E h => by repeat (first | (obtain ⟨rfl, _⟩ := h; rfl) | obtain ⟨_, h⟩ := h)) (fun cdv A outer s H vs Q E hr h => ?_)
  refine ⟨_, (pss_one (ps_ret (pe_ix ix_list (pe_lc (own := [("part", 1)]) rfl sc__law_root.nd (pi_range2 rfl T.n_range (pa_cons pe_int (pa_cons (pe_op op_add (pe_callB cq_lenS rfl T.n_len boot_len (pa_cons (pv 0) pa_nil)) pe_int) pa_nil))) (blkOk_by (N := N__law_root) (sc := defScope s__law_root) (by decide +kernel)) (fun _ _ _ _ _ => (pg_name (i := 1) sc__law_root.nd rfl (Or.inl rfl))) (fun _ _ _ _ _ => (pts_one (pt_cmpR op_eq (pe_op op_mulS (pe_slice C8.sl_txt (pv 0) po_none (po_some (pv 1))) (pe_op op_fdiv (pe_callB cq_lenS rfl T.n_len boot_len (pa_cons (pv 0) pa_nil)) (pv 1))) (pv 0) (nomark _)))) (fun _ _ _ _ _ => (pe_slice C8.sl_txt (pv 0) po_none (po_some (pv 1))))) pe_int (fun _ _ => rfl)))), ?_⟩
  try dsimp only [cxOf, Cx.nox, Cx.wish]
  obtain ⟨l, rfl, hl, hne, k⟩ := h
  have hlp : 0 < l.length := List.length_pos_iff.mpr hne
  walk_at "go"
  have en : ((l.length : Int) + 1 - 1).toNat = l.length := by omega
  rw [en]
  have ey : ∀ y : Nat, (1 + (y : Int)).toNat = 1 + y := fun y => by omega
  refine lcR (fun y => decide (repL (l.take (1 + y)) (l.length / (1 + y)) = l)) (fun y => .str (S (l.take (1 + y)))) (by omega) (fun _ => rfl) (fun y hy H2 s2 Q1 q1 => ?_) (fun y hy _ H2 s2 Q1 q1 => ?_) (fun D H2 nD s2 hD => ?_)
  · walk_at "go"
    have e2 : (l.length : Int) / (1 + (y : Int)) = ((l.length / (1 + y) : Nat) : Int) := by
      rw [Int.natCast_ediv, Int.natCast_add]
      rfl
    have h3 : l.length / (1 + y) ≤ l.length := Nat.div_le_self _ _
    rw [e2]
    generalize l.length / (1 + y) = z at h3 q1
    refine rd_mulS (by omega) (by omega) (by rw [List.length_take]; omega) ?_
    rw [Int.toNat_natCast, ey]
    walk_at "go"
    exact q1 _ (Same.refl _)
  · walk_at "go"
    rw [ey]
    exact q1 _ (Same.refl _)
  · walk_at "go"
    obtain ⟨d, ds, hd⟩ : ∃ d ds, lrs l = d :: ds := by
      cases h : lrs l with
      | nil => exact absurd h (lrs_ne hne)
      | cons d ds => exact ⟨d, ds, rfl⟩
    have hm : ((List.range l.length).filter fun y => decide (repL (l.take (1 + y)) (l.length / (1 + y)) = l)).map (fun y => V.str (S (l.take (1 + y)))) = (lrs l).map fun d => V.str (S (l.take d)) := by
      unfold lrs
      rw [List.map_map]
      rfl
    rw [hm, hd] at hD
    refine rd_ixL (SqL.of hD) (v := .str (S (l.take d))) (atI_nat (j := 0) rfl) ?_
    have := k _ s2
    unfold lroot at this
    rw [hd] at this
    exact this
end
end My
namespace My
open PySem PySem.Spec L2 SX
open PyProof.Rows hiding St
open Lyn (sg rootN)
local macro_rules | `(tactic| walk_at "kb") => `(tactic| first | exact kb_str_str | exact kb_str_int | exact kb_str_bool | exact kb_str_list | exact kb_str_tuple | exact kb_int_str | exact kb_int_int | exact kb_int_bool | exact kb_int_list | exact kb_int_tuple | exact kb_bool_str | exact kb_bool_int | exact kb_bool_bool | exact kb_bool_list | exact kb_bool_tuple | exact kb_list_str | exact kb_list_int | exact kb_list_bool | exact kb_list_list | exact kb_list_tuple | exact kb_tuple_str | exact kb_tuple_int | exact kb_tuple_bool | exact kb_tuple_list | exact kb_tuple_tuple | exact kb_NoneType_str | exact kb_NoneType_int | exact kb_NoneType_bool | exact kb_NoneType_list | exact kb_NoneType_tuple)
local macro_rules | `(tactic| walk_at "hp") => `(tactic| first | assumption | exact upd_same | (refine (upd_ne (by first | assumption | (apply Ne.symm; assumption))).trans ?_; walk_at "hp"))
local macro_rules | `(tactic| walk_at "sq") => `(tactic| first | assumption | exact SqL.of (by walk_at "hp"))
local macro_rules | `(tactic| walk_at "sqt") => `(tactic| first | assumption | exact SqT.of (by walk_at "hp"))
local macro_rules | `(tactic| walk_at "ar") => `(tactic| first | omega | (dsimp only; omega) | (unfold CMul; omega) | (unfold CDiv; omega) | (unfold CPow; refine ⟨?_, ?_, ?_⟩ <;> decide) | (simp only [List.length_cons, List.length_nil]; decide))
local macro_rules | `(tactic| walk_at "rd") => `(tactic| first
  | with_reducible refine rd_seq ?_
  | with_reducible refine rd_asg ?_
  | with_reducible refine rd_if ?_
  | with_reducible refine rd_ret ?_
  | with_reducible refine rd_drop ?_
  | with_reducible refine rd_name ?_
  | with_reducible refine rd_sub ?_
  | ((with_reducible refine' rd_var ?e ?_); (case e => exact rfl))
  | with_reducible refine rd_c ?_
  | with_reducible refine rd_op ?_
  | with_reducible refine rd_un ?_
  | with_reducible refine rd_I0 ?_
  | ((with_reducible refine' rd_I ?c ?_); (case c => walk_at "ar"))
  | with_reducible refine rd_U ?_
  | with_reducible refine rd_eqI ?_
  | with_reducible refine rd_neI ?_
  | with_reducible refine rd_eqS ?_
  | with_reducible refine rd_neS ?_
  | with_reducible refine rd_eqB ?_
  | with_reducible refine rd_neB ?_
  | with_reducible refine rd_test ?_
  | with_reducible refine rd_B ?_
  | with_reducible refine rd_and ?_
  | with_reducible refine rd_or ?_
  | with_reducible refine rd_not ?_
  | with_reducible refine rd_andV ?_
  | with_reducible refine rd_orV ?_
  | with_reducible refine rd_notV ?_
  | with_reducible refine rd_ifE ?_
  | with_reducible refine rd_isN ?_
  | with_reducible refine rd_notN ?_
  | with_reducible refine rd_cons ?_
  | with_reducible refine rd_nil ?_
  | with_reducible refine rd_lst ?_
  | with_reducible refine rd_tup ?_
  | with_reducible refine rd_CB ?_
  | with_reducible refine rd_call ?_
  | with_reducible refine rd_sl ?_
  | with_reducible refine rd_part ?_
  | with_reducible refine rd_nopart ?_
  | with_reducible refine rd_par ?_
  | with_reducible refine rd_two ?_
  | with_reducible refine rd_next ?_
  | with_reducible refine rd_retN ?_
  | with_reducible refine rd_bool ?_
  | with_reducible refine rd_int ?_
  | with_reducible refine rd_intI ?_
  | with_reducible refine rd_intB ?_
  | with_reducible refine rd_ltS ?_
  | with_reducible refine rd_leS ?_
  | with_reducible refine rd_gtS ?_
  | with_reducible refine rd_geS ?_
  | with_reducible refine rd_inC ?_
  | with_reducible refine rd_notInC ?_
  | with_reducible refine rd_abs ?_
  | with_reducible refine rd_max2 ?_
  | with_reducible refine rd_min2 ?_
  | with_reducible refine rd_M1 ?_
  | with_reducible refine rd_isStr ?_
  | ((with_reducible refine' rd_len ?b ?_); (case b => (simp only [List.length_cons, List.length_nil]; decide)))
  | ((with_reducible refine' rd_listS ?b ?_); (case b => first | (simp only [List.length_take, List.length_cons, List.length_nil]; omega) | omega))
  | ((with_reducible refine' rd_isi ?ty ?h ?_); (case ty => first | exact ty_str | exact ty_int | exact ty_bl | exact ty_non | exact ty_lst (by walk_at "hp") | exact ty_tup (by walk_at "hp")); (case h => walk_at "kb"))
  | with_reducible refine rd_lc ?_
  | with_reducible refine rd_for ?_
  | with_reducible refine rd_iList ?_
  | with_reducible refine rd_iTup ?_
  | with_reducible refine rd_iRng1 ?_
  | with_reducible refine rd_iRng2 ?_
  | with_reducible refine rd_iRng3 ?_
  | with_reducible refine rd_iStr ?_
  | with_reducible refine rd_qIs ?_
  | with_reducible refine rd_whb ?_
  | ((with_reducible refine' rd_qIl ?sq ?_); (case sq => walk_at "sq"))
  | ((with_reducible refine' rd_qItu ?sq ?_); (case sq => walk_at "sqt"))
  | ((with_reducible refine' rd_qIr1 ?b1 ?b2 ?_); (case b1 => walk_at "ar"); (case b2 => walk_at "ar"))
  | ((with_reducible refine' rd_qIr2 ?b1 ?b2 ?b3 ?b4 ?_); (case b1 => walk_at "ar"); (case b2 => walk_at "ar"); (case b3 => walk_at "ar"); (case b4 => walk_at "ar"))
  | ((with_reducible refine' rd_qIr3 ?b1 ?b2 ?b3 ?b4 ?_); (case b1 => walk_at "ar"); (case b2 => walk_at "ar"); (case b3 => walk_at "ar"); (case b4 => walk_at "ar"))
  | ((with_reducible refine' rd_mulS ?b1 ?b2 ?b3 ?_); (case b1 => walk_at "ar"); (case b2 => walk_at "ar"); (case b3 => walk_at "ar"))
  | ((with_reducible refine' rd_slS_to ?b1 ?b2 ?_); (case b1 => walk_at "ar"); (case b2 => walk_at "ar"))
  | ((with_reducible refine' rd_slS_from ?b1 ?b2 ?_); (case b1 => walk_at "ar"); (case b2 => walk_at "ar"))
  | ((with_reducible refine' rd_slS_mid ?b1 ?b2 ?b3 ?b4 ?_); (case b1 => walk_at "ar"); (case b2 => walk_at "ar"); (case b3 => walk_at "ar"); (case b4 => walk_at "ar"))
  | ((with_reducible refine' rd_slL ?sq ?_); (case sq => walk_at "sq"))
  | with_reducible refine rd_true ?_
  | with_reducible refine rd_false ?_
  | with_reducible refine rd_nt ?_
  | with_reducible refine rd_nf ?_
  | ((with_reducible refine' rd_decT ?h ?_); (case h => omega))
  | ((with_reducible refine' rd_decF ?h ?_); (case h => omega))
  | ((with_reducible refine' rd_ndecT ?h ?_); (case h => omega))
  | ((with_reducible refine' rd_ndecF ?h ?_); (case h => omega))
  | ((with_reducible refine' rd_evT ?h ?_); (case h => first | exact rfl | (simp; done)))
  | ((with_reducible refine' rd_evF ?h ?_); (case h => first | exact rfl | (simp; done)))
  | ((with_reducible refine' rd_ixL ?sq ?a1 ?_); (case sq => walk_at "sq"); (case a1 => first | exact rfl | exact at_of (by omega) (by assumption)))
  | ((with_reducible refine' rd_ixT ?sq ?a1 ?_); (case sq => walk_at "sqt"); (case a1 => first | exact rfl | exact at_of (by omega) (by assumption)))
  | ((with_reducible refine' rd_lenL ?sq ?_); (case sq => walk_at "sq"))
  | ((with_reducible refine' rd_lenT ?sq ?_); (case sq => walk_at "sqt"))
  | ((with_reducible refine' rd_setL ?h ?j ?_); (case h => walk_at "hp"); (case j => exact rfl); (with_reducible refine id ?_))
  | ((with_reducible refine' rd_strlen ?l ?_); (case l => walk_at "ar"))
  | ((with_reducible refine' rd_cat ?l ?_); (case l => walk_at "ar")))
local macro_rules | `(tactic| walk_at "go") => `(tactic| ((try dsimp only); (repeat (walk_at "rd"))))

section
variable {P : Program} {w : World} {K : PySem.W.Frag} {mg : Str → Option Value} {base : Heap}
theorem txs_app {ws : List (List Nat)} {w : List Nat} : (ws.map fun w => V.str (S w)) ++ [V.str (S w)] = (ws ++ [w]).map fun w => V.str (S w) := by rw [List.map_append]; rfl
theorem ok_least_cuts {f : Addr} {fd : FuncData} (F : Fun K "least_cuts" "least_cuts" s_least_cuts f fd) (T : Txt K mg) (C_check_letters : Cal P w K mg base 2 "check_letters" (sp_check_letters K)) : FnOk P w K mg base CX0 3 f fd ["word"] (sp_least_cuts K) := by
  refine F.ok sc_least_cuts (fun vs H Q E h => by repeat (first | (obtain ⟨rfl, _⟩ := h; rfl) | obtain ⟨_, h⟩ := h)) (fun cdv A outer s H vs Q E hr h => ?_)
  refine ⟨_, (pss_cons (ps_expr (pe_c C_check_letters hr (by decide) rfl (pa_cons (pv 0) pa_nil)))
  (pss_cons (ps_par (i := 1) (j := 2) rfl sc_least_cuts.nd rfl rfl (by decide) rfl rfl (pa_cons (pe_lst pa_nil) (pa_cons pe_int pa_nil)) (by rfl))
  (pss_cons (ps_while PassesOwn.never (pt_cmpR op_lt (pv 2) (pe_callB cq_lenS rfl T.n_len boot_len (pa_cons (pv 0) pa_nil)) (nomark _)) (pss_cons (ps_par (i := 3) (j := 4) rfl sc_least_cuts.nd rfl rfl (by decide) rfl rfl (pa_cons (pe_op op_add (pv 2) pe_int) (pa_cons (pv 2) pa_nil)) (by rfl))
  (pss_cons (ps_while PassesOwn.never (PW.pt (pw_and (pt_cmpR op_lt (pv 3) (pe_callB cq_lenS rfl T.n_len boot_len (pa_cons (pv 0) pa_nil)) (nomark _)) (pw_and1 (pt_cmpR oq_leS (pe_ix ix_str (pv 0) (pv 4) (fun _ _ => rfl)) (pe_ix ix_str (pv 0) (pv 3) (fun _ _ => rfl)) (nomark _))))) (pss_cons (ps_set (i := 4) sc_least_cuts.nd rfl (Or.inl rfl) (pe_ifExp (pt_cmpR oq_ltS (pe_ix ix_str (pv 0) (pv 4) (fun _ _ => rfl)) (pe_ix ix_str (pv 0) (pv 3) (fun _ _ => rfl)) (nomark _)) (pv 2) (pe_op op_add (pv 4) pe_int)))
  (pss_one (ps_set (i := 3) sc_least_cuts.nd rfl (Or.inl rfl) (pe_op op_add (pv 3) pe_int)))))
  (pss_one (ps_while PassesOwn.never (pt_cmpR op_le (pv 2) (pv 4) (nomark _)) (pss_cons (ps_expr (pe_bm PySem.F.plainAttrs_list PySem.F.slot_list_append PySem.F.type_list_append mt_append (pv 1) (pa_cons (pe_slice C8.sl_txt (pv 0) (po_some (pv 2)) (po_some (pe_op op_sub (pe_op op_add (pv 2) (pv 3)) (pv 4)))) pa_nil)))
  (pss_one (ps_set (i := 2) sc_least_cuts.nd rfl (Or.inl rfl) (pe_op op_sub (pe_op op_add (pv 2) (pv 3)) (pv 4))))))))))
  (pss_one (ps_ret (pv 1)))))), ?_⟩
  try dsimp only [cxOf, Cx.nox, Cx.wish]
  obtain ⟨l, rfl, hw, hl, k⟩ := h
  walk_at "go"
  refine ⟨l, rfl, hw, hl, fun H1 s1 => ?_⟩
  walk_at "go"
  intro p np
  walk_at "go"
  refine rd_while (fun m σ' H' => ∃ (b : Nat) (fs : List (List Nat)) (va vb : Option V), m = l.length - b ∧ b ≤ l.length ∧ σ' = [some (.str (S l)), some (.ref p), some (.int (b : Int)), va, vb] ∧ Same H H' ∧ TxsAt H' p fs ∧ fs.length ≤ b ∧ (∀ gs, Lyn.Cut l b gs → Lyn.Cut l 0 (fs ++ gs))) _
    ⟨0, [], none, none, rfl, Nat.zero_le _, rfl, Same.mut s1 (s1.free np), upd_same, Nat.le_refl _, fun gs h => h⟩ ?_
  rintro m σ2 H2 ⟨b, fs, va, vb, rfl, hb, rfl, s2, h2, hf, hc⟩
  have nD : H p = none := s1.free np
  walk_at "go"
  refine rd_dec (fun e1 => ?_) (fun e1 => ?_)
  · have hbl : b < l.length := by omega
    walk_at "go"
    refine rd_whileX (fun m σ' H' => ∃ (c q : Nat), m = l.length - c ∧ b + q ≤ c ∧ c ≤ l.length ∧ 0 < q ∧ H' = H2 ∧ σ' = [some (.str (S l)), some (.ref p), some (.int (b : Int)), some (.int (c : Int)), some (.int ((c - q : Nat) : Int))] ∧ Lyn.Ly (sg l) b (b + q) ∧ Lyn.Pd (sg l) b q c)
      (fun σ' H' => ∃ (c q : Nat), b + q ≤ c ∧ c ≤ l.length ∧ 0 < q ∧ H' = H2 ∧ σ' = [some (.str (S l)), some (.ref p), some (.int (b : Int)), some (.int (c : Int)), some (.int ((c - q : Nat) : Int))] ∧ Lyn.Ly (sg l) b (b + q) ∧ Lyn.Pd (sg l) b q c ∧ (c = l.length ∨ sg l c < sg l (c - q))) (l.length - (b + 1))
      ⟨b + 1, 1, rfl, Nat.le_refl _, hbl, Nat.one_pos, rfl, by rw [Nat.add_sub_cancel]; rfl, Lyn.Ly.one, fun i h1 h2 => by omega⟩ ?_ ?_
    · rintro σ3 H3 ⟨c, q, hbc, hcl, hq, rfl, rfl, hly, hpd, hex⟩
      refine rd_while (fun m σ' H' => ∃ (t x : Nat) (fs : List (List Nat)), x = b + t * q ∧ x ≤ c ∧ m = c - x ∧ σ' = [some (.str (S l)), some (.ref p), some (.int (x : Int)), some (.int (c : Int)), some (.int ((c - q : Nat) : Int))] ∧ Same H H' ∧ TxsAt H' p fs ∧ fs.length ≤ x ∧ (∀ gs, Lyn.Cut l x gs → Lyn.Cut l 0 (fs ++ gs))) (c - b)
        ⟨0, b, fs, by omega, by omega, rfl, rfl, s2, h2, hf, hc⟩ ?_
      rintro m σ4 H4 ⟨t, x, fs4, hx, hxc, rfl, rfl, s4, h4, hf4, hc4⟩
      walk_at "go"
      have em : (t + 1) * q = t * q + q := Nat.succ_mul t q
      refine rd_dec (fun e2 => ?_) (fun e2 => ?_)
      · walk_at "go"
        refine rd_BM (p := p) (ys := []) ?_
        walk_at "go"
        refine ⟨tyL h4, ?_⟩
        walk_at "go"
        have e3 : ((x : Int) + (c : Int) - ((c - q : Nat) : Int)) = ((x + q : Nat) : Int) := by omega
        have e4 : ((x + q : Nat) : Int) - (x : Int) = ((q : Nat) : Int) := by omega
        rw [e3, e4, Int.toNat_natCast, Int.toNat_natCast]
        refine rd_app h4 (by rw [List.length_map]; omega) ?_
        walk_at "go"
        have hn := Lyn.Nx.of_pd hly hpd hbc hcl hex t (by omega)
        have hfac : (l.drop x).take q = Lyn.fac l x (x + q) := by unfold Lyn.fac; rw [Nat.add_sub_cancel_left]
        refine ⟨_, ?_, t + 1, x + q, fs4 ++ [Lyn.fac l x (x + q)], by omega, by omega, rfl, (by rw [e3]; rfl), Same.mut s4 nD, ?_, by rw [List.length_append]; simp only [List.length_cons, List.length_nil]; omega, fun gs hg => ?_⟩
        · omega
        · unfold TxsAt
          rw [upd_same, txs_app, hfac]
        · rw [List.append_assoc]
          refine hc4 _ ?_
          rw [← hx, show b + (t + 1) * q = x + q by omega] at hn
          exact .cons hn hg
      · walk_at "go"
        have ht : 0 < t := by
          cases t with
          | zero => omega
          | succ t => omega
        refine ⟨_, ?_, x, fs4, some (.int (c : Int)), some (.int ((c - q : Nat) : Int)), rfl, by omega, rfl, s4, h4, hf4, hc4⟩
        have : q ≤ t * q := Nat.le_mul_of_pos_left q ht
        omega
    · rintro hxx m σ3 H3 ⟨c, q, rfl, hbc, hcl, hq, rfl, rfl, hly, hpd⟩
      walk_at "go"
      refine rd_dec (fun e2 => ?_) (fun e2 => ?_)
      · have hc2 : c < l.length := by omega
        have hat : atI l (c : Int) = some (sg l c) := atI_nat (sg_at hc2)
        have hat2 : atI l ((c - q : Nat) : Int) = some (sg l (c - q)) := atI_nat (sg_at (by omega))
        walk_at "go"
        refine rd_ixS (by omega) hat2 ?_
        walk_at "go"
        refine rd_ixS (by omega) hat ?_
        walk_at "go"
        refine rd_ndec (fun e3 => ?_) (fun e3 => ?_)
        · walk_at "go"
          refine rd_ixS (by omega) hat2 ?_
          walk_at "go"
          refine rd_ixS (by omega) hat ?_
          walk_at "go"
          rw [one_lt] at e3
          refine rd_dec (fun e4 => ?_) (fun e4 => ?_)
          · rw [one_lt] at e4
            walk_at "go"
            refine ⟨_, ?_, c + 1, c + 1 - b, rfl, by omega, by omega, by omega, rfl, ?_, ?_, fun i h1 h2 => by omega⟩
            · omega
            · rw [show c + 1 - (c + 1 - b) = b by omega]; rfl
            · rw [show b + (c + 1 - b) = c + 1 by omega]
              exact hly.grow hpd hbc e4
          · rw [one_lt] at e4
            walk_at "go"
            refine ⟨_, ?_, c + 1, q, rfl, by omega, by omega, hq, rfl, ?_, hly, fun i h1 h2 => ?_⟩
            · omega
            · have e5 : ((c + 1 - q : Nat) : Int) = ((c - q : Nat) : Int) + 1 := by omega
              rw [e5]; rfl
            · by_cases g : i < c
              · exact hpd i h1 g
              · have : i = c := by omega
                subst this
                omega
        · walk_at "go"
          rw [one_lt] at e3
          exact hxx _ _ ⟨c, q, hbc, hcl, hq, rfl, rfl, hly, hpd, .inr e3⟩
      · walk_at "go"
        exact hxx _ _ ⟨c, q, hbc, hcl, hq, rfl, rfl, hly, hpd, .inl (by omega)⟩
  · walk_at "go"
    have e2 : b = l.length := by omega
    subst e2
    have := hc [] .nil
    rw [List.append_nil] at this
    exact k p fs _ nD s2 h2 this
theorem ok__law_all_cuts_0 {f : Addr} {fd : FuncData} (F : Fun K "_law_all_cuts" "_law_all_cuts" s__law_all_cuts f fd) (j : Nat) : FnOk P w K mg base CX0 (j + 1) f fd ["word"] (sp__law_all_cuts 0 K) := by
  refine F.ok sc__law_all_cuts (fun vs H Q E h => by obtain ⟨l, _, _, h, _⟩ := h; omega) (fun cdv A outer s H vs Q E hr h => ?_)
  obtain ⟨l, _, _, h, _⟩ := h
  omega
theorem ok__law_all_cuts {f : Addr} {fd : FuncData} {n k : Nat} (hk : 2 ≤ k) (C__law_all_cuts : Cal P w K mg base k "_law_all_cuts" (sp__law_all_cuts n K)) (F : Fun K "_law_all_cuts" "_law_all_cuts" s__law_all_cuts f fd) (T : Txt K mg) (C__law_is_least : Cal P w K mg base 1 "_law_is_least" (sp__law_is_least K)) : FnOk P w K mg base CX0 (k + 1) f fd ["word"] (sp__law_all_cuts (n + 1) K) := by
  refine F.ok sc__law_all_cuts (fun vs H Q E h => by repeat (first | (obtain ⟨rfl, _⟩ := h; rfl) | obtain ⟨_, h⟩ := h)) (fun cdv A outer s H vs Q E hr h => ?_)
  refine ⟨_, (pss_cons (ps_if (pt_cmpR op_eq (pv 0) (pe_strS [] rfl) (nomark _)) (pss_one (ps_ret (pe_lst (pa_cons (pe_lst pa_nil) pa_nil)))) pss_nil)
  (pss_cons (ps_set (i := 1) sc__law_all_cuts.nd rfl (Or.inl rfl) (pe_lst pa_nil))
  (pss_cons (ps_for PassesOwn.never rfl (pi_range2 rfl T.n_range (pa_cons pe_int (pa_cons (pe_op op_add (pe_callB cq_lenS rfl T.n_len boot_len (pa_cons (pv 0) pa_nil)) pe_int) pa_nil))) (pg_name (i := 2) sc__law_all_cuts.nd rfl (Or.inl rfl))
  (pss_one (ps_if (pt_val (pe_c C__law_is_least hr (by omega) rfl (pa_cons (pe_slice C8.sl_txt (pv 0) po_none (po_some (pv 2))) pa_nil))) (pss_one (ps_for PassesOwn.never rfl (pi_list (pe_c C__law_all_cuts hr (by omega) rfl (pa_cons (pe_slice C8.sl_txt (pv 0) (po_some (pv 2)) po_none) pa_nil))) (pg_name (i := 3) sc__law_all_cuts.nd rfl (Or.inl rfl))
  (pss_one (ps_if (PW.pt (pw_or (pt_cmpR (op_eqD hr.units) (pv 3) (pe_lst pa_nil) (nomark _)) (pw_or1 (pt_cmpR oq_leS (pe_ix ix_list (pv 3) pe_int (fun _ _ => rfl)) (pe_slice C8.sl_txt (pv 0) po_none (po_some (pv 2))) (nomark _))))) (pss_one (ps_expr (pe_bm PySem.F.plainAttrs_list PySem.F.slot_list_append PySem.F.type_list_append mt_append (pv 1) (pa_cons (pe_op op_cat (pe_lst (pa_cons (pe_slice C8.sl_txt (pv 0) po_none (po_some (pv 2))) pa_nil)) (pv 3)) pa_nil)))) pss_nil)))) pss_nil)))
  (pss_one (ps_ret (pv 1)))))), ?_⟩
  try dsimp only [cxOf, Cx.nox, Cx.wish]
  obtain ⟨l, rfl, hw, hln, hn3, k⟩ := h
  walk_at "go"
  refine rd_dec (fun e1 => ?_) (fun e1 => ?_)
  · subst e1
    walk_at "go"
    intro q nq
    walk_at "go"
    intro p np
    have hpq := ne_of_none (upd_same (H := H) (a := q) (o := HO.lst [])) np
    have np0 : H p = none := by
      rw [upd_ne hpq.symm] at np; exact np
    refine k p q [] _ np0 nq (Same.mut (Same.new nq) np0) upd_same ?_ .nil
    unfold TxsAt
    rw [upd_ne hpq, upd_same]
    rfl
  · have hlp : 0 < l.length := List.length_pos_iff.mpr e1
    obtain ⟨m, hm⟩ := Lyn.Nx.ex (s := sg l) (n := l.length) (b := 0) hlp
    walk_at "go"
    intro p np
    walk_at "go"
    have en : ((l.length : Int) + 1 - 1).toNat = l.length := by omega
    rw [en]
    have ey : ∀ y : Nat, (1 + (y : Int)).toNat = 1 + y := fun y => by omega
    obtain ⟨Al, hAl⟩ : ∃ Al : Nat → Hp → Prop, Al = fun i H' => (i < m ∧ H' p = some (.lst [])) ∨ (m ≤ i ∧ ∃ q fs, H q = none ∧ H' p = some (.lst [.ref q]) ∧ TxsAt H' q fs ∧ Lyn.Cut l 0 fs) := ⟨_, rfl⟩
    have keepA : ∀ {i : Nat} {H1 H2 : Hp}, Same H1 H2 → Al i H1 → Al i H2 := by
      intro i H1 H2 s1 a
      subst hAl
      rcases a with ⟨a1, a2⟩ | ⟨a1, q, fs, a2, a3, a4, a5⟩
      · exact .inl ⟨a1, s1 _ _ a2⟩
      · exact .inr ⟨a1, q, fs, a2, s1 _ _ a3, s1 _ _ a4, a5⟩
    have skipA : ∀ {i : Nat} {H1 : Hp}, i + 1 ≠ m → Al i H1 → Al (i + 1) H1 := by
      intro i H1 hi a
      subst hAl
      rcases a with ⟨a1, a2⟩ | ⟨a1, a2⟩
      · exact .inl ⟨by omega, a2⟩
      · exact .inr ⟨by omega, a2⟩
    refine forR (fun i σ' H' => ∃ (va vb : Option V), σ' = [some (.str (S l)), some (.ref p), va, vb] ∧ Same H H' ∧ Al i H') ?_ ?_ ?_
    · exact ⟨none, none, rfl, Same.new np, by subst hAl; exact .inl ⟨hm.1.1, upd_same⟩⟩
    · rintro i σ1 H1 hi ⟨va, vb, rfl, s1, a1⟩
      have hlen : (l.take (1 + i)).length = 1 + i := by rw [List.length_take]; omega
      walk_at "go"
      rw [ey]
      refine ⟨l.take (1 + i), rfl, by omega, fun H2 s2 => ?_⟩
      have hly : Lyn.lyB (l.take (1 + i)) 0 (l.take (1 + i)).length = true ↔ Lyn.Ly (sg l) 0 (1 + i) := by
        rw [Lyn.lyB_iff (Nat.le_refl _), hlen]
        exact Lyn.Ly.take (Nat.le_refl _)
      walk_at "go"
      refine rd_ite (fun e2 => ?_) (fun e2 => ?_)
      · have hly2 := hly.mp e2
        walk_at "go"
        rw [ey]
        refine ⟨l.drop (1 + i), rfl, fun c hc => hw c (List.mem_of_mem_drop hc), by rw [List.length_drop]; omega, by omega, fun r q fs H3 nr nq s3 hr3 hq3 hc3 => ?_⟩
        dsimp only
        refine rd_qIl (SqL.of hr3) ?_
        have s13 : Same H1 H3 := s2.trans s3
        have s03 : Same H H3 := s1.trans s13
        refine forL [q] V.ref (fun j σ' H' => ∃ (vb : Option V), σ' = [some (.str (S l)), some (.ref p), some (.int (1 + (i : Int))), vb] ∧ Same H H' ∧ H' r = some (.lst [.ref q]) ∧ TxsAt H' q fs ∧ (j = 0 → Al i H') ∧ (j = 1 → Al (i + 1) H')) ?_ ?_ ?_ ?_
        · exact ⟨_, rfl, s03, hr3, hq3, fun _ => keepA s13 a1, fun z => nomatch z⟩
        · rintro j σ4 H4 hj ⟨vb, rfl, s4, hr4, hq4, _⟩
          exact SqL.of hr4
        · rintro j y σ4 H4 hy ⟨vb, rfl, s4, hr4, hq4, ha4, _⟩
          have hj0 : j = 0 := by
            cases j with
            | zero => rfl
            | succ j => simp at hy
          subst hj0
          have hyq : y = q := by simpa using hy.symm
          subst hyq
          have a4 := ha4 rfl
          have fc := Lyn.first_cut hm (e := 1 + i) (by omega) hly2 hc3
          have hfs := hc3.len
          rw [List.length_drop] at hfs
          obtain ⟨o1, hp1⟩ : ∃ o, H1 p = some o := by
            subst hAl
            rcases a1 with ⟨_, b2⟩ | ⟨_, _, _, _, b2, _⟩
            · exact ⟨_, b2⟩
            · exact ⟨_, b2⟩
          have hyp : y ≠ p := (ne_of_none (s2 _ _ hp1) nq).symm
          have hrp : r ≠ p := (ne_of_none (s2 _ _ hp1) nr).symm
          -- what an item that is appended brings
          have good : 1 + i = m → ∀ H5, Same H4 H5 → tDrop (tBM K "list" rAppend (tVar 1) (tCons (tOp rCat (tLst (tCons (tSl C8.rSlX (tVar 0) tNoPart (tPart (tVar 2))) tNil)) (tVar 3)) tNil))
              { nx := fun σ' H' => ∃ (vb : Option V), σ' = [some (.str (S l)), some (.ref p), some (.int (1 + (i : Int))), vb] ∧ Same H H' ∧ H' r = some (.lst [.ref y]) ∧ TxsAt H' y fs ∧ (0 + 1 = 0 → Al i H') ∧ (0 + 1 = 1 → Al (i + 1) H'),
                rt := Q,
                bk := fun σ' H' => ∃ (va vb : Option V), σ' = [some (.str (S l)), some (.ref p), va, vb] ∧ Same H H' ∧ Al (i + 1) H',
                ct := fun σ' H' => ∃ (vb : Option V), σ' = [some (.str (S l)), some (.ref p), some (.int (1 + (i : Int))), vb] ∧ Same H H' ∧ H' r = some (.lst [.ref y]) ∧ TxsAt H' y fs ∧ (0 + 1 = 0 → Al i H') ∧ (0 + 1 = 1 → Al (i + 1) H') }
              [some (.str (S l)), some (.ref p), some (.int (1 + (i : Int))), some (.ref y)] H5 := by
            intro em H5 s5
            have hp5 : H5 p = some (.lst []) := by
              refine s5 _ _ ?_
              subst hAl
              rcases a4 with ⟨b1, b2⟩ | ⟨b1, _⟩
              · exact b2
              · omega
            refine rd_drop ?_
            refine rd_BM (p := p) (ys := []) ?_
            walk_at "go"
            refine ⟨tyL hp5, ?_⟩
            walk_at "go"
            intro u nu
            walk_at "go"
            have hy5 := s5 _ _ hq4
            have hyu := ne_of_none hy5 nu
            refine rd_catL upd_same (by rw [upd_ne hyu]; exact hy5) (by rw [List.length_map]; simp only [List.length_cons, List.length_nil]; omega) fun x nx => ?_
            have hxu : u ≠ x := ne_of_none upd_same nx
            have nx5 : H5 x = none := by
              rw [upd_ne hxu.symm] at nx; exact nx
            have hpx := ne_of_none hp5 nx5
            have hpu := ne_of_none hp5 nu
            have hyx := ne_of_none hy5 nx5
            have hrx := ne_of_none (s5 _ _ hr4) nx5
            have hru := ne_of_none (s5 _ _ hr4) nu
            walk_at "go"
            refine rd_app (xs := []) (by rw [upd_ne hpx, upd_ne hpu]; exact hp5) (by decide) ?_
            have sH : ∀ o1 o2 o3, Same H (upd (upd (upd H5 u o1) x o2) p o3) := fun o1 o2 o3 => by
              have s05 : Same H H5 := s4.trans s5
              refine Same.mut (fun b o e => ?_) np
              have e5 := s05 b o e
              rw [upd_ne (ne_of_none e5 nx5), upd_ne (ne_of_none e5 nu)]
              exact e5
            refine ⟨_, rfl, sH _ _ _, ?_, ?_, (fun z => nomatch z), fun _ => ?_⟩
            · rw [upd_ne hrp, upd_ne hrx, upd_ne hru]
              exact s5 _ _ hr4
            · unfold TxsAt
              rw [upd_ne hyp, upd_ne hyx, upd_ne hyu]
              exact hy5
            · subst hAl
              refine .inr ⟨by omega, x, Lyn.fac l 0 m :: fs, ?_, upd_same, ?_, .cons hm ?_⟩
              · cases q9 : H x with
                | none => rfl
                | some o => rw [(s4.trans s5) _ _ q9] at nx5; cases nx5
              · unfold TxsAt
                rw [upd_ne hpx.symm, upd_same, Lyn.fac_zero, ey, em]
                rfl
              · have := hc3.shift (by omega)
                rw [Nat.add_zero, em] at this
                exact this
          have hfsOk : ∀ w ∈ fs, OkW w := fun w hw2 c hc => by
            have := hw c (List.mem_of_mem_drop (hc3.mem w hw2 c hc))
            omega
          walk_at "go"
          intro z nz
          refine rd_eqLS (ns := fs) (ms := []) (SqL.of (by rw [upd_ne (ne_of_none hq4 nz)]; exact hq4)) (SqL.of upd_same) hfsOk (fun _ h => by cases h) ?_
          walk_at "go"
          have sz4 : Same H4 (upd H4 z (.lst [])) := Same.new nz
          refine rd_dec (fun e5 => ?_) (fun e5 => ?_)
          · walk_at "go"
            exact good (fc.mp (.inl e5)) _ sz4
          · walk_at "go"
            obtain ⟨g, gs, rfl⟩ : ∃ g gs, fs = g :: gs := by
              cases fs with
              | nil => exact absurd rfl e5
              | cons g gs => exact ⟨g, gs, rfl⟩
            refine rd_ixL (SqL.of (sz4 _ _ hq4)) (v := .str (S g)) (atI_nat (j := 0) rfl) ?_
            walk_at "go"
            rw [ey]
            refine rd_ndec (fun e6 => ?_) (fun e6 => ?_)
            · walk_at "go"
              exact good (fc.mp (.inr ⟨g, gs, rfl, e6⟩)) _ sz4
            · walk_at "go"
              refine ⟨_, rfl, s4.trans sz4, sz4 _ _ hr4, sz4 _ _ hq4, (fun z => nomatch z), fun _ => skipA (fun e => ?_) (keepA sz4 a4)⟩
              rcases fc.mpr (by omega) with h7 | ⟨g2, gs2, h7, h8⟩
              · cases h7
              · injection h7 with h9 _
                subst h9
                exact h8 e6
        · rintro σ4 H4 ⟨vb, rfl, s4, _, _, _, ha4⟩
          exact ⟨_, _, rfl, s4, ha4 rfl⟩
      · walk_at "go"
        refine ⟨_, _, rfl, s1.trans s2, skipA (fun e => ?_) (keepA s2 a1)⟩
        have : Lyn.Ly (sg l) 0 (1 + i) := by rw [Nat.add_comm, e]; exact hm.1
        rw [hly.mpr this] at e2
        cases e2
    · rintro σ1 H1 ⟨va, vb, rfl, s1, a1⟩
      walk_at "go"
      subst hAl
      rcases a1 with ⟨b1, _⟩ | ⟨_, q, fs, nq, hp1, hq1, hc1⟩
      · have := hm.2.1; omega
      · exact k p q fs _ np nq s1 hp1 hq1 hc1
end
end My
namespace My
open PySem PySem.Spec L2 SX
open PyProof.Rows hiding St
open Lyn (sg rootN)
/-! words that commute: what is asked, over all that are drawn -/
def comB (a b : List Nat) : Bool := a.isEmpty || b.isEmpty || (decide (a.take (rootN a) = a.take (lroot a)) && decide (b.take (rootN b) = b.take (lroot b)) && (decide (a ++ b = b ++ a) == decide (a.take (lroot a) = b.take (lroot b))))
theorem com1 : ((Wds.upto 2 4).all fun a => (Wds.upto 2 4).all fun b => comB a b) = true := by decide +kernel
theorem com2 : ((Wds.upto 2 4).all fun b => (List.range 2).all fun i => (List.range 4).all fun j => comB (repL b (1 + i)) (repL b j)) = true := by decide +kernel
theorem wd_upto {l : List Nat} {m : Nat} (h : Wd 2 l) (hl : (l.length : Int) ≤ m) : l ∈ Wds.upto 2 m := Wds.mem_upto (by omega) fun c hc => by have := h c hc; omega
theorem first1 : Lyn.Cut [98, 97, 99, 97, 99, 97] 0 [[98], [97, 99], [97, 99], [97]] :=
  .cons (e := 1) (Lyn.nxB_iff (by decide +kernel)) (.cons (e := 3) (Lyn.nxB_iff (by decide +kernel)) (.cons (e := 5) (Lyn.nxB_iff (by decide +kernel)) (.cons (e := 6) (Lyn.nxB_iff (by decide +kernel)) .nil)))
theorem first2 : ltv [98, 97, 98] = ([97, 98, 98], 1) := by decide +kernel
/-- one and two, as they are drawn -/
def Dom (a b : List Nat) : Prop := Wd 4 a ∧ Wd 4 b ∧ a.length ≤ 100 ∧ b.length ≤ 100 ∧ comB a b = true
theorem wd_mono {n m : Int} {l : List Nat} (h : Wd n l) (nm : n ≤ m) : Wd m l := fun c hc => by have := h c hc; omega
theorem wd_rep {n : Int} {l : List Nat} (h : Wd n l) : ∀ k, Wd n (repL l k)
  | 0 => fun c hc => by cases hc
  | k + 1 => fun c hc => by
    rcases List.mem_append.mp (show c ∈ l ++ repL l k from hc) with z | z
    · exact h c z
    · exact wd_rep h k c z
theorem dom1 {a b : List Nat} (ha : Wd 2 a) (hb : Wd 2 b) (la : (a.length : Int) ≤ 4) (lb : (b.length : Int) ≤ 4) : Dom a b :=
  ⟨wd_mono ha (by decide), wd_mono hb (by decide), by omega, by omega, List.all_eq_true.mp (List.all_eq_true.mp com1 a (wd_upto ha la)) b (wd_upto hb lb)⟩
theorem dom2 {b : List Nat} {i j : Nat} (hb : Wd 2 b) (lb : (b.length : Int) ≤ 4) (hi : i < 2) (hj : j < 4) : Dom (repL b (1 + i)) (repL b j) := by
  refine ⟨wd_mono (wd_rep hb _) (by decide), wd_mono (wd_rep hb _) (by decide), ?_, ?_, List.all_eq_true.mp (List.all_eq_true.mp (List.all_eq_true.mp com2 b (wd_upto hb lb)) i (List.mem_range.mpr hi)) j (List.mem_range.mpr hj)⟩
  · rw [repL_len]
    have : (1 + i) * b.length ≤ 2 * 4 := Nat.mul_le_mul (by omega) (by omega)
    omega
  · rw [repL_len]
    have : j * b.length ≤ 4 * 4 := Nat.mul_le_mul (by omega) (by omega)
    omega
theorem dom_use {a b : List Nat} (h : Dom a b) (ha : a ≠ []) (hb : b ≠ []) : a.take (rootN a) = a.take (lroot a) ∧ b.take (rootN b) = b.take (lroot b) ∧ (a ++ b = b ++ a ↔ a.take (lroot a) = b.take (lroot b)) := by
  have h2 := h.2.2.2.2
  unfold comB at h2
  rw [show a.isEmpty = false by cases a <;> simp_all, show b.isEmpty = false by cases b <;> simp_all, Bool.false_or, Bool.false_or, Bool.and_eq_true, Bool.and_eq_true, decide_eq_true_eq, decide_eq_true_eq, beq_iff_eq] at h2
  refine ⟨h2.1.1, h2.1.2, ?_⟩
  have := h2.2
  constructor
  · intro e
    rw [decide_eq_true e] at this
    exact of_decide_eq_true this.symm
  · intro e
    rw [decide_eq_true e] at this
    exact of_decide_eq_true this
/-! the least turn -/
theorem ltSI_trans {a b c : List Nat × Int} (h1 : ltSI a b = true) (h2 : ltSI b c = true) : ltSI a c = true := by
  unfold ltSI at *
  rw [Bool.or_eq_true, Bool.and_eq_true, decide_eq_true_eq, decide_eq_true_eq, decide_eq_true_eq] at *
  rcases h1 with h1 | ⟨e1, l1⟩
  · rcases h2 with h2 | ⟨e2, l2⟩
    · exact .inl (List.lt_trans h1 h2)
    · exact .inl (by rw [← e2]; exact h1)
  · rcases h2 with h2 | ⟨e2, l2⟩
    · exact .inl (by rw [e1]; exact h2)
    · exact .inr ⟨e1.trans e2, Int.lt_trans l1 l2⟩
theorem ltSI_irr (a : List Nat × Int) : ltSI a a = false := by
  unfold ltSI
  simp
theorem minSI_le : ∀ (t : List (List Nat × Int)) (a : List Nat × Int), minSI a t = a ∨ ltSI (minSI a t) a = true
  | [], a => .inl rfl
  | b :: t, a => by
    show minSI (if ltSI b a then b else a) t = a ∨ ltSI (minSI (if ltSI b a then b else a) t) a = true
    by_cases h : ltSI b a = true
    · rw [if_pos h]
      rcases minSI_le t b with e | e
      · rw [e]; exact .inr h
      · exact .inr (ltSI_trans e h)
    · rw [if_neg h]
      exact minSI_le t a
theorem minSI_eq : ∀ (t : List (List Nat × Int)) (a : List Nat × Int), minSI a t = a ↔ ∀ b ∈ t, ltSI b a = false
  | [], a => ⟨(fun _ b h => absurd h List.not_mem_nil), fun _ => rfl⟩
  | b :: t, a => by
    show minSI (if ltSI b a then b else a) t = a ↔ _
    by_cases h : ltSI b a = true
    · rw [if_pos h]
      constructor
      · intro e
        rcases minSI_le t b with e2 | e2
        · rw [e2] at e
          rw [e, ltSI_irr] at h
          cases h
        · rw [e] at e2
          have := ltSI_trans e2 h
          rw [ltSI_irr] at this
          cases this
      · intro e
        rw [e b List.mem_cons_self] at h
        cases h
    · rw [if_neg h, minSI_eq t a]
      constructor
      · intro e c hc
        rcases List.mem_cons.mp hc with z | z
        · subst z
          simpa using h
        · exact e c z
      · intro e c hc
        exact e c (List.mem_cons_of_mem _ hc)
theorem ltv_iff {l : List Nat} (hne : l ≠ []) : Lyn.lyB l 0 l.length = true ↔ (((ltv l).1 = l ∧ (ltv l).2 = 0) ∧ l.length / rootN l = 1) := by
  have hlp : 0 < l.length := List.length_pos_iff.mpr hne
  rw [Lyn.lyB_iff (Nat.le_refl _), Lyn.ly_iff hlp]
  have e1 : ((ltv l).1 = l ∧ (ltv l).2 = 0) ↔ ltv l = (l, 0) := by
    constructor
    · rintro ⟨h1, h2⟩; exact Prod.ext h1 h2
    · intro h; rw [h]; exact ⟨rfl, rfl⟩
  have e2 : rootN l = l.length ↔ l.length / rootN l = 1 := by
    have hlt := Per.lb_lt (s := Lyn.sg l) hlp
    constructor
    · intro e; rw [e]; exact Nat.div_self hlp
    · intro e
      unfold Lyn.rootN at e ⊢
      split
      · rename_i hz
        rw [if_pos hz] at e
        have := Nat.div_add_mod l.length (l.length - Per.lb (sg l) l.length)
        rw [e, hz] at this
        omega
      · rfl
  rw [e1, e2]
  unfold ltv
  rw [minSI_eq]
  refine and_congr ?_ Iff.rfl
  constructor
  · intro h b hb
    unfold turnsL at hb
    obtain ⟨i, hi, rfl⟩ := List.mem_map.mp hb
    have hi2 := List.mem_range.mp hi
    have := h (1 + i) (by omega) (by omega)
    unfold ltSI
    rw [decide_eq_false this, Bool.false_or]
    have : ¬ (((1 + i : Nat) : Int) < 0) := by omega
    simp only [decide_eq_false this, Bool.and_false]
  · intro h i h0 h1 lt
    have := h (l.drop (1 + (i - 1)) ++ l.take (1 + (i - 1)), ((1 + (i - 1) : Nat) : Int)) (List.mem_map.mpr ⟨i - 1, List.mem_range.mpr (by omega), rfl⟩)
    unfold ltSI at this
    rw [show 1 + (i - 1) = i by omega] at this
    rw [decide_eq_true lt] at this
    cases this
end My
namespace My
open PySem PySem.Spec L2 SX
open PyProof.Rows hiding St
open Lyn (sg rootN)
local macro_rules | `(tactic| walk_at "kb") => `(tactic| first | exact kb_str_str | exact kb_str_int | exact kb_str_bool | exact kb_str_list | exact kb_str_tuple | exact kb_int_str | exact kb_int_int | exact kb_int_bool | exact kb_int_list | exact kb_int_tuple | exact kb_bool_str | exact kb_bool_int | exact kb_bool_bool | exact kb_bool_list | exact kb_bool_tuple | exact kb_list_str | exact kb_list_int | exact kb_list_bool | exact kb_list_list | exact kb_list_tuple | exact kb_tuple_str | exact kb_tuple_int | exact kb_tuple_bool | exact kb_tuple_list | exact kb_tuple_tuple | exact kb_NoneType_str | exact kb_NoneType_int | exact kb_NoneType_bool | exact kb_NoneType_list | exact kb_NoneType_tuple)
local macro_rules | `(tactic| walk_at "hp") => `(tactic| first | assumption | exact upd_same | (refine (upd_ne (by first | assumption | (apply Ne.symm; assumption))).trans ?_; walk_at "hp"))
local macro_rules | `(tactic| walk_at "sq") => `(tactic| first | assumption | exact SqL.of (by walk_at "hp"))
local macro_rules | `(tactic| walk_at "sqt") => `(tactic| first | assumption | exact SqT.of (by walk_at "hp"))
local macro_rules | `(tactic| walk_at "ar") => `(tactic| first | omega | (dsimp only; omega) | (unfold CMul; omega) | (unfold CDiv; omega) | (unfold CPow; refine ⟨?_, ?_, ?_⟩ <;> decide) | (simp only [List.length_cons, List.length_nil]; decide))
local macro_rules | `(tactic| walk_at "rd") => `(tactic| first
  | with_reducible refine rd_seq ?_
  | with_reducible refine rd_asg ?_
  | with_reducible refine rd_if ?_
  | with_reducible refine rd_ret ?_
  | with_reducible refine rd_drop ?_
  | with_reducible refine rd_name ?_
  | with_reducible refine rd_sub ?_
  | ((with_reducible refine' rd_var ?e ?_); (case e => exact rfl))
  | with_reducible refine rd_c ?_
  | with_reducible refine rd_op ?_
  | with_reducible refine rd_un ?_
  | with_reducible refine rd_I0 ?_
  | ((with_reducible refine' rd_I ?c ?_); (case c => walk_at "ar"))
  | with_reducible refine rd_U ?_
  | with_reducible refine rd_eqI ?_
  | with_reducible refine rd_neI ?_
  | with_reducible refine rd_eqS ?_
  | with_reducible refine rd_neS ?_
  | with_reducible refine rd_eqB ?_
  | with_reducible refine rd_neB ?_
  | with_reducible refine rd_test ?_
  | with_reducible refine rd_B ?_
  | with_reducible refine rd_and ?_
  | with_reducible refine rd_or ?_
  | with_reducible refine rd_not ?_
  | with_reducible refine rd_andV ?_
  | with_reducible refine rd_orV ?_
  | with_reducible refine rd_notV ?_
  | with_reducible refine rd_ifE ?_
  | with_reducible refine rd_isN ?_
  | with_reducible refine rd_notN ?_
  | with_reducible refine rd_cons ?_
  | with_reducible refine rd_nil ?_
  | with_reducible refine rd_lst ?_
  | with_reducible refine rd_tup ?_
  | with_reducible refine rd_CB ?_
  | with_reducible refine rd_call ?_
  | with_reducible refine rd_sl ?_
  | with_reducible refine rd_part ?_
  | with_reducible refine rd_nopart ?_
  | with_reducible refine rd_par ?_
  | with_reducible refine rd_two ?_
  | with_reducible refine rd_next ?_
  | with_reducible refine rd_retN ?_
  | with_reducible refine rd_bool ?_
  | with_reducible refine rd_int ?_
  | with_reducible refine rd_intI ?_
  | with_reducible refine rd_intB ?_
  | with_reducible refine rd_ltS ?_
  | with_reducible refine rd_leS ?_
  | with_reducible refine rd_gtS ?_
  | with_reducible refine rd_geS ?_
  | with_reducible refine rd_inC ?_
  | with_reducible refine rd_notInC ?_
  | with_reducible refine rd_abs ?_
  | with_reducible refine rd_max2 ?_
  | with_reducible refine rd_min2 ?_
  | with_reducible refine rd_M1 ?_
  | with_reducible refine rd_isStr ?_
  | ((with_reducible refine' rd_len ?b ?_); (case b => (simp only [List.length_cons, List.length_nil]; decide)))
  | ((with_reducible refine' rd_listS ?b ?_); (case b => first | (simp only [List.length_take, List.length_cons, List.length_nil]; omega) | omega))
  | ((with_reducible refine' rd_isi ?ty ?h ?_); (case ty => first | exact ty_str | exact ty_int | exact ty_bl | exact ty_non | exact ty_lst (by walk_at "hp") | exact ty_tup (by walk_at "hp")); (case h => walk_at "kb"))
  | with_reducible refine rd_lc ?_
  | with_reducible refine rd_for ?_
  | with_reducible refine rd_iList ?_
  | with_reducible refine rd_iTup ?_
  | with_reducible refine rd_iRng1 ?_
  | with_reducible refine rd_iRng2 ?_
  | with_reducible refine rd_iRng3 ?_
  | with_reducible refine rd_iStr ?_
  | with_reducible refine rd_qIs ?_
  | with_reducible refine rd_whb ?_
  | ((with_reducible refine' rd_qIl ?sq ?_); (case sq => walk_at "sq"))
  | ((with_reducible refine' rd_qItu ?sq ?_); (case sq => walk_at "sqt"))
  | ((with_reducible refine' rd_qIr1 ?b1 ?b2 ?_); (case b1 => walk_at "ar"); (case b2 => walk_at "ar"))
  | ((with_reducible refine' rd_qIr2 ?b1 ?b2 ?b3 ?b4 ?_); (case b1 => walk_at "ar"); (case b2 => walk_at "ar"); (case b3 => walk_at "ar"); (case b4 => walk_at "ar"))
  | ((with_reducible refine' rd_qIr3 ?b1 ?b2 ?b3 ?b4 ?_); (case b1 => walk_at "ar"); (case b2 => walk_at "ar"); (case b3 => walk_at "ar"); (case b4 => walk_at "ar"))
  | ((with_reducible refine' rd_mulS ?b1 ?b2 ?b3 ?_); (case b1 => walk_at "ar"); (case b2 => walk_at "ar"); (case b3 => walk_at "ar"))
  | ((with_reducible refine' rd_slS_to ?b1 ?b2 ?_); (case b1 => walk_at "ar"); (case b2 => walk_at "ar"))
  | ((with_reducible refine' rd_slS_from ?b1 ?b2 ?_); (case b1 => walk_at "ar"); (case b2 => walk_at "ar"))
  | ((with_reducible refine' rd_slS_mid ?b1 ?b2 ?b3 ?b4 ?_); (case b1 => walk_at "ar"); (case b2 => walk_at "ar"); (case b3 => walk_at "ar"); (case b4 => walk_at "ar"))
  | ((with_reducible refine' rd_slL ?sq ?_); (case sq => walk_at "sq"))
  | with_reducible refine rd_true ?_
  | with_reducible refine rd_false ?_
  | with_reducible refine rd_nt ?_
  | with_reducible refine rd_nf ?_
  | ((with_reducible refine' rd_decT ?h ?_); (case h => omega))
  | ((with_reducible refine' rd_decF ?h ?_); (case h => omega))
  | ((with_reducible refine' rd_ndecT ?h ?_); (case h => omega))
  | ((with_reducible refine' rd_ndecF ?h ?_); (case h => omega))
  | ((with_reducible refine' rd_evT ?h ?_); (case h => first | exact rfl | (simp; done)))
  | ((with_reducible refine' rd_evF ?h ?_); (case h => first | exact rfl | (simp; done)))
  | ((with_reducible refine' rd_ixL ?sq ?a1 ?_); (case sq => walk_at "sq"); (case a1 => first | exact rfl | exact at_of (by omega) (by assumption)))
  | ((with_reducible refine' rd_ixT ?sq ?a1 ?_); (case sq => walk_at "sqt"); (case a1 => first | exact rfl | exact at_of (by omega) (by assumption)))
  | ((with_reducible refine' rd_lenL ?sq ?_); (case sq => walk_at "sq"))
  | ((with_reducible refine' rd_lenT ?sq ?_); (case sq => walk_at "sqt"))
  | ((with_reducible refine' rd_setL ?h ?j ?_); (case h => walk_at "hp"); (case j => exact rfl); (with_reducible refine id ?_))
  | ((with_reducible refine' rd_strlen ?l ?_); (case l => walk_at "ar"))
  | ((with_reducible refine' rd_cat ?l ?_); (case l => walk_at "ar")))
local macro_rules | `(tactic| walk_at "go") => `(tactic| ((try dsimp only); (repeat (walk_at "rd"))))

theorem minSI_mem : ∀ (t : List (List Nat × Int)) (a : List Nat × Int), minSI a t ∈ a :: t
  | [], a => List.mem_cons_self
  | b :: t, a => by
    show minSI (if ltSI b a then b else a) t ∈ a :: b :: t
    by_cases h : ltSI b a = true
    · rw [if_pos h]
      exact List.mem_cons_of_mem _ (minSI_mem t b)
    · rw [if_neg h]
      rcases List.mem_cons.mp (minSI_mem t a) with e | e
      · rw [e]; exact List.mem_cons_self
      · exact List.mem_cons_of_mem _ (List.mem_cons_of_mem _ e)
section
variable {P : Program} {w : World} {K : PySem.W.Frag} {mg : Str → Option Value} {base : Heap}
theorem ok_law {f : Addr} {fd : FuncData} (F : Fun K "law" "law" s_law f fd) (T : Txt K mg) (C__law_hand : Cal P w K mg base 1 "_law_hand" (sp__law_hand K)) (C_least_cuts : Cal P w K mg base 3 "least_cuts" (sp_least_cuts K)) (C_least_turn : Cal P w K mg base 4 "least_turn" (sp_least_turn K)) (C__law_word : Cal P w K mg base 3 "_law_word" (sp__law_word K)) (C__law_draw : Cal P w K mg base 1 "_law_draw" (sp__law_draw K)) (C_do_commute : Cal P w K mg base 3 "do_commute" (sp_do_commute K)) (C__law_is : Cal P w K mg base 2 "_law_is" (sp__law_is K)) (C__law_root : Cal P w K mg base 1 "_law_root" (sp__law_root K)) (C_root_of : Cal P w K mg base 5 "root_of" (sp_root_of K)) (C_common_root : Cal P w K mg base 6 "common_root" (sp_common_root K)) (C__law_all_cuts : Cal P w K mg base 12 "_law_all_cuts" (sp__law_all_cuts 10 K)) (C_is_least_of_ends : Cal P w K mg base 4 "is_least_of_ends" (sp_is_least_of_ends K)) (C__law_is_least : Cal P w K mg base 1 "_law_is_least" (sp__law_is_least K)) : FnOk P w K mg base CX0 13 f fd ["script"] (sp_law K) := by
  refine F.ok sc_law (fun vs H Q E h => by repeat (first | (obtain ⟨rfl, _⟩ := h; rfl) | obtain ⟨_, h⟩ := h)) (fun cdv A outer s H vs Q E hr h => ?_)
  refine ⟨_, (pss_cons (ps_set (i := 1) sc_law.nd rfl (Or.inl rfl) (pe_c C__law_hand hr (by decide) rfl (pa_cons (pv 0) pa_nil)))
  (pss_cons (ps_if (PW.pt (pw_or (pt_cmpR (op_neD hr.units) (pe_c C_least_cuts hr (by decide) rfl (pa_cons (pe_replLit [98, 97, 99, 97, 99, 97] (by decide +kernel) (by decide +kernel)) pa_nil)) (pe_lst (pa_cons (pe_strS [98] rfl) (pa_cons (pe_strS [97, 99] rfl) (pa_cons (pe_strS [97, 99] rfl) (pa_cons (pe_strS [97] rfl) pa_nil))))) (nomark _)) (pw_or1 (pt_cmpR (op_neD hr.units) (pe_c C_least_turn hr (by decide) rfl (pa_cons (pe_strS [98, 97, 98] rfl) pa_nil)) (pe_tup (pa_cons (pe_strS [97, 98, 98] rfl) (pa_cons pe_int pa_nil))) (nomark _))))) (pss_one (ps_ret pe_bl)) pss_nil)
  (pss_cons (ps_for PassesOwn.never rfl (pi_range1 rfl T.n_range (pa_cons pe_int pa_nil)) (pg_name (i := 2) sc_law.nd rfl (Or.inl rfl))
  (pss_cons (ps_par (i := 3) (j := 4) rfl sc_law.nd rfl rfl (by decide) rfl rfl (pa_cons (pe_c C__law_word hr (by decide) rfl (pa_cons (pv 1) (pa_cons pe_int (pa_cons pe_int pa_nil)))) (pa_cons (pe_c C__law_word hr (by decide) rfl (pa_cons (pv 1) (pa_cons pe_int (pa_cons pe_int pa_nil)))) pa_nil)) (by rfl))
  (C8.pss_cut (ps_if (pt_cmpR op_eq (pe_c C__law_draw hr (by decide) rfl (pa_cons (pv 1) (pa_cons pe_int pa_nil))) pe_int (nomark _)) (pss_one (ps_par (i := 3) (j := 4) rfl sc_law.nd rfl rfl (by decide) rfl rfl (pa_cons (pe_op op_mulS (pv 4) (pe_op op_add pe_int (pe_c C__law_draw hr (by decide) rfl (pa_cons (pv 1) (pa_cons pe_int pa_nil))))) (pa_cons (pe_op op_mulS (pv 4) (pe_c C__law_draw hr (by decide) rfl (pa_cons (pv 1) (pa_cons pe_int pa_nil)))) pa_nil)) (by rfl))) pss_nil)
  (pss_cons (ps_set (i := 5) sc_law.nd rfl (Or.inl rfl) (pe_cmpR op_eq (pe_op oq_addS (pv 3) (pv 4)) (pe_op oq_addS (pv 4) (pv 3)) (nomark _)))
  (pss_cons (ps_if (pt_not (pt_val (pe_c C__law_is hr (by decide) rfl (pa_cons (pe_c C_do_commute hr (by decide) rfl (pa_cons (pv 3) (pa_cons (pv 4) pa_nil))) (pa_cons (pv 5) pa_nil))))) (pss_one (ps_ret pe_bl)) pss_nil)
  (C8.pss_cut (ps_if (PW.pt (pw_and (pt_cmpR op_ne (pv 3) (pe_strS [] rfl) (nomark _)) (pw_and1 (pt_cmpR op_ne (pv 4) (pe_strS [] rfl) (nomark _))))) (pss_cons (ps_set (i := 6) sc_law.nd rfl (Or.inl rfl) (pe_lst (pa_cons (pe_c C__law_root hr (by decide) rfl (pa_cons (pv 3) pa_nil)) (pa_cons (pe_c C__law_root hr (by decide) rfl (pa_cons (pv 4) pa_nil)) pa_nil))))
  (pss_cons (ps_if (PW.pt (pw_or (pt_cmpR op_ne (pv 5) (pe_cmpR op_eq (pe_ix ix_list (pv 6) pe_int (fun _ _ => rfl)) (pe_ix ix_list (pv 6) pe_int (fun _ _ => rfl)) (nomark _)) (nomark _)) (pw_or1 (pt_cmpR op_ne (pe_ix ix_tup (pe_c C_root_of hr (by decide) rfl (pa_cons (pv 3) pa_nil)) pe_int (fun _ _ => rfl)) (pe_ix ix_list (pv 6) pe_int (fun _ _ => rfl)) (nomark _))))) (pss_one (ps_ret pe_bl)) pss_nil)
  (pss_one (ps_if (pt_not (pt_val (pe_c C__law_is hr (by decide) rfl (pa_cons (pe_c C_common_root hr (by decide) rfl (pa_cons (pv 3) (pa_cons (pv 4) pa_nil))) (pa_cons (pe_ifExp (pt_val (pv 5)) (pe_ix ix_list (pv 6) pe_int (fun _ _ => rfl)) pe_non) pa_nil))))) (pss_one (ps_ret pe_bl)) pss_nil)))) pss_nil)
  (pss_cons (ps_set (i := 7) sc_law.nd rfl (Or.inr rfl) (pe_c C__law_word hr (by decide) rfl (pa_cons (pv 1) (pa_cons (pe_op op_add pe_int (pe_c C__law_draw hr (by decide) rfl (pa_cons (pv 1) (pa_cons pe_int pa_nil)))) (pa_cons pe_int pa_nil)))))
  (pss_cons (ps_set (i := 8) sc_law.nd rfl (Or.inl rfl) (pe_c C__law_all_cuts hr (by decide) rfl (pa_cons (pv 7) pa_nil)))
  (pss_cons (ps_if (PW.pt (pw_or (pt_cmpR op_ne (pe_callB cq_len rfl T.n_len boot_len (pa_cons (pv 8) pa_nil)) pe_int (nomark _)) (pw_or1 (pt_not (pt_val (pe_c C__law_is hr (by decide) rfl (pa_cons (pe_c C_least_cuts hr (by decide) rfl (pa_cons (pv 7) pa_nil)) (pa_cons (pe_ix ix_list (pv 8) pe_int (fun _ _ => rfl)) pa_nil)))))))) (pss_one (ps_ret pe_bl)) pss_nil)
  (pss_one (ps_if (pt_cmpR op_ne (pv 7) (pe_strS [] rfl) (nomark _)) (pss_cons (ps_if (pt_not (pt_val (pe_c C__law_is hr (by decide) rfl (pa_cons (pe_c C_is_least_of_ends hr (by decide) rfl (pa_cons (pv 7) pa_nil)) (pa_cons (pe_c C__law_is_least hr (by decide) rfl (pa_cons (pv 7) pa_nil)) pa_nil))))) (pss_one (ps_ret pe_bl)) pss_nil)
  (pss_cons (ps_setLc (i := 9) (own := [("shift", 10)]) rfl sc_law.nd rfl rfl (sw_true rfl rfl rfl (by decide +kernel)) (pi_range1 rfl T.n_range (pa_cons (pe_callB cq_lenS rfl T.n_len boot_len (pa_cons (pv 7) pa_nil)) pa_nil)) (blkOk_by (N := N_law) (sc := defScope s_law) (by decide +kernel)) (fun _ _ _ _ _ => (pg_name (i := 10) sc_law.nd rfl (Or.inl rfl))) (fun _ _ _ _ _ => pts_nil) (fun _ _ _ _ _ => (pe_tup (pa_cons (pe_op oq_addS (pe_slice C8.sl_txt (pv 7) (po_some (pv 10)) po_none) (pe_slice C8.sl_txt (pv 7) po_none (po_some (pv 10)))) (pa_cons (pv 10) pa_nil)))))
  (pss_cons (ps_if (pt_not (pt_val (pe_c C__law_is hr (by decide) rfl (pa_cons (pe_c C_least_turn hr (by decide) rfl (pa_cons (pv 7) pa_nil)) (pa_cons (pe_callB (cr_minD rfl (Room.u100 hr)) rfl T.n_min boot_min (pa_cons (pv 9) pa_nil)) pa_nil))))) (pss_one (ps_ret pe_bl)) pss_nil)
  (pss_one (ps_if (pt_cmpR op_ne (pe_c C_is_least_of_ends hr (by decide) rfl (pa_cons (pv 7) pa_nil)) (pe_and (pe_cmpR (op_eqD hr.units) (pe_c C_least_turn hr (by decide) rfl (pa_cons (pv 7) pa_nil)) (pe_tup (pa_cons (pv 7) (pa_cons pe_int pa_nil))) (nomark _)) (pe_one (pe_cmpR op_eq (pe_ix ix_tup (pe_c C_root_of hr (by decide) rfl (pa_cons (pv 7) pa_nil)) pe_int (fun _ _ => rfl)) pe_int (nomark _)))) (nomark _)) (pss_one (ps_ret pe_bl)) pss_nil))))) pss_nil)))))))))))
  (pss_one (ps_ret pe_bl))))), ?_⟩
  try dsimp only [cxOf, Cx.nox, Cx.wish]
  obtain ⟨a, ns, rfl, hs, k⟩ := h
  walk_at "go"
  refine ⟨a, ns, rfl, hs, fun hd c H1 HA s1 => ?_⟩
  walk_at "go"
  refine ⟨[98, 97, 99, 97, 99, 97], rfl, (by unfold Wd; decide), by decide, fun p fs H2 np s2 h2 hc => ?_⟩
  obtain rfl := hc.one first1
  walk_at "go"
  intro q nq
  refine rd_neLS (SqL.of (show upd H2 q _ p = _ by rw [upd_ne (ne_of_none h2 nq)]; exact h2)) (ms := [[98], [97, 99], [97, 99], [97]]) (SqL.of upd_same) (by unfold OkW; decide) (by unfold OkW; decide) ?_
  have s3 : Same H1 (upd H2 q (HO.lst [V.str (S [98]), V.str (S [97, 99]), V.str (S [97, 99]), V.str (S [97])])) := s2.trans (Same.new nq)
  walk_at "go"
  refine ⟨[98, 97, 98], rfl, (by unfold Wd; decide), by decide, by decide, fun t H3 s4 h4 => ?_⟩
  walk_at "go"
  intro r nr
  rw [first2] at h4
  refine rd_neTSI (SqT.of (show upd H3 r _ t = _ by rw [upd_ne (ne_of_none h4 nr)]; exact h4)) (SqT.of upd_same) (by unfold OkW; decide) (by unfold OkW; decide) ?_
  have s5 : Same H1 (upd H3 r (HO.tup [V.str (S [97, 98, 98]), V.int 1])) := (s3.trans s4).trans (Same.new nr)
  walk_at "go"
  refine forR (fun i σ' H' => ∃ v2 v3 v4 v5 v6 v7 v8 v9 v10, σ' = [some (.ref a), some (.ref hd), v2, v3, v4, v5, v6, v7, v8, v9, v10] ∧ HandAt H' hd c) ⟨_, _, _, _, _, _, _, _, _, rfl, HA.keep s5⟩ ?_ ?_
  · rintro i σ1 H4 hi ⟨v2, v3, v4, v5, v6, v7, v8, v9, v10, rfl, HA4⟩
    walk_at "go"
    refine ⟨hd, c, 2, 4, rfl, HA4, by decide, by decide, by decide, by decide, fun w1 H5 hw1 hl1 HA5 _ => ?_⟩
    walk_at "go"
    refine ⟨hd, c, 2, 4, rfl, HA5, by decide, by decide, by decide, by decide, fun w2 H6 hw2 hl2 HA6 _ => ?_⟩
    walk_at "go"
    refine ⟨fun σ' H' => ∃ x y v2 v5 v6 v7 v8 v9 v10, σ' = [some (.ref a), some (.ref hd), v2, some (.str (S x)), some (.str (S y)), v5, v6, v7, v8, v9, v10] ∧ Dom x y ∧ HandAt H' hd c, ?_, ?_⟩
    · walk_at "go"
      refine ⟨hd, c, 2, rfl, HA6, by decide, by decide, fun d H7 d0 d2 HA7 _ => ?_⟩
      walk_at "go"
      refine rd_dec (fun e1 => ?_) (fun e1 => ?_)
      · walk_at "go"
        refine ⟨hd, c, 2, rfl, HA7, by decide, by decide, fun i1 H8 i10 i12 HA8 _ => ?_⟩
        walk_at "go"
        refine ⟨hd, c, 4, rfl, HA8, by decide, by decide, fun j1 H9 j10 j12 HA9 _ => ?_⟩
        walk_at "go"
        refine ⟨_, _, _, _, _, _, _, _, _, rfl, ?_, HA9⟩
        obtain ⟨i2, rfl⟩ := Int.eq_ofNat_of_zero_le i10
        obtain ⟨j2, rfl⟩ := Int.eq_ofNat_of_zero_le j10
        have e2 : (1 + (i2 : Int)).toNat = 1 + i2 := by omega
        rw [e2, Int.toNat_natCast]
        exact dom2 hw2 hl2 (by omega) (by omega)
      · walk_at "go"
        exact ⟨_, _, _, _, _, _, _, _, _, rfl, dom1 hw1 hw2 hl1 hl2, HA7⟩
    · rintro σ2 H7 ⟨x, y, v2, v5, v6, v7, v8, v9, v10, rfl, hdom, HA7⟩
      obtain ⟨wx, wy, lx, ly, _⟩ := id hdom
      walk_at "go"
      refine ⟨x, y, rfl, wx, wy, by omega, by omega, fun H8 s8 => ?_⟩
      walk_at "go"
      refine ⟨_, _, rfl, .inl ⟨rfl, .inr (.inl ⟨_, rfl⟩)⟩, fun H9 s9 => ?_⟩
      have HA9 := HandAt.keep (HandAt.keep HA7 s8) s9
      walk_at "go"
      refine ⟨fun σ' H' => ∃ v2 v3 v4 v5 v6 v7 v8 v9 v10, σ' = [some (.ref a), some (.ref hd), v2, v3, v4, v5, v6, v7, v8, v9, v10] ∧ HandAt H' hd c, ?_, ?_⟩
      · walk_at "go"
        refine rd_ndec (fun ex => ?_) (fun ex => ?_)
        · walk_at "go"
          refine rd_ndec (fun ey => ?_) (fun ey => ?_)
          · obtain ⟨dx, dy, dc⟩ := dom_use hdom ex ey
            walk_at "go"
            refine ⟨x, rfl, by omega, ex, fun H10 s10 => ?_⟩
            walk_at "go"
            refine ⟨y, rfl, by omega, ey, fun H11 s11 => ?_⟩
            walk_at "go"
            intro u nu
            walk_at "go"
            have hu : ∀ H', Same (upd H11 u (.lst [V.str (S (List.take (lroot x) x)), V.str (S (List.take (lroot y) y))])) H' → SqL K H' u [V.str (S (List.take (lroot x) x)), V.str (S (List.take (lroot y) y))] := fun H' s' => SqL.of (s' _ _ upd_same)
            have HA12 : HandAt (upd H11 u (.lst [V.str (S (List.take (lroot x) x)), V.str (S (List.take (lroot y) y))])) hd c := (HandAt.keep (HandAt.keep HA9 s10) s11).new nu
            refine rd_evF (by rw [show decide (x ++ y = y ++ x) = decide (x.take (lroot x) = y.take (lroot y)) from decide_eq_decide.mpr dc]; simp) ?_
            walk_at "go"
            refine ⟨x, rfl, wx, by omega, ex, fun z H13 nz s13 h13 => ?_⟩
            walk_at "go"
            refine rd_ixL (hu _ s13) (v := .str (S (List.take (lroot x) x))) (atI_nat (j := 0) rfl) ?_
            walk_at "go"
            refine ⟨x, y, rfl, wx, wy, by omega, by omega, ex, ey, fun H14 s14 => ?_⟩
            have HA14 := HandAt.keep (HandAt.keep HA12 s13) s14
            rw [dx, dy]
            walk_at "go"
            refine rd_dec (fun e3 => ?_) (fun e3 => ?_)
            · walk_at "go"
              refine rd_ixL (hu _ (s13.trans s14)) (v := .str (S (List.take (lroot x) x))) (atI_nat (j := 0) rfl) ?_
              walk_at "go"
              rw [if_pos (dc.mp e3)]
              refine ⟨_, _, rfl, .inl ⟨rfl, .inr (.inr (.inl ⟨_, rfl⟩))⟩, fun H15 s15 => ?_⟩
              walk_at "go"
              exact ⟨_, _, _, _, _, _, _, _, _, rfl, HandAt.keep HA14 s15⟩
            · walk_at "go"
              rw [if_neg (fun e => e3 (dc.mpr e))]
              refine ⟨_, _, rfl, .inl ⟨rfl, .inr (.inr (.inr rfl))⟩, fun H15 s15 => ?_⟩
              walk_at "go"
              exact ⟨_, _, _, _, _, _, _, _, _, rfl, HandAt.keep HA14 s15⟩
          · walk_at "go"
            exact ⟨_, _, _, _, _, _, _, _, _, rfl, HA9⟩
        · walk_at "go"
          exact ⟨_, _, _, _, _, _, _, _, _, rfl, HA9⟩
      · rintro σ2 H10 ⟨v2, v3, v4, v5, v6, v7, v8, v9, v10, rfl, HA10⟩
        walk_at "go"
        refine ⟨hd, c, 3, rfl, HA10, by decide, by decide, fun d H11 d0 d2 HA11 _ => ?_⟩
        walk_at "go"
        refine ⟨hd, c, 1 + d, 9, rfl, HA11, by omega, by omega, by decide, by decide, fun l H12 hwl hll HA12 _ => ?_⟩
        have hw4 : Wd 4 l := wd_mono hwl (by omega)
        walk_at "go"
        refine ⟨l, rfl, hw4, by omega, by decide, fun p2 q2 fs2 H13 np2 nq2 s13 hp13 hq13 hc13 => ?_⟩
        have HA13 := HandAt.keep HA12 s13
        walk_at "go"
        refine ⟨l, rfl, hw4, by omega, fun p3 fs3 H14 np3 s14 hp14 hc14 => ?_⟩
        obtain rfl := hc14.one hc13
        have HA14 := HandAt.keep HA13 s14
        walk_at "go"
        refine rd_ixL (SqL.of (s14 _ _ hp13)) (v := .ref q2) (atI_nat (j := 0) rfl) ?_
        walk_at "go"
        have hl14 := hc14.len
        refine ⟨_, _, rfl, .inr ⟨p3, q2, fs3.map fun w => V.str (S w), rfl, rfl, fun z hz => ?_, by rw [List.length_map]; omega, .inl ⟨hp14, s14 _ _ hq13⟩⟩, fun H15 s15 => ?_⟩
        · obtain ⟨w, _, rfl⟩ := List.mem_map.mp hz
          exact .inr (.inr (.inl ⟨w, rfl⟩))
        have HA15 := HandAt.keep HA14 s15
        walk_at "go"
        refine rd_ndec (fun el => ?_) (fun el => ?_)
        · walk_at "go"
          refine ⟨l, rfl, hw4, by omega, el, fun H16 s16 => ?_⟩
          walk_at "go"
          refine ⟨l, rfl, by omega, fun H17 s17 => ?_⟩
          walk_at "go"
          refine ⟨_, _, rfl, .inl ⟨rfl, .inr (.inl ⟨_, rfl⟩)⟩, fun H18 s18 => ?_⟩
          have HA18 := HandAt.keep (HandAt.keep (HandAt.keep HA15 s16) s17) s18
          walk_at "go"
          refine lcTurns el (by omega) (fun _ => rfl) (fun y H2 Q2 hy q2 => ?_) (fun D vals H19 s19 hD ht => ?_)
          · walk_at "go"
            refine rd_cat (by rw [List.length_drop, List.length_take]; omega) ?_
            walk_at "go"
            exact q2
          have HA19 := HandAt.keep HA18 s19
          walk_at "go"
          refine ⟨l, rfl, hw4, by omega, el, fun t20 H20 s20 h20 => ?_⟩
          walk_at "go"
          refine rd_minSI (SqL.of (s20 _ _ hD)) (Paired.mapP ht fun v b z => by obtain ⟨u, e, hu⟩ := z; exact ⟨u, e, s20 _ _ hu⟩) (okW_turns (okW_of hw4 (by decide))) fun t21 h21 => ?_
          have HA20 := HandAt.keep HA19 s20
          walk_at "go"
          refine ⟨_, _, rfl, .inr ⟨t20, t21, [.str (S (ltv l).1), .int (ltv l).2], rfl, rfl, fun z hz => ?_, by simp, .inr ⟨h20, h21⟩⟩, fun H22 s22 => ?_⟩
          · rcases List.mem_cons.mp hz with e | hz
            · exact .inr (.inr (.inl ⟨_, e⟩))
            · exact .inl ⟨_, List.mem_singleton.mp hz⟩
          have HA22 := HandAt.keep HA20 s22
          walk_at "go"
          refine ⟨l, rfl, hw4, by omega, el, fun H23 s23 => ?_⟩
          walk_at "go"
          refine ⟨l, rfl, hw4, by omega, el, fun t24 H24 s24 h24 => ?_⟩
          have HA24 := HandAt.keep (HandAt.keep HA22 s23) s24
          walk_at "go"
          intro t25 n25
          have hok : OkW (ltv l).1 := okW_turns (okW_of hw4 (by decide)) _ (minSI_mem _ _)
          refine rd_eqTSI (SqT.of (show upd H24 t25 _ t24 = _ by rw [upd_ne (ne_of_none h24 n25)]; exact h24)) (SqT.of upd_same) hok (okW_of hw4 (by decide)) ?_
          have HA25 : HandAt (upd H24 t25 (.tup [.str (S l), .int 0])) hd c := HA24.new n25
          have hiff := ltv_iff el
          walk_at "go"
          refine rd_dec (fun e3 => ?_) (fun e3 => ?_)
          · walk_at "go"
            refine ⟨l, rfl, hw4, by omega, el, fun t26 H26 n26 s26 h26 => ?_⟩
            walk_at "go"
            refine rd_evF ?_ ?_
            · have e6 : Lyn.lyB l 0 l.length = decide (((l.length / rootN l : Nat) : Int) = 1) := by
                by_cases e4 : l.length / rootN l = 1
                · rw [hiff.mpr ⟨e3, e4⟩, decide_eq_true (by omega)]
                · rw [decide_eq_false (by omega)]
                  cases e5 : Lyn.lyB l 0 l.length with
                  | false => rfl
                  | true => exact absurd (hiff.mp e5).2 e4
              rw [e6, beq_self_eq_true]
              rfl
            · walk_at "go"
              exact ⟨_, _, _, _, _, _, _, _, _, rfl, HandAt.keep HA25 s26⟩
          · walk_at "go"
            refine rd_evF ?_ ?_
            · cases e5 : Lyn.lyB l 0 l.length with
              | false => rfl
              | true => exact absurd (hiff.mp e5).1 e3
            · walk_at "go"
              exact ⟨_, _, _, _, _, _, _, _, _, rfl, HA25⟩
        · walk_at "go"
          exact ⟨_, _, _, _, _, _, _, _, _, rfl, HA15⟩
  · rintro σ1 H4 ⟨v2, v3, v4, v5, v6, v7, v8, v9, v10, rfl, HA4⟩
    walk_at "go"
    exact k _
end
end My
namespace My
open PySem PySem.Spec L2 SX
open PyProof.Rows hiding St
theorem all_mk {l : PySem.W.OpenLaw} {w : World} {K : PySem.W.Frag} {h : Heap} {mg : Str → Option Value} {fa : Addr} (X : K.In h) (G : h.Ns mainGlobals mg) (hfa : mg "law" = some (.ref fa))
    {f0 : Addr} {od0 an0 : Option Addr} {sl0 : Array (Option Value)} {oc0 kV0 dc0 pm0 cd0 ct0 : Value}
    (a0 : PySem.W.nsIn K mainGlobals "check_word" = some (some (.ref f0))) (l0 : K.lookup f0 = some ⟨oc0, od0, .func (PySem.W.fnOf "check_word" "check_word" (defArgs s_check_word) (defBody s_check_word) (defScope s_check_word) .none kV0 dc0 pm0 an0 cd0 ct0), sl0⟩) (c0 : PySem.W.codeIn K cd0 "check_word" = true) (k0 : PySem.W.keepIn K (.ref f0) = true)
    {f1 : Addr} {od1 an1 : Option Addr} {sl1 : Array (Option Value)} {oc1 kV1 dc1 pm1 cd1 ct1 : Value}
    (a1 : PySem.W.nsIn K mainGlobals "border_lengths" = some (some (.ref f1))) (l1 : K.lookup f1 = some ⟨oc1, od1, .func (PySem.W.fnOf "border_lengths" "border_lengths" (defArgs s_border_lengths) (defBody s_border_lengths) (defScope s_border_lengths) .none kV1 dc1 pm1 an1 cd1 ct1), sl1⟩) (c1 : PySem.W.codeIn K cd1 "border_lengths" = true) (k1 : PySem.W.keepIn K (.ref f1) = true)
    {f2 : Addr} {od2 an2 : Option Addr} {sl2 : Array (Option Value)} {oc2 kV2 dc2 pm2 cd2 ct2 : Value}
    (a2 : PySem.W.nsIn K mainGlobals "_law_hand" = some (some (.ref f2))) (l2 : K.lookup f2 = some ⟨oc2, od2, .func (PySem.W.fnOf "_law_hand" "_law_hand" (defArgs s__law_hand) (defBody s__law_hand) (defScope s__law_hand) .none kV2 dc2 pm2 an2 cd2 ct2), sl2⟩) (c2 : PySem.W.codeIn K cd2 "_law_hand" = true) (k2 : PySem.W.keepIn K (.ref f2) = true)
    {f3 : Addr} {od3 an3 : Option Addr} {sl3 : Array (Option Value)} {oc3 kV3 dc3 pm3 cd3 ct3 : Value}
    (a3 : PySem.W.nsIn K mainGlobals "_law_draw" = some (some (.ref f3))) (l3 : K.lookup f3 = some ⟨oc3, od3, .func (PySem.W.fnOf "_law_draw" "_law_draw" (defArgs s__law_draw) (defBody s__law_draw) (defScope s__law_draw) .none kV3 dc3 pm3 an3 cd3 ct3), sl3⟩) (c3 : PySem.W.codeIn K cd3 "_law_draw" = true) (k3 : PySem.W.keepIn K (.ref f3) = true)
    {f4 : Addr} {od4 an4 : Option Addr} {sl4 : Array (Option Value)} {oc4 kV4 dc4 pm4 cd4 ct4 : Value}
    (a4 : PySem.W.nsIn K mainGlobals "_law_is_least" = some (some (.ref f4))) (l4 : K.lookup f4 = some ⟨oc4, od4, .func (PySem.W.fnOf "_law_is_least" "_law_is_least" (defArgs s__law_is_least) (defBody s__law_is_least) (defScope s__law_is_least) .none kV4 dc4 pm4 an4 cd4 ct4), sl4⟩) (c4 : PySem.W.codeIn K cd4 "_law_is_least" = true) (k4 : PySem.W.keepIn K (.ref f4) = true)
    {f5 : Addr} {od5 an5 : Option Addr} {sl5 : Array (Option Value)} {oc5 kV5 dc5 pm5 cd5 ct5 : Value}
    (a5 : PySem.W.nsIn K mainGlobals "_law_root" = some (some (.ref f5))) (l5 : K.lookup f5 = some ⟨oc5, od5, .func (PySem.W.fnOf "_law_root" "_law_root" (defArgs s__law_root) (defBody s__law_root) (defScope s__law_root) .none kV5 dc5 pm5 an5 cd5 ct5), sl5⟩) (c5 : PySem.W.codeIn K cd5 "_law_root" = true) (k5 : PySem.W.keepIn K (.ref f5) = true)
    {f6 : Addr} {od6 an6 : Option Addr} {sl6 : Array (Option Value)} {oc6 kV6 dc6 pm6 cd6 ct6 : Value}
    (a6 : PySem.W.nsIn K mainGlobals "_law_is" = some (some (.ref f6))) (l6 : K.lookup f6 = some ⟨oc6, od6, .func (PySem.W.fnOf "_law_is" "_law_is" (defArgs s__law_is) (defBody s__law_is) (defScope s__law_is) .none kV6 dc6 pm6 an6 cd6 ct6), sl6⟩) (c6 : PySem.W.codeIn K cd6 "_law_is" = true) (k6 : PySem.W.keepIn K (.ref f6) = true)
    {f7 : Addr} {od7 an7 : Option Addr} {sl7 : Array (Option Value)} {oc7 kV7 dc7 pm7 cd7 ct7 : Value}
    (a7 : PySem.W.nsIn K mainGlobals "check_letters" = some (some (.ref f7))) (l7 : K.lookup f7 = some ⟨oc7, od7, .func (PySem.W.fnOf "check_letters" "check_letters" (defArgs s_check_letters) (defBody s_check_letters) (defScope s_check_letters) .none kV7 dc7 pm7 an7 cd7 ct7), sl7⟩) (c7 : PySem.W.codeIn K cd7 "check_letters" = true) (k7 : PySem.W.keepIn K (.ref f7) = true)
    {f8 : Addr} {od8 an8 : Option Addr} {sl8 : Array (Option Value)} {oc8 kV8 dc8 pm8 cd8 ct8 : Value}
    (a8 : PySem.W.nsIn K mainGlobals "_law_some" = some (some (.ref f8))) (l8 : K.lookup f8 = some ⟨oc8, od8, .func (PySem.W.fnOf "_law_some" "_law_some" (defArgs s__law_some) (defBody s__law_some) (defScope s__law_some) .none kV8 dc8 pm8 an8 cd8 ct8), sl8⟩) (c8 : PySem.W.codeIn K cd8 "_law_some" = true) (k8 : PySem.W.keepIn K (.ref f8) = true)
    {f9 : Addr} {od9 an9 : Option Addr} {sl9 : Array (Option Value)} {oc9 kV9 dc9 pm9 cd9 ct9 : Value}
    (a9 : PySem.W.nsIn K mainGlobals "_law_all_cuts" = some (some (.ref f9))) (l9 : K.lookup f9 = some ⟨oc9, od9, .func (PySem.W.fnOf "_law_all_cuts" "_law_all_cuts" (defArgs s__law_all_cuts) (defBody s__law_all_cuts) (defScope s__law_all_cuts) .none kV9 dc9 pm9 an9 cd9 ct9), sl9⟩) (c9 : PySem.W.codeIn K cd9 "_law_all_cuts" = true) (k9 : PySem.W.keepIn K (.ref f9) = true)
    {f10 : Addr} {od10 an10 : Option Addr} {sl10 : Array (Option Value)} {oc10 kV10 dc10 pm10 cd10 ct10 : Value}
    (a10 : PySem.W.nsIn K mainGlobals "check_filled" = some (some (.ref f10))) (l10 : K.lookup f10 = some ⟨oc10, od10, .func (PySem.W.fnOf "check_filled" "check_filled" (defArgs s_check_filled) (defBody s_check_filled) (defScope s_check_filled) .none kV10 dc10 pm10 an10 cd10 ct10), sl10⟩) (c10 : PySem.W.codeIn K cd10 "check_filled" = true) (k10 : PySem.W.keepIn K (.ref f10) = true)
    {f11 : Addr} {od11 an11 : Option Addr} {sl11 : Array (Option Value)} {oc11 kV11 dc11 pm11 cd11 ct11 : Value}
    (a11 : PySem.W.nsIn K mainGlobals "borders" = some (some (.ref f11))) (l11 : K.lookup f11 = some ⟨oc11, od11, .func (PySem.W.fnOf "borders" "borders" (defArgs s_borders) (defBody s_borders) (defScope s_borders) .none kV11 dc11 pm11 an11 cd11 ct11), sl11⟩) (c11 : PySem.W.codeIn K cd11 "borders" = true) (k11 : PySem.W.keepIn K (.ref f11) = true)
    {f12 : Addr} {od12 an12 : Option Addr} {sl12 : Array (Option Value)} {oc12 kV12 dc12 pm12 cd12 ct12 : Value}
    (a12 : PySem.W.nsIn K mainGlobals "do_commute" = some (some (.ref f12))) (l12 : K.lookup f12 = some ⟨oc12, od12, .func (PySem.W.fnOf "do_commute" "do_commute" (defArgs s_do_commute) (defBody s_do_commute) (defScope s_do_commute) .none kV12 dc12 pm12 an12 cd12 ct12), sl12⟩) (c12 : PySem.W.codeIn K cd12 "do_commute" = true) (k12 : PySem.W.keepIn K (.ref f12) = true)
    {f13 : Addr} {od13 an13 : Option Addr} {sl13 : Array (Option Value)} {oc13 kV13 dc13 pm13 cd13 ct13 : Value}
    (a13 : PySem.W.nsIn K mainGlobals "least_cuts" = some (some (.ref f13))) (l13 : K.lookup f13 = some ⟨oc13, od13, .func (PySem.W.fnOf "least_cuts" "least_cuts" (defArgs s_least_cuts) (defBody s_least_cuts) (defScope s_least_cuts) .none kV13 dc13 pm13 an13 cd13 ct13), sl13⟩) (c13 : PySem.W.codeIn K cd13 "least_cuts" = true) (k13 : PySem.W.keepIn K (.ref f13) = true)
    {f14 : Addr} {od14 an14 : Option Addr} {sl14 : Array (Option Value)} {oc14 kV14 dc14 pm14 cd14 ct14 : Value}
    (a14 : PySem.W.nsIn K mainGlobals "_law_word" = some (some (.ref f14))) (l14 : K.lookup f14 = some ⟨oc14, od14, .func (PySem.W.fnOf "_law_word" "_law_word" (defArgs s__law_word) (defBody s__law_word) (defScope s__law_word) .none kV14 dc14 pm14 an14 cd14 ct14), sl14⟩) (c14 : PySem.W.codeIn K cd14 "_law_word" = true) (k14 : PySem.W.keepIn K (.ref f14) = true)
    {f15 : Addr} {od15 an15 : Option Addr} {sl15 : Array (Option Value)} {oc15 kV15 dc15 pm15 cd15 ct15 : Value}
    (a15 : PySem.W.nsIn K mainGlobals "periods" = some (some (.ref f15))) (l15 : K.lookup f15 = some ⟨oc15, od15, .func (PySem.W.fnOf "periods" "periods" (defArgs s_periods) (defBody s_periods) (defScope s_periods) .none kV15 dc15 pm15 an15 cd15 ct15), sl15⟩) (c15 : PySem.W.codeIn K cd15 "periods" = true) (k15 : PySem.W.keepIn K (.ref f15) = true)
    {f16 : Addr} {od16 an16 : Option Addr} {sl16 : Array (Option Value)} {oc16 kV16 dc16 pm16 cd16 ct16 : Value}
    (a16 : PySem.W.nsIn K mainGlobals "least_turn" = some (some (.ref f16))) (l16 : K.lookup f16 = some ⟨oc16, od16, .func (PySem.W.fnOf "least_turn" "least_turn" (defArgs s_least_turn) (defBody s_least_turn) (defScope s_least_turn) .none kV16 dc16 pm16 an16 cd16 ct16), sl16⟩) (c16 : PySem.W.codeIn K cd16 "least_turn" = true) (k16 : PySem.W.keepIn K (.ref f16) = true)
    {f17 : Addr} {od17 an17 : Option Addr} {sl17 : Array (Option Value)} {oc17 kV17 dc17 pm17 cd17 ct17 : Value}
    (a17 : PySem.W.nsIn K mainGlobals "is_least_of_ends" = some (some (.ref f17))) (l17 : K.lookup f17 = some ⟨oc17, od17, .func (PySem.W.fnOf "is_least_of_ends" "is_least_of_ends" (defArgs s_is_least_of_ends) (defBody s_is_least_of_ends) (defScope s_is_least_of_ends) .none kV17 dc17 pm17 an17 cd17 ct17), sl17⟩) (c17 : PySem.W.codeIn K cd17 "is_least_of_ends" = true) (k17 : PySem.W.keepIn K (.ref f17) = true)
    {f18 : Addr} {od18 an18 : Option Addr} {sl18 : Array (Option Value)} {oc18 kV18 dc18 pm18 cd18 ct18 : Value}
    (a18 : PySem.W.nsIn K mainGlobals "root_of" = some (some (.ref f18))) (l18 : K.lookup f18 = some ⟨oc18, od18, .func (PySem.W.fnOf "root_of" "root_of" (defArgs s_root_of) (defBody s_root_of) (defScope s_root_of) .none kV18 dc18 pm18 an18 cd18 ct18), sl18⟩) (c18 : PySem.W.codeIn K cd18 "root_of" = true) (k18 : PySem.W.keepIn K (.ref f18) = true)
    {f19 : Addr} {od19 an19 : Option Addr} {sl19 : Array (Option Value)} {oc19 kV19 dc19 pm19 cd19 ct19 : Value}
    (a19 : PySem.W.nsIn K mainGlobals "common_root" = some (some (.ref f19))) (l19 : K.lookup f19 = some ⟨oc19, od19, .func (PySem.W.fnOf "common_root" "common_root" (defArgs s_common_root) (defBody s_common_root) (defScope s_common_root) .none kV19 dc19 pm19 an19 cd19 ct19), sl19⟩) (c19 : PySem.W.codeIn K cd19 "common_root" = true) (k19 : PySem.W.keepIn K (.ref f19) = true)
    {f20 : Addr} {od20 an20 : Option Addr} {sl20 : Array (Option Value)} {oc20 kV20 dc20 pm20 cd20 ct20 : Value}
    (a20 : PySem.W.nsIn K mainGlobals "law" = some (some (.ref f20))) (l20 : K.lookup f20 = some ⟨oc20, od20, .func (PySem.W.fnOf "law" "law" (defArgs s_law) (defBody s_law) (defScope s_law) .none kV20 dc20 pm20 an20 cd20 ct20), sl20⟩) (c20 : PySem.W.codeIn K cd20 "law" = true) (k20 : PySem.W.keepIn K (.ref f20) = true)
    (z_str : PySem.W.nsIn K mainGlobals "str" = some none)
    (z_isinstance : PySem.W.nsIn K mainGlobals "isinstance" = some none)
    (z_len : PySem.W.nsIn K mainGlobals "len" = some none)
    (z_int : PySem.W.nsIn K mainGlobals "int" = some none)
    (z_sorted : PySem.W.nsIn K mainGlobals "sorted" = some none)
    (z_range : PySem.W.nsIn K mainGlobals "range" = some none)
    (z_min : PySem.W.nsIn K mainGlobals "min" = some none)
    (z_all : PySem.W.nsIn K mainGlobals "all" = some none)
    (z_abs : PySem.W.nsIn K mainGlobals "abs" = some none)
    (z_list : PySem.W.nsIn K mainGlobals "list" = some none)
    (z_tuple : PySem.W.nsIn K mainGlobals "tuple" = some none)
    (z_zip : PySem.W.nsIn K mainGlobals "zip" = some none)
    (z_bool : PySem.W.nsIn K mainGlobals "bool" = some none)
    {u_SIGNS : Value} (q_SIGNS : PySem.W.nsIn K mainGlobals "SIGNS" = some (some u_SIGNS)) (r_SIGNS : RelV (.str (S [97, 98, 99, 100])) u_SIGNS)
    {u_MOST_SIGNS : Value} (q_MOST_SIGNS : PySem.W.nsIn K mainGlobals "MOST_SIGNS" = some (some u_MOST_SIGNS)) (r_MOST_SIGNS : RelV (.int 300) u_MOST_SIGNS)
    : ∃ fd : FuncData, (∀ (s : Shared) (v : Value), BindsTo s fd ⟨[v], []⟩ [("script", v)]) ∧ ∀ base : Heap, K.In base → base.Ns mainGlobals mg → FnOk l.prog w K mg base CX0 13 fa fd ["script"] (sp_law K) := by
  have e := hfa.symm.trans (PySem.W.mg_of X G a20)
  cases e
  have T : Txt K mg := ⟨PySem.W.mg_none_of X G z_str, PySem.W.mg_none_of X G z_isinstance, PySem.W.mg_none_of X G z_len, PySem.W.mg_none_of X G z_int, PySem.W.mg_none_of X G z_sorted, PySem.W.mg_none_of X G z_range, PySem.W.mg_none_of X G z_min, PySem.W.mg_none_of X G z_all, PySem.W.mg_none_of X G z_abs, PySem.W.mg_none_of X G z_list, PySem.W.mg_none_of X G z_tuple, PySem.W.mg_none_of X G z_zip, PySem.W.mg_none_of X G z_bool, ⟨u_SIGNS, PySem.W.mg_of X G q_SIGNS, r_SIGNS⟩, ⟨u_MOST_SIGNS, PySem.W.mg_of X G q_MOST_SIGNS, r_MOST_SIGNS⟩⟩
  have F0 := fun_mk (st := s_check_word) l0 c0 k0
  have b0 := F0.binds (ps := ["word", "letters", "most"]) fun _ _ _ _ _ _ us hl => match us, hl with | [_, _, _], _ => rfl
  have F1 := fun_mk (st := s_border_lengths) l1 c1 k1
  have b1 := F1.binds (ps := ["word"]) fun _ _ _ _ _ _ us hl => match us, hl with | [_], _ => rfl
  have F2 := fun_mk (st := s__law_hand) l2 c2 k2
  have b2 := F2.binds (ps := ["script"]) fun _ _ _ _ _ _ us hl => match us, hl with | [_], _ => rfl
  have F3 := fun_mk (st := s__law_draw) l3 c3 k3
  have b3 := F3.binds (ps := ["hand", "limit"]) fun _ _ _ _ _ _ us hl => match us, hl with | [_, _], _ => rfl
  have F4 := fun_mk (st := s__law_is_least) l4 c4 k4
  have b4 := F4.binds (ps := ["word"]) fun _ _ _ _ _ _ us hl => match us, hl with | [_], _ => rfl
  have F5 := fun_mk (st := s__law_root) l5 c5 k5
  have b5 := F5.binds (ps := ["word"]) fun _ _ _ _ _ _ us hl => match us, hl with | [_], _ => rfl
  have F6 := fun_mk (st := s__law_is) l6 c6 k6
  have b6 := F6.binds (ps := ["shown", "due"]) fun _ _ _ _ _ _ us hl => match us, hl with | [_, _], _ => rfl
  have F7 := fun_mk (st := s_check_letters) l7 c7 k7
  have b7 := F7.binds (ps := ["word"]) fun _ _ _ _ _ _ us hl => match us, hl with | [_], _ => rfl
  have F8 := fun_mk (st := s__law_some) l8 c8 k8
  have b8 := F8.binds (ps := ["hand", "things"]) fun _ _ _ _ _ _ us hl => match us, hl with | [_, _], _ => rfl
  have F9 := fun_mk (st := s__law_all_cuts) l9 c9 k9
  have b9 := F9.binds (ps := ["word"]) fun _ _ _ _ _ _ us hl => match us, hl with | [_], _ => rfl
  have F10 := fun_mk (st := s_check_filled) l10 c10 k10
  have b10 := F10.binds (ps := ["word"]) fun _ _ _ _ _ _ us hl => match us, hl with | [_], _ => rfl
  have F11 := fun_mk (st := s_borders) l11 c11 k11
  have b11 := F11.binds (ps := ["word"]) fun _ _ _ _ _ _ us hl => match us, hl with | [_], _ => rfl
  have F12 := fun_mk (st := s_do_commute) l12 c12 k12
  have b12 := F12.binds (ps := ["one", "other"]) fun _ _ _ _ _ _ us hl => match us, hl with | [_, _], _ => rfl
  have F13 := fun_mk (st := s_least_cuts) l13 c13 k13
  have b13 := F13.binds (ps := ["word"]) fun _ _ _ _ _ _ us hl => match us, hl with | [_], _ => rfl
  have F14 := fun_mk (st := s__law_word) l14 c14 k14
  have b14 := F14.binds (ps := ["hand", "letters", "most"]) fun _ _ _ _ _ _ us hl => match us, hl with | [_, _, _], _ => rfl
  have F15 := fun_mk (st := s_periods) l15 c15 k15
  have b15 := F15.binds (ps := ["word"]) fun _ _ _ _ _ _ us hl => match us, hl with | [_], _ => rfl
  have F16 := fun_mk (st := s_least_turn) l16 c16 k16
  have b16 := F16.binds (ps := ["word"]) fun _ _ _ _ _ _ us hl => match us, hl with | [_], _ => rfl
  have F17 := fun_mk (st := s_is_least_of_ends) l17 c17 k17
  have b17 := F17.binds (ps := ["word"]) fun _ _ _ _ _ _ us hl => match us, hl with | [_], _ => rfl
  have F18 := fun_mk (st := s_root_of) l18 c18 k18
  have b18 := F18.binds (ps := ["word"]) fun _ _ _ _ _ _ us hl => match us, hl with | [_], _ => rfl
  have F19 := fun_mk (st := s_common_root) l19 c19 k19
  have b19 := F19.binds (ps := ["one", "other"]) fun _ _ _ _ _ _ us hl => match us, hl with | [_, _], _ => rfl
  have F20 := fun_mk (st := s_law) l20 c20 k20
  have b20 := F20.binds (ps := ["script"]) fun _ _ _ _ _ _ us hl => match us, hl with | [_], _ => rfl
  refine ⟨PySem.W.fnOf "law" "law" (defArgs s_law) (defBody s_law) (defScope s_law) .none kV20 dc20 pm20 an20 cd20 ct20, fun s v => .of_eq rfl, fun base _ _ => ?_⟩
  have C_check_word : Cal l.prog w K mg base 1 "check_word" (sp_check_word K) := ⟨_, _, _, ok_check_word F0 T, PySem.W.mg_of X G a0, k0, b0⟩
  have C_border_lengths : Cal l.prog w K mg base 1 "border_lengths" (sp_border_lengths K) := ⟨_, _, _, ok_border_lengths F1 T, PySem.W.mg_of X G a1, k1, b1⟩
  have C__law_hand : Cal l.prog w K mg base 1 "_law_hand" (sp__law_hand K) := ⟨_, _, _, ok__law_hand F2 T, PySem.W.mg_of X G a2, k2, b2⟩
  have C__law_draw : Cal l.prog w K mg base 1 "_law_draw" (sp__law_draw K) := ⟨_, _, _, ok__law_draw F3 T, PySem.W.mg_of X G a3, k3, b3⟩
  have C__law_is_least : Cal l.prog w K mg base 1 "_law_is_least" (sp__law_is_least K) := ⟨_, _, _, ok__law_is_least F4 T, PySem.W.mg_of X G a4, k4, b4⟩
  have C__law_root : Cal l.prog w K mg base 1 "_law_root" (sp__law_root K) := ⟨_, _, _, ok__law_root F5 T, PySem.W.mg_of X G a5, k5, b5⟩
  have C__law_is_leaf : Cal l.prog w K mg base 1 "_law_is" (sp__law_is_leaf K) := ⟨_, _, _, ok__law_is_leaf F6 T, PySem.W.mg_of X G a6, k6, b6⟩
  have C_check_letters : Cal l.prog w K mg base 2 "check_letters" (sp_check_letters K) := ⟨_, _, _, ok_check_letters F7 T C_check_word, PySem.W.mg_of X G a7, k7, b7⟩
  have C__law_some : Cal l.prog w K mg base 2 "_law_some" (sp__law_some K) := ⟨_, _, _, ok__law_some F8 T C__law_draw, PySem.W.mg_of X G a8, k8, b8⟩
  have C__law_is : Cal l.prog w K mg base 2 "_law_is" (sp__law_is K) := ⟨_, _, _, ok__law_is F6 T C__law_is_leaf, PySem.W.mg_of X G a6, k6, b6⟩
  have C__law_all_cuts : ∀ n, Cal l.prog w K mg base (2 + n) "_law_all_cuts" (sp__law_all_cuts n K) := fun n => Nat.rec ⟨_, _, _, ok__law_all_cuts_0 F9 1, PySem.W.mg_of X G a9, k9, b9⟩ (fun n ih => ⟨_, _, _, ok__law_all_cuts (Nat.le_add_right _ _) ih F9 T C__law_is_least, PySem.W.mg_of X G a9, k9, b9⟩) n
  have C_check_filled : Cal l.prog w K mg base 3 "check_filled" (sp_check_filled K) := ⟨_, _, _, ok_check_filled F10 T C_check_letters, PySem.W.mg_of X G a10, k10, b10⟩
  have C_borders : Cal l.prog w K mg base 3 "borders" (sp_borders K) := ⟨_, _, _, ok_borders F11 T C_check_letters C_border_lengths, PySem.W.mg_of X G a11, k11, b11⟩
  have C_do_commute : Cal l.prog w K mg base 3 "do_commute" (sp_do_commute K) := ⟨_, _, _, ok_do_commute F12 T C_check_letters, PySem.W.mg_of X G a12, k12, b12⟩
  have C_least_cuts : Cal l.prog w K mg base 3 "least_cuts" (sp_least_cuts K) := ⟨_, _, _, ok_least_cuts F13 T C_check_letters, PySem.W.mg_of X G a13, k13, b13⟩
  have C__law_word : Cal l.prog w K mg base 3 "_law_word" (sp__law_word K) := ⟨_, _, _, ok__law_word F14 T C__law_draw C__law_some, PySem.W.mg_of X G a14, k14, b14⟩
  have C_periods : Cal l.prog w K mg base 4 "periods" (sp_periods K) := ⟨_, _, _, ok_periods F15 T C_borders, PySem.W.mg_of X G a15, k15, b15⟩
  have C_least_turn : Cal l.prog w K mg base 4 "least_turn" (sp_least_turn K) := ⟨_, _, _, ok_least_turn F16 T C_check_filled, PySem.W.mg_of X G a16, k16, b16⟩
  have C_is_least_of_ends : Cal l.prog w K mg base 4 "is_least_of_ends" (sp_is_least_of_ends K) := ⟨_, _, _, ok_is_least_of_ends F17 T C_check_filled, PySem.W.mg_of X G a17, k17, b17⟩
  have C_root_of : Cal l.prog w K mg base 5 "root_of" (sp_root_of K) := ⟨_, _, _, ok_root_of F18 T C_check_filled C_periods, PySem.W.mg_of X G a18, k18, b18⟩
  have C_common_root : Cal l.prog w K mg base 6 "common_root" (sp_common_root K) := ⟨_, _, _, ok_common_root F19 T C_check_filled C_root_of, PySem.W.mg_of X G a19, k19, b19⟩
  exact ok_law F20 T C__law_hand C_least_cuts C_least_turn C__law_word C__law_draw C_do_commute C__law_is C__law_root C_root_of C_common_root (C__law_all_cuts 10) C_is_least_of_ends C__law_is_least
theorem walk {l : PySem.W.OpenLaw} {q : Program} {loose : List Str} {XP : (Str → Option Value) → Heap → Prop} {YP : World → Heap → Prop} {d : DefRec} {K : Params → PySem.W.Frag} (hn : l.most = some 63) (hdf : d.params.defaults = [])
    (hY : ∀ (w : World) (h : Heap), YP w h → (K w.params).In h)
    (F : ∀ (w : World) (mg : Str → Option Value) (fa : Addr) (h : Heap), (K w.params).In h → h.Ns mainGlobals mg → mg d.name = some (.ref fa) →
      ∃ fd : FuncData, (∀ (s : Shared) (u : Value), BindsTo s fd ⟨[u], []⟩ [("script", u)]) ∧ ∀ base : Heap, (K w.params).In base → base.Ns mainGlobals mg → FnOk l.prog w (K w.params) mg base CX0 13 fa fd ["script"] (sp_law (K w.params))) :
    PySem.W.WalkO q loose XP YP l.row.toRowW d [] (fun f vs => PySem.call f vs) :=
  L2.walk_of (n := 63) (k := 13) (x := "script") (CX := fun _ => CX0) (sp := fun w => sp_law (K w.params)) hn (by decide) hdf ⟨rfl, by decide, by decide⟩ hY F (fun _ _ a ns hl _ hS => ⟨a, ns, rfl, hS, fun _ => rfl⟩) fun _ _ _ _ _ z => z
end My
open PySem PySem.W PyProof.Rows
set_option maxRecDepth 100000 in
set_option maxHeartbeats 0 in
theorem PySem.Challenge.cw_wordfolds_k36_whole_words_that_commute_a_holds : PySem.Challenge.rw_wordfolds_k36_whole_words_that_commute_a.Holds := by
  w_on; o_law; k_head; (case hw => w_witness2)
  k_fill
  refine My.walk (l := PySem.Challenge.rw_wordfolds_k36_whole_words_that_commute_a) rfl rfl (fun w h Y => PySem.W.kIn_of Y) ?F
  case F =>
    intro w mg fa h KX G hmg
    refine' My.all_mk KX G hmg ?a0 ?l0 ?c0 ?k0 ?a1 ?l1 ?c1 ?k1 ?a2 ?l2 ?c2 ?k2 ?a3 ?l3 ?c3 ?k3 ?a4 ?l4 ?c4 ?k4 ?a5 ?l5 ?c5 ?k5 ?a6 ?l6 ?c6 ?k6 ?a7 ?l7 ?c7 ?k7 ?a8 ?l8 ?c8 ?k8 ?a9 ?l9 ?c9 ?k9 ?a10 ?l10 ?c10 ?k10 ?a11 ?l11 ?c11 ?k11 ?a12 ?l12 ?c12 ?k12 ?a13 ?l13 ?c13 ?k13 ?a14 ?l14 ?c14 ?k14 ?a15 ?l15 ?c15 ?k15 ?a16 ?l16 ?c16 ?k16 ?a17 ?l17 ?c17 ?k17 ?a18 ?l18 ?c18 ?k18 ?a19 ?l19 ?c19 ?k19 ?a20 ?l20 ?c20 ?k20 ?z_str ?z_isinstance ?z_len ?z_int ?z_sorted ?z_range ?z_min ?z_all ?z_abs ?z_list ?z_tuple ?z_zip ?z_bool ?q_SIGNS ?r_SIGNS ?q_MOST_SIGNS ?r_MOST_SIGNS
    (case a0 => k_is)
    (case l0 => k_is)
    (case c0 => k_is)
    (case k0 => k_is)
    (case a1 => k_is)
    (case l1 => k_is)
    (case c1 => k_is)
    (case k1 => k_is)
    (case a2 => k_is)
    (case l2 => k_is)
    (case c2 => k_is)
    (case k2 => k_is)
    (case a3 => k_is)
    (case l3 => k_is)
    (case c3 => k_is)
    (case k3 => k_is)
    (case a4 => k_is)
    (case l4 => k_is)
    (case c4 => k_is)
    (case k4 => k_is)
    (case a5 => k_is)
    (case l5 => k_is)
    (case c5 => k_is)
    (case k5 => k_is)
    (case a6 => k_is)
    (case l6 => k_is)
    (case c6 => k_is)
    (case k6 => k_is)
    (case a7 => k_is)
    (case l7 => k_is)
    (case c7 => k_is)
    (case k7 => k_is)
    (case a8 => k_is)
    (case l8 => k_is)
    (case c8 => k_is)
    (case k8 => k_is)
    (case a9 => k_is)
    (case l9 => k_is)
    (case c9 => k_is)
    (case k9 => k_is)
    (case a10 => k_is)
    (case l10 => k_is)
    (case c10 => k_is)
    (case k10 => k_is)
    (case a11 => k_is)
    (case l11 => k_is)
    (case c11 => k_is)
    (case k11 => k_is)
    (case a12 => k_is)
    (case l12 => k_is)
    (case c12 => k_is)
    (case k12 => k_is)
    (case a13 => k_is)
    (case l13 => k_is)
    (case c13 => k_is)
    (case k13 => k_is)
    (case a14 => k_is)
    (case l14 => k_is)
    (case c14 => k_is)
    (case k14 => k_is)
    (case a15 => k_is)
    (case l15 => k_is)
    (case c15 => k_is)
    (case k15 => k_is)
    (case a16 => k_is)
    (case l16 => k_is)
    (case c16 => k_is)
    (case k16 => k_is)
    (case a17 => k_is)
    (case l17 => k_is)
    (case c17 => k_is)
    (case k17 => k_is)
    (case a18 => k_is)
    (case l18 => k_is)
    (case c18 => k_is)
    (case k18 => k_is)
    (case a19 => k_is)
    (case l19 => k_is)
    (case c19 => k_is)
    (case k19 => k_is)
    (case a20 => k_is)
    (case l20 => k_is)
    (case c20 => k_is)
    (case k20 => k_is)
    (case z_str => k_is)
    (case z_isinstance => k_is)
    (case z_len => k_is)
    (case z_int => k_is)
    (case z_sorted => k_is)
    (case z_range => k_is)
    (case z_min => k_is)
    (case z_all => k_is)
    (case z_abs => k_is)
    (case z_list => k_is)
    (case z_tuple => k_is)
    (case z_zip => k_is)
    (case z_bool => k_is)
    (case q_SIGNS => k_is)
    (case r_SIGNS => exact ⟨_, rfl⟩)
    (case q_MOST_SIGNS => k_is)
    (case r_MOST_SIGNS => exact ⟨_, rfl⟩)
#print axioms PySem.Challenge.cw_wordfolds_k36_whole_words_that_commute_a_holds
