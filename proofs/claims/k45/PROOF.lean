import PyProof.Rows.All
import Wide.All
import OpenK.AllK
import Wide.FinOn
import HandS.ForMost
import HandS.Codes
import HandS.IsInst
import HandS.SortInts
import HandS.Zip
import HandS.NoneIn
import HandS.Wide
import HandS.Walk
import HandS.Style
import KE.DataMinMax
import KE.SortData
import HandS.ReplaceLit
import HandS.Deep
import KE.GoesMore
import KE.GoesZip
import HandS.Conv
import PySem.Challenge.RW_wordfolds_k45_whole_periods_and_borders
set_option Elab.async false
set_option linter.all false
set_option maxRecDepth 100000
set_option maxHeartbeats 4000000
/-! My rules beside the layer's: list(text), text * int, set(list of ints), len(set). -/
namespace My
open PySem PySem.Spec PyProof.Rows L2 SX

theorem sz {n : Nat} (h : n ≤ 100000) : n ≤ sizeLine := Nat.le_trans h (by decide)
theorem szlt {n : Nat} (h : n < 100000) : n < sizeLine := Nat.lt_of_lt_of_le h (by decide)

/-- the one-sign texts of a word -/
def signs (l : List Nat) : List V := l.map fun c => V.str (S [c])

section
variable {X : Cx}
/-- list(text) -/
def rListS : List V → Hp → VK → Prop := fun xs H Q => ∃ l : List Nat, xs = [.str (S l)] ∧ l.length ≤ 100000 ∧ ∀ p, H p = none → Q (.ref p) (upd H p (.lst (signs l)))
theorem vals_items {l : List Nat} : ∀ {acc : Array Value}, ItemsOf (SignAt (S l)) acc l.length → Vals (signs l) acc.toList := by
  intro acc h
  obtain ⟨h1, h2⟩ := h
  have go : ∀ (m : List Nat) (us : List Value), us.length = m.length → (∀ (j : Nat) (v : Value), us[j]? = some v → ∃ (c : Nat) (u : Tok), m[j]? = some c ∧ v = Value.str ⟨#[c]⟩ u) → Vals (signs m) us := by
    intro m
    induction m with
    | nil =>
      intro us hl _
      cases us with
      | nil => exact .nil
      | cons a r => simp at hl
    | cons c m ih =>
      intro us hl hv
      cases us with
      | nil => simp at hl
      | cons a r =>
        obtain ⟨c', u, e1, e2⟩ := hv 0 a rfl
        have e3 : c = c' := Option.some.inj e1
        subst e3
        refine .cons ⟨u, e2⟩ (ih r (by simpa using hl) fun j v e => ?_)
        obtain ⟨c2, u2, e4, e5⟩ := hv (j + 1) v (by simpa using e)
        exact ⟨c2, u2, by simpa using e4, e5⟩
  refine go l acc.toList (by simpa using h1) fun j v e => ?_
  obtain ⟨c, u, e1, e2⟩ := h2 j v (by simpa using e)
  exact ⟨c, u, by simpa using e1, e2⟩
theorem call_listS (hc : X.calm = true) : CallR X (.type "list") rListS := by
  intro pins s σ H xs us Q I r h
  obtain ⟨l, rfl, hl, q⟩ := h
  obtain ⟨u, rfl, rx⟩ := vals1 r
  obtain ⟨t, rfl⟩ := rx
  have hsz : (S l).cps.size = l.length := by simp
  refine call_list_str (I.ok.hd hc) (S l) t (fun h' tk acc c kp e hi => ?_) (by rw [hsz]; exact sz hl)
  rw [hsz] at hi
  have hv := vals_items hi
  refine ⟨.ref s.heap.objs.size, _, I.laid (t' := tk) kp (Nat.le_refl _) (show ObjOk X.prog X.w _ h' _ (.lst (signs l)) from ⟨?_, acc.toList, c, hv, by simpa using e⟩), rfl, q _ (I.hok.fresh (Nat.le_refl _))⟩
  show (l.map _).length ≤ sizeLine
  rw [List.length_map]
  exact sz hl

/-- text * int -/
def repL (l : List Nat) : Nat → List Nat
  | 0 => []
  | n + 1 => l ++ repL l n
theorem repL_len (l : List Nat) : ∀ n, (repL l n).length = n * l.length
  | 0 => by simp [repL]
  | n + 1 => by simp [repL, repL_len l n, Nat.succ_mul, Nat.add_comm]
theorem fold_rep (l : List Nat) : ∀ (n : Nat) (acc : Array Nat), ((List.replicate n l.toArray).foldl (· ++ ·) acc).toList = acc.toList ++ repL l n
  | 0, acc => by simp [repL]
  | n + 1, acc => by
    rw [List.replicate_succ, List.foldl_cons, fold_rep l n]
    simp [repL]
theorem repL_one (l : List Nat) : repL l 1 = l := by simp [repL]
theorem repL_nil : ∀ n, repL [] n = []
  | 0 => rfl
  | n + 1 => by simp [repL, repL_nil n]
theorem mul_S (l : List Nat) (k : Int) : Txt.mul (S l) k = S (repL l k.toNat) := by
  unfold Txt.mul
  by_cases h1 : k < 1
  · rw [if_pos h1]
    have e : k.toNat = 0 := by omega
    rw [e]
    rfl
  · rw [if_neg h1]
    by_cases h2 : (k == 1 || (S l).length == 0) = true
    · rw [if_pos h2]
      rcases (Bool.or_eq_true _ _).mp h2 with h | h
      · have e : k = 1 := by simpa using h
        subst e
        show S l = S (repL l 1)
        rw [repL_one]
      · have e : l = [] := by
          have := S_len l
          simp at h
          rw [this] at h
          exact List.length_eq_zero_iff.mp h
        subst e
        rw [repL_nil]
    · rw [if_neg h2]
      have e := fold_rep l k.toNat #[]
      have e2 : (List.replicate k.toNat l.toArray).foldl (· ++ ·) #[] = (repL l k.toNat).toArray := by
        have e3 := congrArg List.toArray e
        simpa using e3
      exact congrArg (fun z => (⟨z⟩ : Str)) e2
def rMulS : R2 := fun x y H Q => ∃ (l : List Nat) (k : Int), x = .str (S l) ∧ y = .int k ∧ k ≤ 1000 ∧ -1000 ≤ k ∧ l.length ≤ 1000 ∧ Q (.str (S (repL l k.toNat))) H
theorem op_mulS : OpR X (binaryOp .Mult) rMulS := by
  intro pins s σ H x y v u Q I rx ry h
  obtain ⟨l, k, rfl, rfl, hk, hk2, hl, q⟩ := h
  obtain ⟨t, rfl⟩ := rx
  obtain ⟨t', rfl⟩ := ry
  refine SB.mul ⟨?_, fun h1 h2 => ?_, fun h1 h2 => ?_⟩ fun tt kk => ?_
  · have a : ¬ k < -(2 ^ 63 : Int) := by omega
    have b : ¬ k ≥ 2 ^ 63 := by omega
    simp [a, b]
    omega
  · rw [S_len]
    have h3 : (1000 : Int) ≤ (2 ^ 63 - 1) / k := by
      refine (Int.le_ediv_iff_mul_le (by omega)).mpr ?_
      omega
    omega
  · rw [S_len]
    unfold Builtin.Str.tooLong
    have e : l.length * k.toNat ≤ 1000 * 1000 := Nat.mul_le_mul hl (by omega)
    have e2 : (1000 * 1000 : Nat) ≤ sizeLine := by decide
    simp
    omega
  · rw [mul_S]
    exact ⟨.str _, H, I.tok _, ⟨_, rfl⟩, q⟩

/-- set(xs), xs a list of ints -/
def rSetL (K : PySem.W.Frag) : List V → Hp → VK → Prop := fun xs H Q => ∃ (l : Addr) (ns : List Int), xs = [.ref l] ∧ SqL K H l (ns.map V.int) ∧ ns.length ≤ 4000 ∧
  ∀ p, H p = none → Q (.ref p) (upd H p (.set (fun k => (firstMet (fun i => ns.getD i 0) ns.length).any (· == k)) (firstMet (fun i => ns.getD i 0) ns.length).length))
theorem call_setL (hc : X.calm = true) : CallR X (.type "set") (rSetL X.K) := by
  intro pins s σ H xs us Q I r h
  obtain ⟨l, ns, rfl, hq, hl, q⟩ := h
  obtain ⟨u, rfl, rx⟩ := vals1 r
  cases rx
  obtain ⟨its, r, pl, hz⟩ := I.list hq
  have hlen : its.toArray.size = ns.length := by rw [List.size_toArray, ← r.length, List.length_map]
  refine call_set_list (I.ok.hd hc) pl.isList (by simpa using RZ.intsAre_vals r) (by rw [hlen]; unfold scanBound; omega) fun h' tk hS hk => ?_
  rw [hlen] at hS
  exact ⟨.ref s.heap.objs.size, _, I.laid (t' := tk) (fun b o e => hk b o (Heap.lt_size e) e) (Nat.le_refl _) (show ObjOk X.prog X.w _ h' _ (.set _ _) from hS), rfl, q _ (I.hok.fresh (Nat.le_refl _))⟩
def rLenSet : List V → Hp → VK → Prop := fun xs H Q => ∃ (a : Addr) (T : Int → Bool) (n : Nat), xs = [.ref a] ∧ H a = some (.set T n) ∧ n ≤ 100000 ∧ Q (.int n) H
theorem call_lenSet : CallR X (.builtin "len") rLenSet := by
  intro pins s σ H xs us Q I r h
  obtain ⟨a, T, n, rfl, ha, hn, q⟩ := h
  obtain ⟨u, rfl, rx⟩ := vals1 r
  cases rx
  obtain ⟨o, es, ep, t, ho, hex, hd, _, _, _, hf, hn'⟩ := show s.heap.SetOf (intKind X.prog X.w) a T n from I.hok a _ ha
  exact call_len_set ho hex hd hf (by omega) ⟨.int n, H, I.tok _, ⟨_, by rw [hn']⟩, q⟩
end
end My
/-! How a reading is gone through, step by step: each row is one transformer of the layer. -/
namespace My
open PySem PySem.Spec L2 SX
open PyProof.Rows hiding St

/-! ### defs that may be called by name -/
structure Cal (P : Program) (w : World) (K : PySem.W.Frag) (mg : Str → Option Value) (base : Heap) (k : Nat) (x : Str) (sp : Sp) : Prop where
  ex : ∃ (f : Addr) (fd : FuncData) (ps : List Str), FnOk P w K mg base L2.CX0 k f fd ps sp ∧ mg x = some (.ref f) ∧ PySem.W.keepIn K (.ref f) = true ∧ Binds K fd ps []
theorem Cal.mono {P : Program} {w : World} {K : PySem.W.Frag} {mg : Str → Option Value} {base : Heap} {j k : Nat} {x : Str} {sp : Sp} (c : Cal P w K mg base j x sp) (h : j ≤ k) : Cal P w K mg base k x sp := by
  obtain ⟨f, fd, ps, F, a, b, d⟩ := c.ex
  exact ⟨f, fd, ps, F.mono h, a, b, d⟩
section
variable {X : Cx} {k j : Nat} {x : Str} {sp : Sp} {p pos : Pos} {e : Expr} {es : List Expr} {t : TA}
theorem pe_c (c : Cal X.prog X.w X.K X.mg X.base k x sp) (hr : Room j X.A) (hk : k ≤ j) (hg : Gl X x) (ha : PA X (e :: es) t)
    (hdb : (x == ("__debug__" : Str)) = false := by decide) (he : starEach (e :: es) X.env = (false, eval e X.env) :: starEach es X.env := by rfl) (hpl : (backTo pos (starEach es X.env)).any (·.1) = false := by rfl) :
    PE X (.Call (.Name x p) (e :: es) [] pos) (tCall sp [] L2.E0 t) := by
  obtain ⟨f, fd, ps, F, hm, kp, b⟩ := c.ex
  exact pe_call F (hr.mono hk) hg hm kp b .nil L2.pass0 ha hdb he hpl
theorem pe_c0 (c : Cal X.prog X.w X.K X.mg X.base k x sp) (hr : Room j X.A) (hk : k ≤ j) (hg : Gl X x) (hdb : (x == ("__debug__" : Str)) = false := by decide) :
    PE X (.Call (.Name x p) [] [] pos) (tCall sp [] L2.E0 tNil) := by
  obtain ⟨f, fd, ps, F, hm, kp, b⟩ := c.ex
  exact pe_call0 F (hr.mono hk) hg hm kp b .nil L2.pass0 hdb
theorem pe_strS {x : Str} {j} {pos : Pos} (l : List Nat) (h : x = S l) : PE X (.Constant (.str x) j pos) (tC (.str (S l))) := by
  subst h
  exact pe_str
end

/-! ### the layer's rules under names -/
section
variable {X : Cx}
def qLen (K : PySem.W.Frag) : List V → Hp → VK → Prop := fun xs H Q => ∃ p ys, xs = [.ref p] ∧ (SqL K H p ys ∨ SqT K H p ys) ∧ Q (.int (ys.length : Nat)) H
theorem cq_len : CallR X (.builtin "len") (qLen X.K) := call_len_seq
def qLenS : List V → Hp → VK → Prop := fun xs H Q => ∃ l : List Nat, xs = [.str (S l)] ∧ l.length ≤ 100000 ∧ Q (.int (l.length : Nat)) H
theorem cq_lenS : CallR X (.builtin "len") qLenS := fun pins s σ H xs us Q I r ⟨l, e, hl, q⟩ => call_len_str pins s σ H xs us Q I r ⟨S l, e, by rw [S_len]; exact sz hl, by rw [S_len]; exact q⟩
def qInt : List V → Hp → VK → Prop := fun xs H Q => (∃ i, xs = [.int i] ∧ Q (.int i) H) ∨ ∃ k, xs = [.bl k] ∧ Q (.int (if k then 1 else 0)) H
theorem cq_int : CallR X (.type "int") qInt := call_int1
def qAbs : List V → Hp → VK → Prop := fun xs H Q => ∃ i, xs = [.int i] ∧ Q (.int (if i < 0 then -i else i)) H
theorem cq_abs : CallR X (.builtin "abs") qAbs := call_abs
def qMax2 : List V → Hp → VK → Prop := fun xs H Q => ∃ i j, xs = [.int i, .int j] ∧ Q (.int (if j > i then j else i)) H
theorem cq_max2 (hc : X.calm = true) : CallR X (.builtin "max") qMax2 := call_max2 hc
def qMin2 : List V → Hp → VK → Prop := fun xs H Q => ∃ i j, xs = [.int i, .int j] ∧ Q (.int (if j < i then j else i)) H
theorem cq_min2 (hc : X.calm = true) : CallR X (.builtin "min") qMin2 := call_min2 hc
def qAddS : R2 := fun x y H Q => ∃ l m : List Nat, x = .str (S l) ∧ y = .str (S m) ∧ l.length + m.length ≤ 100000 ∧ Q (.str (S (l ++ m))) H
theorem oq_addS : OpR X (binaryOp .Add) qAddS := fun pins s σ H x y v u Q I rx ry ⟨l, m, e1, e2, hl, q⟩ => op_add_str pins s σ H x y v u Q I rx ry ⟨S l, S m, e1, e2, by rw [S_len, S_len]; exact sz hl, by rw [S_cat]; exact q⟩
def qLtS : R2 := fun x y H Q => ∃ l m : List Nat, x = .str (S l) ∧ y = .str (S m) ∧ Q (.bl (decide (l < m))) H
theorem oq_ltS : OpR X (compareOp .Lt) qLtS := fun pins s σ H x y v u Q I rx ry ⟨l, m, e1, e2, q⟩ => op_lt_str pins s σ H x y v u Q I rx ry ⟨S l, S m, e1, e2, q⟩
def qLeS : R2 := fun x y H Q => ∃ l m : List Nat, x = .str (S l) ∧ y = .str (S m) ∧ Q (.bl (!decide (m < l))) H
theorem oq_leS : OpR X (compareOp .LtE) qLeS := fun pins s σ H x y v u Q I rx ry ⟨l, m, e1, e2, q⟩ => op_le_str pins s σ H x y v u Q I rx ry ⟨S l, S m, e1, e2, q⟩
def qGtS : R2 := fun x y H Q => ∃ l m : List Nat, x = .str (S l) ∧ y = .str (S m) ∧ Q (.bl (decide (m < l))) H
theorem oq_gtS : OpR X (compareOp .Gt) qGtS := fun pins s σ H x y v u Q I rx ry ⟨l, m, e1, e2, q⟩ => op_gt_str pins s σ H x y v u Q I rx ry ⟨S l, S m, e1, e2, q⟩
def qGeS : R2 := fun x y H Q => ∃ l m : List Nat, x = .str (S l) ∧ y = .str (S m) ∧ Q (.bl (!decide (l < m))) H
theorem oq_geS : OpR X (compareOp .GtE) qGeS := fun pins s σ H x y v u Q I rx ry ⟨l, m, e1, e2, q⟩ => op_ge_str pins s σ H x y v u Q I rx ry ⟨S l, S m, e1, e2, q⟩
def qInC : R2 := fun x y H Q => ∃ (c : Nat) (l : List Nat), x = .str (S [c]) ∧ y = .str (S l) ∧ Q (.bl (decide (c ∈ l))) H
theorem oq_inC : OpR X (compareOp .In) qInC := fun pins s σ H x y v u Q I rx ry ⟨c, l, e1, e2, q⟩ => op_in_sign pins s σ H x y v u Q I rx ry ⟨c, S l, e1, e2, q⟩
def qNotInC : R2 := fun x y H Q => ∃ (c : Nat) (l : List Nat), x = .str (S [c]) ∧ y = .str (S l) ∧ Q (.bl (!decide (c ∈ l))) H
theorem oq_notInC : OpR X (compareOp .NotIn) qNotInC := fun pins s σ H x y v u Q I rx ry ⟨c, l, e1, e2, q⟩ => op_notIn_sign pins s σ H x y v u Q I rx ry ⟨c, S l, e1, e2, q⟩
def qListOf (K : PySem.W.Frag) : List V → Hp → VK → Prop := fun xs H Q => ∃ p ys, xs = [.ref p] ∧ (SqL K H p ys ∨ SqT K H p ys) ∧ ∀ l, H l = none → Q (.ref l) (upd H l (.lst ys))
theorem cq_listOf : CallR X (.type "list") (qListOf X.K) := call_list_of
/-- "".join(a list of texts) -/
def qJoin (K : PySem.W.Frag) : V → List V → Hp → VK → Prop := fun x xs H Q => ∃ (p : Addr) (ws : List (List Nat)), x = .str (S []) ∧ xs = [.ref p] ∧ SqL K H p (ws.map fun w => V.str (S w)) ∧ ws.flatten.length ≤ 100000 ∧ Q (.str (S ws.flatten)) H
theorem joinL_nil : ∀ ws : List (List Nat), TL.joinL [] ws = ws.flatten
  | [] => rfl
  | [w] => by simp [TL.joinL]
  | w :: v :: ws => by
    have ih := joinL_nil (v :: ws)
    simp only [TL.joinL, ih, List.flatten_cons, List.append_nil, List.nil_append]
theorem oq_join : MtR X "str.join" (qJoin X.K) := by
  intro pins s σ H x xs v us Q I rx rxs h
  obtain ⟨p, ws, rfl, rfl, hq, hl, q⟩ := h
  refine mt_join pins s σ H _ _ v us Q I rx rxs ⟨S [], p, ws.map S, rfl, rfl, .inl ?_, ?_, ?_⟩
  · rw [List.map_map]
    exact hq
  · rw [lens, S_len]
    have e : (ws.map (·.length)).sum = ws.flatten.length := by rw [List.length_flatten]
    have e2 : (ws.map fun x => x.length).sum = ws.flatten.length := e
    rw [e2]
    simp
    simp at hl
    omega
  · rw [join_S, joinL_nil]
    exact q
theorem pe_joinE {o e : Expr} {to te : TE} {apos pos : Pos} (ho : PE X o to) (he : PE X e te) (hs : starEach [e] X.env = [(false, eval e X.env)] := by rfl) (hbase : attributeBase o "join" X.env (eval o X.env) = eval o X.env := by rfl) (hline : (apos.endLine == pos.line) = true := by rfl) :
    PE X (.Call (.Attribute o "join" apos) [e] [] pos) (tM1 (qJoin X.K) to te) :=
  pe_m1 PySem.F.slot_str_join PySem.F.type_str_join oq_join ho he hs hbase hline
end

/-! ### heaps -/
/-- all but what stands at h is kept -/
def ExB (h : Addr) (H H' : Hp) : Prop := ∀ a o, a ≠ h → H a = some o → H' a = some o
theorem ExB.refl (h : Addr) (H : Hp) : ExB h H H := fun _ _ _ e => e
theorem ExB.trans {h : Addr} {H H1 H2 : Hp} (a : ExB h H H1) (b : ExB h H1 H2) : ExB h H H2 := fun c o n e => b c o n (a c o n e)
theorem ExB.of {h : Addr} {H H' : Hp} (e : Same H H') : ExB h H H' := fun a o _ q => e a o q
theorem ExB.upd {h : Addr} {H : Hp} {o : HO} : ExB h H (upd H h o) := fun a u n e => by rw [upd_ne n]; exact e
theorem ExB.new {h p : Addr} {H : Hp} {o : HO} (n : H p = none) : ExB h H (L2.upd H p o) := fun a u _ e => by rw [upd_ne (ne_of_none e n)]; exact e
theorem Same.new {p : Addr} {H : Hp} {o : HO} (n : H p = none) : Same H (L2.upd H p o) := fun a u e => by rw [upd_ne (ne_of_none e n)]; exact e
/-- an object that was not there may change -/
theorem Same.mut {p : Addr} {H H' : Hp} {o : HO} (e : Same H H') (n : H p = none) : Same H (L2.upd H' p o) := fun a u q => by rw [upd_ne (ne_of_none q n)]; exact e a u q
theorem ExB.mut {h p : Addr} {H H' : Hp} {o : HO} (e : ExB h H H') (n : H p = none) : ExB h H (L2.upd H' p o) := fun a u m q => by rw [upd_ne (ne_of_none q n)]; exact e a u m q
theorem Same.seqT {K : PySem.W.Frag} {H H' : Hp} {a : Addr} {xs : List V} (e : Same H H') (h : SqT K H a xs) : SqT K H' a xs := by
  rcases h with (h | ⟨o, h⟩) | h
  · exact .inl (.inl (e _ _ h))
  · exact .inl (.inr ⟨o, e _ _ h⟩)
  · exact .inr h
theorem ExB.seq {h : Addr} {K : PySem.W.Frag} {H H' : Hp} {a : Addr} {xs : List V} (e : ExB h H H') (n : a ≠ h) (q : SqL K H a xs) : SqL K H' a xs := by
  rcases q with (q | ⟨o, q⟩) | q
  · exact .inl (.inl (e _ _ n q))
  · exact .inl (.inr ⟨o, e _ _ n q⟩)
  · exact .inr q

/-! ### the steps -/
section
variable {σ : St} {H : Hp} {Q : VK} {D : Ends} {t u : TS} {te ta tb : TE} {g : TG} {v x y : V} {i j : Int} {K : PySem.W.Frag} {tt tu : TT}
theorem rd_seq (h : t ⟨u D, D.rt, D.bk, D.ct⟩ σ H) : tSeq t u D σ H := h
theorem rd_next {nx : St → Hp → Prop} {rt : VK} {bk ct : St → Hp → Prop} (h : nx σ H) : tNext ⟨nx, rt, bk, ct⟩ σ H := h
theorem rd_asg {nx : St → Hp → Prop} {rt : VK} {bk ct : St → Hp → Prop} (h : te σ H fun x H1 => g x σ H1 nx) : tAsg te g ⟨nx, rt, bk, ct⟩ σ H := h
theorem rd_par {i j : Nat} {ta : TA} {nx : St → Hp → Prop} {rt : VK} {bk ct : St → Hp → Prop} (h : ta σ H fun vs H1 => ∃ v w, vs = [v, w] ∧ nx ((σ.set i (some v)).set j (some w)) H1) : tPar i j ta ⟨nx, rt, bk, ct⟩ σ H := h
theorem rd_if (h : tt σ H fun b H1 => if b = true then t D σ H1 else u D σ H1) : tIfS tt t u D σ H := h
theorem rd_ret {nx : St → Hp → Prop} {rt : VK} {bk ct : St → Hp → Prop} (h : te σ H rt) : tRet te ⟨nx, rt, bk, ct⟩ σ H := h
theorem rd_retN {nx : St → Hp → Prop} {rt : VK} {bk ct : St → Hp → Prop} (h : rt .non H) : tRetN ⟨nx, rt, bk, ct⟩ σ H := h
theorem rd_drop {nx : St → Hp → Prop} {rt : VK} {bk ct : St → Hp → Prop} (h : te σ H fun _ H1 => nx σ H1) : tDrop te ⟨nx, rt, bk, ct⟩ σ H := h
theorem rd_name {i : Nat} {P : St → Hp → Prop} (h : P (σ.set i (some v)) H) : gName i v σ H P := h
theorem rd_sub {to ti : TE} {ts : TSet} {P : St → Hp → Prop} (h : to σ H fun o H1 => ti σ H1 fun i H2 => ts o i v H2 fun H3 => P σ H3) : gSub to ti ts v σ H P := h
theorem rd_var {n : Nat} (e : σ[n]? = some (some v)) (q : Q v H) : tVar n σ H Q := ⟨v, e, q⟩
theorem rd_c (q : Q v H) : tC v σ H Q := q
theorem rd_op {r : R2} (h : ta σ H fun x H1 => tb σ H1 fun y H2 => r x y H2 Q) : tOp r ta tb σ H Q := h
theorem rd_un {r : V → Hp → VK → Prop} (h : ta σ H fun x H1 => r x H1 Q) : tUn r ta σ H Q := h
theorem rd_I0 {g : Int → Int → V} (q : Q (g i j) H) : rI0 g (.int i) (.int j) H Q := ⟨i, j, rfl, rfl, q⟩
theorem rd_I {C : Int → Int → Prop} {g : Int → Int → V} (c : C i j) (q : Q (g i j) H) : rI C g (.int i) (.int j) H Q := ⟨i, j, rfl, rfl, c, q⟩
theorem rd_U {g : Int → V} (q : Q (g i) H) : rU g (.int i) H Q := ⟨i, rfl, q⟩
theorem rd_eq (s : scal x y = true) (q : Q (.bl (decide (x = y))) H) : rEq x y H Q := ⟨s, q⟩
theorem rd_ne (s : scal x y = true) (q : Q (.bl (!decide (x = y))) H) : rNe x y H Q := ⟨s, q⟩
theorem rd_eqI (q : Q (.bl (decide (i = j))) H) : rEq (.int i) (.int j) H Q := ⟨rfl, by
  have e : decide (V.int i = V.int j) = decide (i = j) := by
    by_cases h : i = j
    · subst h; simp
    · rw [decide_eq_false h, decide_eq_false fun z => h (V.int.inj z)]
  rw [e]; exact q⟩
theorem rd_neI (q : Q (.bl (!decide (i = j))) H) : rNe (.int i) (.int j) H Q := ⟨rfl, by
  have e : decide (V.int i = V.int j) = decide (i = j) := by
    by_cases h : i = j
    · subst h; simp
    · rw [decide_eq_false h, decide_eq_false fun z => h (V.int.inj z)]
  rw [e]; exact q⟩
theorem dec_S (a b : List Nat) : decide (V.str (S a) = V.str (S b)) = decide (a = b) := by
  by_cases h : a = b
  · subst h; simp
  · rw [decide_eq_false h, decide_eq_false fun z => h (S_inj (V.str.inj z))]
theorem rd_eqS {a b : List Nat} (q : Q (.bl (decide (a = b))) H) : rEq (.str (S a)) (.str (S b)) H Q := ⟨rfl, by rw [dec_S]; exact q⟩
theorem rd_neS {a b : List Nat} (q : Q (.bl (!decide (a = b))) H) : rNe (.str (S a)) (.str (S b)) H Q := ⟨rfl, by rw [dec_S]; exact q⟩
theorem dec_bl (a b : Bool) : decide (V.bl a = V.bl b) = (a == b) := by cases a <;> cases b <;> rfl
theorem rd_eqB {a b : Bool} (q : Q (.bl (a == b)) H) : rEq (.bl a) (.bl b) H Q := ⟨rfl, by rw [dec_bl]; exact q⟩
theorem rd_neB {a b : Bool} (q : Q (.bl (!(a == b))) H) : rNe (.bl a) (.bl b) H Q := ⟨rfl, by rw [dec_bl]; exact q⟩
theorem rd_test {Q : Bool → Hp → Prop} (h : te σ H fun x H' => ∃ k, x = .bl k ∧ Q k H') : tTest te σ H Q := h
theorem rd_B {Q : Bool → Hp → Prop} (h : te σ H fun x H' => ∃ k, x = .bl k ∧ Q k H') : tB te σ H Q := h
theorem rd_and {Q : Bool → Hp → Prop} (h : tt σ H fun c H1 => if c = true then tu σ H1 Q else Q false H1) : tAnd tt tu σ H Q := h
theorem rd_or {Q : Bool → Hp → Prop} (h : tt σ H fun c H1 => if c = true then Q true H1 else tu σ H1 Q) : tOr tt tu σ H Q := h
theorem rd_not {Q : Bool → Hp → Prop} (h : tt σ H fun c H1 => Q (!c) H1) : tNot tt σ H Q := h
theorem rd_andV (h : ta σ H fun x H1 => ∃ c, x = .bl c ∧ if c = true then tb σ H1 Q else Q (.bl false) H1) : tAndV ta tb σ H Q := h
theorem rd_orV (h : ta σ H fun x H1 => ∃ c, x = .bl c ∧ if c = true then Q (.bl true) H1 else tb σ H1 Q) : tOrV ta tb σ H Q := h
theorem rd_notV (h : ta σ H fun x H1 => ∃ c, x = .bl c ∧ Q (.bl (!c)) H1) : tNotV ta σ H Q := h
theorem rd_ifE (h : tt σ H fun c H1 => if c = true then ta σ H1 Q else tb σ H1 Q) : tIf tt ta tb σ H Q := h
theorem rd_cons {ta : TE} {tr : TA} {Q : List V → Hp → Prop} (h : ta σ H fun x H1 => tr σ H1 fun xs H2 => Q (x :: xs) H2) : tCons ta tr σ H Q := h
theorem rd_nil {Q : List V → Hp → Prop} (h : Q [] H) : tNil σ H Q := h
theorem rd_lst {t : TA} (h : t σ H fun xs H1 => xs.length ≤ sizeLine ∧ ∀ p, H1 p = none → Q (.ref p) (upd H1 p (.lst xs))) : tLst t σ H Q := h
theorem rd_tup {t : TA} (h : t σ H fun xs H1 => xs.length ≤ sizeLine ∧ ∀ p, H1 p = none → Q (.ref p) (upd H1 p (.tup xs))) : tTup t σ H Q := h
theorem rd_len {α : Type} {xs : List α} {A : Prop} (h : xs.length ≤ sizeLine) (q : A) : xs.length ≤ sizeLine ∧ A := ⟨h, q⟩
theorem rd_CB {r : List V → Hp → VK → Prop} {t : TA} (h : t σ H fun vs H1 => r vs H1 Q) : tCB r t σ H Q := h
theorem rd_call {sp : Sp} {E : XK} {t : TA} (h : t σ H fun vs H1 => sp vs H1 Q E) : tCall sp [] E t σ H Q := by
  show t σ H fun vs H1 => sp (vs ++ []) H1 Q E
  have e : (fun (vs : List V) (H1 : Hp) => sp (vs ++ []) H1 Q E) = fun vs H1 => sp vs H1 Q E := by
    funext vs H1
    rw [List.append_nil]
  rw [e]
  exact h
theorem rd_sl {r : V → Option Int → Option Int → Hp → VK → Prop} {tl th : TO} (h : te σ H fun x H1 => tl σ H1 fun l H2 => th σ H2 fun u H3 => r x l u H3 Q) : L2.tSl r te tl th σ H Q := h
theorem rd_part {Q : Option Int → Hp → Prop} (h : te σ H fun x H1 => ∃ i, x = .int i ∧ Q (some i) H1) : tPart te σ H Q := h
theorem rd_nopart {Q : Option Int → Hp → Prop} (h : Q none H) : tNoPart σ H Q := h
theorem rd_isN (h : te σ H fun x H1 => Q (.bl (decide (x = .non))) H1) : tIsN te σ H Q := h
theorem rd_notN (h : te σ H fun x H1 => Q (.bl (!decide (x = .non))) H1) : tNotN te σ H Q := h
theorem rd_bool {b : Bool} {Q : Bool → Prop} (q : Q b) : ∃ k, V.bl b = .bl k ∧ Q k := ⟨b, rfl, q⟩
theorem rd_int {Q : Int → Prop} (q : Q i) : ∃ k, V.int i = .int k ∧ Q k := ⟨i, rfl, q⟩
theorem rd_true {A B : Prop} (h : A) : if true = true then A else B := by rw [if_pos rfl]; exact h
theorem rd_false {A B : Prop} (h : B) : if false = true then A else B := by rw [if_neg Bool.false_ne_true]; exact h
theorem rd_nt {A B : Prop} (h : B) : if (!true) = true then A else B := rd_false h
theorem rd_nf {A B : Prop} (h : A) : if (!false) = true then A else B := rd_true h
theorem rd_decT {p : Prop} [Decidable p] {A B : Prop} (hp : p) (h : A) : if decide p = true then A else B := by rw [decide_eq_true hp, if_pos rfl]; exact h
theorem rd_decF {p : Prop} [Decidable p] {A B : Prop} (hp : ¬ p) (h : B) : if decide p = true then A else B := by rw [decide_eq_false hp, if_neg Bool.false_ne_true]; exact h
theorem rd_ndecT {p : Prop} [Decidable p] {A B : Prop} (hp : ¬ p) (h : A) : if (!decide p) = true then A else B := by rw [decide_eq_false hp]; exact rd_true h
theorem rd_ndecF {p : Prop} [Decidable p] {A B : Prop} (hp : p) (h : B) : if (!decide p) = true then A else B := by rw [decide_eq_true hp]; exact rd_false h
theorem rd_ite {b : Bool} {A B : Prop} (h1 : b = true → A) (h2 : b = false → B) : if b = true then A else B := by
  cases b
  · rw [if_neg Bool.false_ne_true]; exact h2 rfl
  · rw [if_pos rfl]; exact h1 rfl
theorem rd_dec {p : Prop} [Decidable p] {A B : Prop} (h1 : p → A) (h2 : ¬ p → B) : if decide p = true then A else B := by
  by_cases h : p
  · rw [decide_eq_true h, if_pos rfl]; exact h1 h
  · rw [decide_eq_false h, if_neg Bool.false_ne_true]; exact h2 h
theorem rd_ndec {p : Prop} [Decidable p] {A B : Prop} (h1 : ¬ p → A) (h2 : p → B) : if (!decide p) = true then A else B := by
  by_cases h : p
  · rw [decide_eq_true h]; exact rd_false (h2 h)
  · rw [decide_eq_false h]; exact rd_true (h1 h)
theorem rd_strlen {l : List Nat} (hl : l.length ≤ 100000) (q : Q (.int (l.length : Nat)) H) : qLenS [.str (S l)] H Q := ⟨l, rfl, hl, q⟩
theorem rd_cat {l m : List Nat} (hl : l.length + m.length ≤ 100000) (q : Q (.str (S (l ++ m))) H) : qAddS (.str (S l)) (.str (S m)) H Q := ⟨l, m, rfl, rfl, hl, q⟩
theorem rd_ltS {l m : List Nat} (q : Q (.bl (decide (l < m))) H) : qLtS (.str (S l)) (.str (S m)) H Q := ⟨l, m, rfl, rfl, q⟩
theorem rd_leS {l m : List Nat} (q : Q (.bl (!decide (m < l))) H) : qLeS (.str (S l)) (.str (S m)) H Q := ⟨l, m, rfl, rfl, q⟩
theorem rd_gtS {l m : List Nat} (q : Q (.bl (decide (m < l))) H) : qGtS (.str (S l)) (.str (S m)) H Q := ⟨l, m, rfl, rfl, q⟩
theorem rd_geS {l m : List Nat} (q : Q (.bl (!decide (l < m))) H) : qGeS (.str (S l)) (.str (S m)) H Q := ⟨l, m, rfl, rfl, q⟩
theorem rd_inC {c : Nat} {l : List Nat} (q : Q (.bl (decide (c ∈ l))) H) : qInC (.str (S [c])) (.str (S l)) H Q := ⟨c, l, rfl, rfl, q⟩
theorem rd_notInC {c : Nat} {l : List Nat} (q : Q (.bl (!decide (c ∈ l))) H) : qNotInC (.str (S [c])) (.str (S l)) H Q := ⟨c, l, rfl, rfl, q⟩
theorem rd_abs (q : Q (.int (if i < 0 then -i else i)) H) : qAbs [.int i] H Q := ⟨i, rfl, q⟩
theorem rd_max2 (q : Q (.int (if j > i then j else i)) H) : qMax2 [.int i, .int j] H Q := ⟨i, j, rfl, q⟩
theorem rd_min2 (q : Q (.int (if j < i then j else i)) H) : qMin2 [.int i, .int j] H Q := ⟨i, j, rfl, q⟩
theorem rd_listS {l : List Nat} (hl : l.length ≤ 100000) (q : ∀ p, H p = none → Q (.ref p) (upd H p (.lst (signs l)))) : rListS [.str (S l)] H Q := ⟨l, rfl, hl, q⟩
theorem rd_join {p : Addr} {ws : List (List Nat)} (s : SqL K H p (ws.map fun w => V.str (S w))) (hl : ws.flatten.length ≤ 100000) (q : Q (.str (S ws.flatten)) H) : qJoin K (.str (S [])) [.ref p] H Q := ⟨p, ws, rfl, rfl, s, hl, q⟩
theorem rd_joinC {p : Addr} {l : List Nat} (s : SqL K H p (signs l)) (hl : l.length ≤ 100000) (q : Q (.str (S l)) H) : qJoin K (.str (S [])) [.ref p] H Q := by
  have e : ∀ l : List Nat, (l.map fun c => [c]).flatten = l := fun l => by
    induction l with
    | nil => rfl
    | cons a l ih => simp [ih]
  refine ⟨p, l.map fun c => [c], rfl, rfl, ?_, by rw [e]; exact hl, by rw [e]; exact q⟩
  rw [List.map_map]
  exact s
theorem rd_M1 {r : V → List V → Hp → VK → Prop} {to te : TE} (h : to σ H fun x H1 => (∃ a, x = .str a) ∧ te σ H1 fun y H2 => r x [y] H2 Q) : tM1 r to te σ H Q := h
theorem rd_isStr {a : Str} {A : Prop} (h : A) : (∃ b, V.str a = .str b) ∧ A := ⟨⟨a, rfl⟩, h⟩
theorem rd_mulS {l : List Nat} (h1 : -1000 ≤ i) (h2 : i ≤ 1000) (hl : l.length ≤ 1000) (q : Q (.str (S (repL l i.toNat))) H) : rMulS (.str (S l)) (.int i) H Q := ⟨l, i, rfl, rfl, h2, h1, hl, q⟩
theorem rd_ixL {p : Addr} {xs : List V} (s : SqL K H p xs) (a : atI xs i = some v) (q : Q v H) : L2.rIxL K (.ref p) (.int i) H Q := ⟨p, xs, i, v, rfl, rfl, s, a, q⟩
theorem rd_ixT {p : Addr} {xs : List V} (s : SqT K H p xs) (a : atI xs i = some v) (q : Q v H) : L2.rIxT K (.ref p) (.int i) H Q := ⟨p, xs, i, v, rfl, rfl, s, a, q⟩
theorem rd_ixS {l : List Nat} {c : Nat} (hl : l.length ≤ 100000) (a : atI l i = some c) (q : Q (.str (S [c])) H) : L2.rIxS (.str (S l)) (.int i) H Q := ⟨S l, i, c, rfl, rfl, by rw [S_len]; exact sz hl, a, q⟩
theorem rd_lenL {p : Addr} {xs : List V} (s : SqL K H p xs) (q : Q (.int (xs.length : Nat)) H) : qLen K [V.ref p] H Q := ⟨p, xs, rfl, .inl s, q⟩
theorem rd_lenT {p : Addr} {xs : List V} (s : SqT K H p xs) (q : Q (.int (xs.length : Nat)) H) : qLen K [V.ref p] H Q := ⟨p, xs, rfl, .inr s, q⟩
theorem rd_intI (q : Q (.int i) H) : qInt [V.int i] H Q := .inl ⟨i, rfl, q⟩
theorem rd_intB {k : Bool} (q : Q (.int (if k then 1 else 0)) H) : qInt [V.bl k] H Q := .inr ⟨k, rfl, q⟩
theorem rd_setL {p : Addr} {xs : List V} {n : Nat} {R : Hp → Prop} (h : H p = some (.lst xs)) (hj : ixN xs.length i = some n) (q : R (upd H p (.lst (xs.set n v)))) : L2.rSetL (.ref p) (.int i) v H R := ⟨p, xs, i, n, rfl, rfl, h, hj, q⟩
theorem rd_app {l : Addr} {xs : List V} (h : H l = some (.lst xs)) (hl : xs.length < 100000) (q : Q .non (upd H l (.lst (xs ++ [v])))) : rAppend (.ref l) [v] H Q := ⟨l, xs, v, rfl, rfl, h, szlt hl, q⟩
theorem rd_BM {r : V → List V → Hp → VK → Prop} {t : TA} {p : Addr} {ys : List V} {to : TE} (h : to σ H fun x H1 => tyV K "list" x H1 ∧ t σ H1 fun xs H2 => r x xs H2 Q) : tBM K "list" r to t σ H Q := h
theorem tyL {p : Addr} {xs : List V} (h : H p = some (.lst xs)) : tyV K "list" (.ref p) H := .inl ⟨rfl, _, SqL.of h⟩
theorem rd_slL {p : Addr} {xs : List V} {lo hi : Option Int} (s : SqL K H p xs) (q : ∀ p', H p' = none → Q (.ref p') (upd H p' (.lst (cutV xs lo hi)))) : L2.rSlL K (.ref p) lo hi H Q := ⟨p, xs, rfl, s, q⟩
theorem rd_slS_to {l : List Nat} (hl : l.length ≤ 100000) (h0 : 0 ≤ i) (q : Q (.str (S (l.take i.toNat))) H) : C8.rSlX (.str (S l)) none (some i) H Q := ⟨S l, rfl, by rw [S_len]; exact sz hl, by rw [slice_to h0]; exact q⟩
theorem rd_slS_from {l : List Nat} (hl : l.length ≤ 100000) (h0 : 0 ≤ i) (q : Q (.str (S (l.drop i.toNat))) H) : C8.rSlX (.str (S l)) (some i) none H Q := ⟨S l, rfl, by rw [S_len]; exact sz hl, by rw [slice_from h0]; exact q⟩
end
/-- a place in a list by a number that is not negative -/
theorem at_of {α : Type} {xs : List α} {i : Int} {v : α} (h0 : 0 ≤ i) (h : xs[i.toNat]? = some v) : atI xs i = some v := by
  obtain ⟨n, rfl⟩ := Int.eq_ofNat_of_zero_le h0
  exact atI_nat (by simpa using h)
end My
/-! Loops and comprehensions: what is walked, then one lemma each. -/
namespace My
open PySem PySem.Spec L2 SX
open PyProof.Rows hiding St

/-- what a comprehension over J asks -/
def LcG (J : It) (g : TG) (tt : TT) (te : TE) (vs : List Nat) (σ : St) (Q : VK) (H1 : Hp) : Prop := ∀ D, H1 D = none → ∃ W : Nat → Nat → Hp → Prop, (∃ m, W 0 m (upd H1 D (.lst []))) ∧ ∀ i m H, W i m H →
  (J.stop i H ∧ Q (.ref D) H) ∨ (J.go i H ∧ ∃ Nx : Hp → Prop, (∀ H', Nx H' → ∃ m', m' < m ∧ W (i + 1) m' H') ∧ ∀ x H', J.yld i H x H' → g x (wipe σ vs) H' fun σ2 H2 => wipe σ2 vs = wipe σ vs ∧ tt σ2 H2 fun b H3 =>
    if b = true then te σ2 H3 fun y H4 => ∃ acc, H4 D = some (.lst acc) ∧ acc.length < sizeLine ∧ Nx (upd H4 D (.lst (acc ++ [y]))) else Nx H3)
/-- what a for over J asks -/
def ForG (J : It) (g : TG) (tb : TS) (D : Ends) (σ : St) (H1 : Hp) : Prop := ∃ W : Nat → Nat → St → Hp → Prop, (∃ m, W 0 m σ H1) ∧ ∀ i m σ H, W i m σ H →
  (J.stop i H ∧ D.nx σ H) ∨ (J.go i H ∧ ∃ N : St → Hp → Prop, (∀ σ' H', N σ' H' → ∃ m', m' < m ∧ W (i + 1) m' σ' H') ∧ ∀ x H', J.yld i H x H' → g x σ H' fun σ2 H2 => tb { D with nx := N, ct := N, bk := D.nx } σ2 H2)
section
variable {σ : St} {H : Hp} {Q : VK} {D : Ends} {te tl : TE} {ta : TA} {g : TG} {tt : TT} {vs : List Nat} {K : PySem.W.Frag} {wi : TI} {tb : TS} {R : It → Hp → Prop} {i j c : Int}
theorem rd_lc (h : wi σ H fun J H1 => LcG J g tt te vs σ Q H1) : tLc wi g tt te vs σ H Q := h
theorem rd_for (h : wi σ H fun J H1 => ForG J g tb D σ H1) : tFor wi g tb D σ H := h
def qIl (K : PySem.W.Frag) (x : V) (H1 : Hp) (R : It → Hp → Prop) : Prop := ∃ a, x = .ref a ∧ (∃ xs, SqL K H1 a xs) ∧ R (Itl K a) H1
def qItu (K : PySem.W.Frag) (x : V) (H1 : Hp) (R : It → Hp → Prop) : Prop := ∃ a, x = .ref a ∧ (∃ xs, SqT K H1 a xs) ∧ R (Itt K a) H1
def qIr1 (vs : List V) (H1 : Hp) (R : It → Hp → Prop) : Prop := ∃ j : Int, vs = [.int j] ∧ -(2 ^ 62) ≤ j ∧ j < 2 ^ 62 ∧ R (Itr 0 j.toNat) H1
def qIr2 (vs : List V) (H1 : Hp) (R : It → Hp → Prop) : Prop := ∃ i j : Int, vs = [.int i, .int j] ∧ (-(2 ^ 62) ≤ i ∧ i < 2 ^ 62 ∧ -(2 ^ 62) ≤ j ∧ j < 2 ^ 62) ∧ R (Itr i (j - i).toNat) H1
def qIr3 (vs : List V) (H1 : Hp) (R : It → Hp → Prop) : Prop := ∃ (i j c : Int) (n : Nat), vs = [.int i, .int j, .int c] ∧ RgC i j c n ∧ R (Itc i c n) H1
def qIs (v : V) (H1 : Hp) (R : It → Hp → Prop) : Prop := ∃ x, v = .str x ∧ R (Its x) H1
theorem rd_iList (h : tl σ H fun x H1 => qIl K x H1 R) : iList K tl σ H R := h
theorem rd_iTup (h : tl σ H fun x H1 => qItu K x H1 R) : iTup K tl σ H R := h
theorem rd_iRng1 (h : ta σ H fun vs H1 => qIr1 vs H1 R) : iRng1 ta σ H R := h
theorem rd_iRng2 (h : ta σ H fun vs H1 => qIr2 vs H1 R) : iRng2 ta σ H R := h
theorem rd_iRng3 (h : ta σ H fun vs H1 => qIr3 vs H1 R) : iRng3 ta σ H R := h
theorem rd_iStr (h : tl σ H fun v H1 => qIs v H1 R) : iStr tl σ H R := h
theorem rd_qIl {p : Addr} {xs : List V} (s : SqL K H p xs) (q : R (Itl K p) H) : qIl K (.ref p) H R := ⟨p, rfl, ⟨xs, s⟩, q⟩
theorem rd_qItu {p : Addr} {xs : List V} (s : SqT K H p xs) (q : R (Itt K p) H) : qItu K (.ref p) H R := ⟨p, rfl, ⟨xs, s⟩, q⟩
theorem rd_qIr1 (h1 : -100000 ≤ i) (h2 : i ≤ 100000) (q : R (Itr 0 i.toNat) H) : qIr1 [.int i] H R := ⟨i, rfl, by omega, by omega, q⟩
theorem rd_qIr2 (h1 : -100000 ≤ i) (h2 : i ≤ 100000) (h3 : -100000 ≤ j) (h4 : j ≤ 100000) (q : R (Itr i (j - i).toNat) H) : qIr2 [.int i, .int j] H R := ⟨i, j, rfl, by omega, q⟩
theorem rd_qIr3 (h1 : -100000 ≤ i) (h2 : i ≤ 100000) (h3 : -100000 ≤ j) (h4 : j ≤ 100000) (q : R (Itc i (-1) (i - j).toNat) H) : qIr3 [.int i, .int j, .int (-1)] H R := ⟨i, j, -1, _, rfl, RgC.neg (by omega) (by omega) (by omega) (by omega), q⟩
theorem rd_qIs {l : List Nat} (q : R (Its (S l)) H) : qIs (.str (S l)) H R := ⟨S l, rfl, q⟩

/-- a pure test, a pure element -/
def PT0 (tt : TT) (σ : St) (H : Hp) (b : Bool) : Prop := ∀ H1, Same H H1 → ∀ Q : Bool → Hp → Prop, (∀ H2, Same H1 H2 → Q b H2) → tt σ H1 Q
def PE0 (te : TE) (σ : St) (H : Hp) (v : V) : Prop := ∀ H1, Same H H1 → ∀ Q : VK, (∀ H2, Same H1 H2 → Q v H2) → te σ H1 Q
theorem pt_yes : PT0 tYes σ H true := fun H1 _ Q q => q H1 (Same.refl _)

theorem lc_map {α : Type} (ls : List α) (e : α → V) {J : It} {G : Hp → Prop} {Y : Nat → Hp → V → Hp → Prop} (w : Walk J ls.length G Y) (hG : ∀ H', Same H H' → G H')
    (hY : ∀ i H x H', i < ls.length → Y i H x H' → H' = H ∧ ∃ y, ls[i]? = some y ∧ x = e y) {j : Nat} (hn : ls.length ≤ 50000)
    (hw : ∀ x, wipe ((wipe σ vs).set j (some x)) vs = wipe σ vs) (yes : α → Bool) (f : α → V)
    (ht : ∀ y ∈ ls, PT0 tt ((wipe σ vs).set j (some (e y))) H (yes y)) (he : ∀ y ∈ ls, yes y = true → PE0 te ((wipe σ vs).set j (some (e y))) H (f y))
    (q : ∀ D H', H D = none → Same H H' → H' D = some (.lst ((ls.filter yes).map f)) → Q (.ref D) H') : LcG J (gName j) tt te vs σ Q H := by
  intro D hD
  refine lc_it w (fun i H' => Same H H' ∧ H' D = some (.lst (((ls.take i).filter yes).map f))) ⟨Same.new hD, upd_same⟩ (fun i H' _ p => hG H' p.1) ?_ ?_
  · rintro i x H1 H1' hi ⟨s1, hd⟩ yy
    obtain ⟨rfl, y, hy, rfl⟩ := hY i _ _ _ hi yy
    have hm : y ∈ ls := List.mem_of_getElem? hy
    have htk : ls.take (i + 1) = ls.take i ++ [y] := by rw [List.take_succ, hy]; rfl
    refine ⟨hw _, ?_⟩
    refine ht y hm _ s1 _ fun H3 s3 => ?_
    refine rd_ite (fun hb => ?_) (fun hb => ?_)
    · refine he y hm hb _ (s1.trans s3) _ fun H4 s4 => ?_
      refine ⟨_, s4 _ _ (s3 _ _ hd), ?_, Same.mut ((s1.trans s3).trans s4) hD, ?_⟩
      · rw [List.length_map]
        have h1 := List.length_filter_le yes (ls.take i)
        have h2 : (ls.take i).length ≤ ls.length := by rw [List.length_take]; omega
        exact szlt (by omega)
      · rw [upd_same, htk, List.filter_append, List.map_append, List.filter_cons, if_pos hb]
        rfl
    · refine ⟨s1.trans s3, ?_⟩
      rw [htk, List.filter_append, List.map_append, List.filter_cons, if_neg (by rw [hb]; exact Bool.false_ne_true)]
      simp only [List.filter_nil, List.map_nil, List.append_nil]
      exact s3 _ _ hd
  · rintro H1 ⟨s1, hd⟩
    rw [List.take_length] at hd
    exact q D H1 hD s1 hd
theorem filter_yes {α : Type} (l : List α) : l.filter (fun _ => true) = l := List.filter_eq_self.mpr fun _ _ => rfl
/-- over a list -/
theorem lcL {α : Type} (ls : List α) (e : α → V) {p : Addr} (hs : SqL K H p (ls.map e)) {j : Nat} (yes : α → Bool) (f : α → V) (hn : ls.length ≤ 50000)
    (hw : ∀ x, wipe ((wipe σ vs).set j (some x)) vs = wipe σ vs)
    (ht : ∀ y ∈ ls, PT0 tt ((wipe σ vs).set j (some (e y))) H (yes y)) (he : ∀ y ∈ ls, yes y = true → PE0 te ((wipe σ vs).set j (some (e y))) H (f y))
    (q : ∀ D H', H D = none → Same H H' → H' D = some (.lst ((ls.filter yes).map f)) → Q (.ref D) H') : LcG (Itl K p) (gName j) tt te vs σ Q H := by
  have w := walk_list (K := K) (a := p) (xs := ls.map e)
  rw [List.length_map] at w
  refine lc_map ls e w (fun H' s => s.seq hs) (fun i H x H' hi y => ⟨y.1, ?_⟩) hn hw yes f ht he q
  have h2 := y.2
  rw [List.getElem?_map] at h2
  cases h3 : ls[i]? with
  | none => rw [h3] at h2; cases h2
  | some z =>
    rw [h3] at h2
    exact ⟨z, rfl, (Option.some.inj h2).symm⟩
/-- over a range -/
theorem lcR {lo : Int} {n : Nat} {j : Nat} (yes : Nat → Bool) (f : Nat → V) (hn : n ≤ 50000)
    (hw : ∀ x, wipe ((wipe σ vs).set j (some x)) vs = wipe σ vs)
    (ht : ∀ y, y < n → PT0 tt ((wipe σ vs).set j (some (.int (lo + y)))) H (yes y)) (he : ∀ y, y < n → yes y = true → PE0 te ((wipe σ vs).set j (some (.int (lo + y)))) H (f y))
    (q : ∀ D H', H D = none → Same H H' → H' D = some (.lst (((List.range n).filter yes).map f)) → Q (.ref D) H') : LcG (Itr lo n) (gName j) tt te vs σ Q H := by
  have w := walk_range (lo := lo) (n := n)
  refine lc_map (List.range n) (fun y => .int (lo + y)) (by rw [List.length_range]; exact w) (fun _ _ => trivial) (fun i H x H' hi (yy : YFn _ i H x H') => ⟨yy.1, i, ?_, yy.2⟩) (by rw [List.length_range]; exact hn) hw yes f
    (fun y hy => ht y (List.mem_range.mp hy)) (fun y hy => he y (List.mem_range.mp hy)) q
  rw [List.length_range] at hi
  simp [hi]
/-- over a text -/
theorem lcS {l : List Nat} {j : Nat} (yes : Nat → Bool) (f : Nat → V) (hn : l.length ≤ 50000)
    (hw : ∀ x, wipe ((wipe σ vs).set j (some x)) vs = wipe σ vs)
    (ht : ∀ y ∈ l, PT0 tt ((wipe σ vs).set j (some (.str (S [y])))) H (yes y)) (he : ∀ y ∈ l, yes y = true → PE0 te ((wipe σ vs).set j (some (.str (S [y])))) H (f y))
    (q : ∀ D H', H D = none → Same H H' → H' D = some (.lst ((l.filter yes).map f)) → Q (.ref D) H') : LcG (Its (S l)) (gName j) tt te vs σ Q H := by
  have w := walk_str (z := S l)
  have hz : (S l).cps.size = l.length := by simp
  rw [hz] at w
  refine lc_map l (fun y => .str (S [y])) w (fun _ _ => trivial) (fun i H x H' hi y => ⟨y.1, ?_⟩) hn hw yes f ht he q
  obtain ⟨c, h1, h2⟩ := y.2
  exact ⟨c, by simpa using h1, h2⟩

/-- over a range, the element's call may change what stands: acc what is made so far -/
theorem lcR_inv {lo : Int} {n : Nat} {j : Nat} (Pv : Addr → Nat → List V → Hp → Prop) (hn : n ≤ 50000) (hw : ∀ x, wipe ((wipe σ vs).set j (some x)) vs = wipe σ vs)
    (h0 : ∀ D, H D = none → Pv D 0 [] (upd H D (.lst [])))
    (hs : ∀ (D : Addr) (i : Nat) (acc : List V) (H' : Hp) (Q : VK), i < n → H D = none → acc.length = i → Pv D i acc H' → H' D = some (.lst acc) →
      (∀ y H2, H2 D = some (.lst acc) → Pv D (i + 1) (acc ++ [y]) (upd H2 D (.lst (acc ++ [y]))) → Q y H2) → te ((wipe σ vs).set j (some (.int (lo + (i : Nat))))) H' Q)
    (q : ∀ (D : Addr) (acc : List V) (H' : Hp), H D = none → acc.length = n → Pv D n acc H' → H' D = some (.lst acc) → Q (.ref D) H') : LcG (Itr lo n) (gName j) tYes te vs σ Q H := by
  intro D hD
  refine lc_it (walk_range (lo := lo) (n := n)) (fun i H' => ∃ acc : List V, H' D = some (.lst acc) ∧ acc.length = i ∧ Pv D i acc H') ⟨[], upd_same, rfl, h0 D hD⟩ (fun _ _ _ _ => trivial) ?_ ?_
  · rintro i x H1 H1' hi ⟨acc, ha, hl, p⟩ ⟨rfl, rfl⟩
    refine ⟨hw _, ?_⟩
    unfold tYes
    dsimp only
    rw [if_pos rfl]
    refine hs D i acc _ _ hi hD hl p ha fun y H2 h2 p2 => ⟨acc, h2, szlt (by omega), acc ++ [y], upd_same, ?_, p2⟩
    rw [List.length_append, hl]
    rfl
  · rintro H1 ⟨acc, ha, hl, p⟩
    exact q D acc H1 hD hl p ha
theorem cutV_to {xs : List V} {i : Int} (h : 0 ≤ i) : cutV xs none (some i) = xs.take i.toNat := by
  obtain ⟨n, rfl⟩ := Int.eq_ofNat_of_zero_le h
  unfold cutV
  rw [HT.sIx_none, HT.sIx_nat, List.drop_zero, Nat.sub_zero, Int.toNat_natCast]
  rw [Nat.min_def]
  split
  · rfl
  · rw [List.take_of_length_le (Nat.le_refl _), List.take_of_length_le (by omega)]
/-! ### for -/
variable {nx : St → Hp → Prop} {rt : VK} {bk ct : St → Hp → Prop}
theorem for_map {α : Type} (ls : List α) (e : α → V) {J : It} {G : Hp → Prop} {Y : Nat → Hp → V → Hp → Prop} (w : Walk J ls.length G Y)
    (hY : ∀ i H x H', i < ls.length → Y i H x H' → H' = H ∧ ∃ y, ls[i]? = some y ∧ x = e y) {j : Nat} (Pv : Nat → St → Hp → Prop) (h0 : Pv 0 σ H) (hG : ∀ i σ H, i ≤ ls.length → Pv i σ H → G H)
    (hs : ∀ i y σ H, ls[i]? = some y → Pv i σ H → tb ⟨Pv (i + 1), rt, nx, Pv (i + 1)⟩ (σ.set j (some (e y))) H) (hd : ∀ σ H, Pv ls.length σ H → nx σ H) : ForG J (gName j) tb ⟨nx, rt, bk, ct⟩ σ H :=
  for_it w Pv h0 hG (fun i x σ H H' hi p yy => by
    obtain ⟨rfl, y, hy, rfl⟩ := hY i _ _ _ hi yy
    exact hs i y σ _ hy p) hd
theorem forL {α : Type} (ls : List α) (e : α → V) {p : Addr} {j : Nat} (Pv : Nat → St → Hp → Prop) (h0 : Pv 0 σ H) (hG : ∀ i σ H, i ≤ ls.length → Pv i σ H → SqL K H p (ls.map e))
    (hs : ∀ i y σ H, ls[i]? = some y → Pv i σ H → tb ⟨Pv (i + 1), rt, nx, Pv (i + 1)⟩ (σ.set j (some (e y))) H) (hd : ∀ σ H, Pv ls.length σ H → nx σ H) : ForG (Itl K p) (gName j) tb ⟨nx, rt, bk, ct⟩ σ H := by
  have w := walk_list (K := K) (a := p) (xs := ls.map e)
  rw [List.length_map] at w
  refine for_map ls e w (fun i H x H' hi y => ⟨y.1, ?_⟩) Pv h0 hG hs hd
  have h2 := y.2
  rw [List.getElem?_map] at h2
  cases h3 : ls[i]? with
  | none => rw [h3] at h2; cases h2
  | some z =>
    rw [h3] at h2
    exact ⟨z, rfl, (Option.some.inj h2).symm⟩
theorem forR {lo : Int} {n : Nat} {j : Nat} (Pv : Nat → St → Hp → Prop) (h0 : Pv 0 σ H)
    (hs : ∀ i σ H, i < n → Pv i σ H → tb ⟨Pv (i + 1), rt, nx, Pv (i + 1)⟩ (σ.set j (some (.int (lo + (i : Nat))))) H) (hd : ∀ σ H, Pv n σ H → nx σ H) : ForG (Itr lo n) (gName j) tb ⟨nx, rt, bk, ct⟩ σ H :=
  for_it (walk_range (lo := lo) (n := n)) Pv h0 (fun _ _ _ _ _ => trivial) (fun i x σ H H' hi p y => by
    obtain ⟨rfl, rfl⟩ := y
    exact hs i σ _ hi p) hd
theorem forRC {lo c : Int} {n : Nat} {j : Nat} (Pv : Nat → St → Hp → Prop) (h0 : Pv 0 σ H)
    (hs : ∀ i σ H, i < n → Pv i σ H → tb ⟨Pv (i + 1), rt, nx, Pv (i + 1)⟩ (σ.set j (some (.int (lo + (i : Nat) * c)))) H) (hd : ∀ σ H, Pv n σ H → nx σ H) : ForG (Itc lo c n) (gName j) tb ⟨nx, rt, bk, ct⟩ σ H :=
  for_it (walk_rangeC (lo := lo) (n := n)) Pv h0 (fun _ _ _ _ _ => trivial) (fun i x σ H H' hi p y => by
    obtain ⟨rfl, rfl⟩ := y
    exact hs i σ _ hi p) hd
theorem forS {l : List Nat} {j : Nat} (Pv : Nat → St → Hp → Prop) (h0 : Pv 0 σ H)
    (hs : ∀ i y σ H, l[i]? = some y → Pv i σ H → tb ⟨Pv (i + 1), rt, nx, Pv (i + 1)⟩ (σ.set j (some (.str (S [y])))) H) (hd : ∀ σ H, Pv l.length σ H → nx σ H) : ForG (Its (S l)) (gName j) tb ⟨nx, rt, bk, ct⟩ σ H := by
  have w := walk_str (z := S l)
  have hz : (S l).cps.size = l.length := by simp
  rw [hz] at w
  refine for_map l (fun y => .str (S [y])) w (fun i H x H' hi y => ⟨y.1, ?_⟩) Pv h0 (fun _ _ _ _ _ => trivial) hs hd
  obtain ⟨c, h1, h2⟩ := y.2
  exact ⟨c, by simpa using h1, h2⟩
/-- while, by a word with its measure -/
def WhB (W : Nat → St → Hp → Prop) (m : Nat) (tb : TS) (rt : VK) (nx : St → Hp → Prop) (σ : St) (H1 : Hp) : Prop :=
  ∃ N : St → Hp → Prop, (∀ σ' H', N σ' H' → ∃ m', m' < m ∧ W m' σ' H') ∧ tb ⟨N, rt, nx, N⟩ σ H1
theorem rd_while (W : Nat → St → Hp → Prop) (m0 : Nat) (h0 : W m0 σ H)
    (hs : ∀ m σ H, W m σ H → tt σ H fun b H1 => if b = true then WhB W m tb rt nx σ H1 else nx σ H1) : tWhile tt tb ⟨nx, rt, bk, ct⟩ σ H :=
  ⟨W, ⟨m0, h0⟩, hs⟩
theorem rd_whb {W : Nat → St → Hp → Prop} {m : Nat} (h : tb ⟨fun σ' H' => ∃ m', m' < m ∧ W m' σ' H', rt, nx, fun σ' H' => ∃ m', m' < m ∧ W m' σ' H'⟩ σ H) : WhB W m tb rt nx σ H :=
  ⟨_, fun _ _ h => h, h⟩
end
end My
/-! isinstance, deep equality of plain data, sorted. -/
namespace My
open PySem PySem.Spec L2 SX
open PyProof.Rows hiding St
section
variable {H : Hp} {Q : VK} {K : PySem.W.Frag} {x y : V}
theorem rd_isi {a b : String} {r : Bool} (ty : TyX K H x (.type a)) (h : kitB a b = some r) (q : Q (.bl r) H) : rIsi K [x, .ty b] H Q := ⟨x, .ty b, .type a, .type b, r, rfl, .ty b, ty, kit_ty h, q⟩
theorem ty_str {z : Str} : TyX K H (.str z) (.type "str") := .base (.str z)
theorem ty_int {i : Int} : TyX K H (.int i) (.type "int") := .base (.int i)
theorem ty_bl {b : Bool} : TyX K H (.bl b) (.type "bool") := .base (.bl b)
theorem ty_lst {a : Addr} {xs : List V} (h : H a = some (.lst xs)) : TyX K H (.ref a) (.type "list") := .base (.lst h)
theorem ty_tup {a : Addr} {xs : List V} (h : H a = some (.tup xs)) : TyX K H (.ref a) (.type "tuple") := .base (.tup h)
theorem ty_non : TyX K H .non (.type "NoneType") := .base .non

theorem kb_str_str : kitB "str" "str" = some true := by decide +kernel
theorem kb_str_int : kitB "str" "int" = some false := by decide +kernel
theorem kb_str_bool : kitB "str" "bool" = some false := by decide +kernel
theorem kb_str_list : kitB "str" "list" = some false := by decide +kernel
theorem kb_str_tuple : kitB "str" "tuple" = some false := by decide +kernel
theorem kb_int_str : kitB "int" "str" = some false := by decide +kernel
theorem kb_int_int : kitB "int" "int" = some true := by decide +kernel
theorem kb_int_bool : kitB "int" "bool" = some false := by decide +kernel
theorem kb_int_list : kitB "int" "list" = some false := by decide +kernel
theorem kb_int_tuple : kitB "int" "tuple" = some false := by decide +kernel
theorem kb_bool_str : kitB "bool" "str" = some false := by decide +kernel
theorem kb_bool_int : kitB "bool" "int" = some true := by decide +kernel
theorem kb_bool_bool : kitB "bool" "bool" = some true := by decide +kernel
theorem kb_bool_list : kitB "bool" "list" = some false := by decide +kernel
theorem kb_bool_tuple : kitB "bool" "tuple" = some false := by decide +kernel
theorem kb_list_str : kitB "list" "str" = some false := by decide +kernel
theorem kb_list_int : kitB "list" "int" = some false := by decide +kernel
theorem kb_list_bool : kitB "list" "bool" = some false := by decide +kernel
theorem kb_list_list : kitB "list" "list" = some true := by decide +kernel
theorem kb_list_tuple : kitB "list" "tuple" = some false := by decide +kernel
theorem kb_tuple_str : kitB "tuple" "str" = some false := by decide +kernel
theorem kb_tuple_int : kitB "tuple" "int" = some false := by decide +kernel
theorem kb_tuple_bool : kitB "tuple" "bool" = some false := by decide +kernel
theorem kb_tuple_list : kitB "tuple" "list" = some false := by decide +kernel
theorem kb_tuple_tuple : kitB "tuple" "tuple" = some true := by decide +kernel
theorem kb_NoneType_str : kitB "NoneType" "str" = some false := by decide +kernel
theorem kb_NoneType_int : kitB "NoneType" "int" = some false := by decide +kernel
theorem kb_NoneType_bool : kitB "NoneType" "bool" = some false := by decide +kernel
theorem kb_NoneType_list : kitB "NoneType" "list" = some false := by decide +kernel
theorem kb_NoneType_tuple : kitB "NoneType" "tuple" = some false := by decide +kernel
/-! ### data -/
def dI (ns : List Int) : PyData := .list (ns.map PyData.int)
def dS (ws : List (List Nat)) : PyData := .list (ws.map fun w => PyData.str (S w))
def dSI (w : List Nat) (k : Int) : PyData := .tuple [.str (S w), .int k]
theorem canI : ∀ ns : List Int, PyData.canLayAll0 (ns.map PyData.int) = true
  | [] => rfl
  | n :: ns => by
    show (PyData.canLay0 (.int n) && PyData.canLayAll0 (ns.map PyData.int)) = true
    rw [canI ns]; rfl
theorem depI : ∀ ns : List Int, PyData.depthAll (ns.map PyData.int) = 0
  | [] => rfl
  | n :: ns => by
    show max (PyData.depth (.int n)) (PyData.depthAll (ns.map PyData.int)) = 0
    rw [depI ns]; rfl
theorem shI (ns : List Int) : SeqAt.shaped (dI ns) = true := by
  unfold SeqAt.shaped dI
  have h1 : PyData.canLay0 (.list (ns.map PyData.int)) = true := canI ns
  have h2 : PyData.depth (.list (ns.map PyData.int)) = 1 := by show PyData.depthAll _ + 1 = 1; rw [depI]
  rw [h1, h2]; rfl
theorem eqAllI : ∀ ns ms : List Int, PyData.eqvAll (ns.map PyData.int) (ms.map PyData.int) = decide (ns = ms)
  | [], [] => rfl
  | [], _ :: _ => rfl
  | _ :: _, [] => rfl
  | n :: ns, m :: ms => by
    show (PyData.eqv (.int n) (.int m) && PyData.eqvAll (ns.map PyData.int) (ms.map PyData.int)) = _
    rw [eqAllI ns ms]
    have h : PyData.eqv (.int n) (.int m) = decide (n = m) := by simp only [PyData.eqv]; by_cases e : n = m <;> simp [e]
    rw [h]
    by_cases e : n = m <;> by_cases e2 : ns = ms <;> simp [e, e2]
theorem eqI (ns ms : List Int) : PyData.eqv (dI ns) (dI ms) = decide (ns = ms) := by
  show PyData.eqvAll _ _ = _
  exact eqAllI ns ms
theorem dpAllI : ∀ ns : List Int, DpAll K H (ns.map V.int) (ns.map PyData.int)
  | [] => .nil
  | n :: ns => .cons (.int n) (dpAllI ns)
theorem dpI {a : Addr} {ns : List Int} (h : SqL K H a (ns.map V.int)) : Dp K H (.ref a) (dI ns) := .lst h (dpAllI ns)
/-- its code points are code points -/
def OkW (w : List Nat) : Prop := ∀ c ∈ w, c < 1114112
theorem canStr {w : List Nat} (h : OkW w) : PyData.canLay0 (.str (S w)) = true := by
  show PyData.strOk (S w) = true
  unfold PyData.strOk
  rw [← Array.all_toList]
  exact List.all_eq_true.mpr fun c hc => decide_eq_true (h c (by simpa using hc))
theorem canS : ∀ ws : List (List Nat), (∀ w ∈ ws, OkW w) → PyData.canLayAll0 (ws.map fun w => PyData.str (S w)) = true
  | [], _ => rfl
  | w :: ws, h => by
    show (PyData.canLay0 (.str (S w)) && PyData.canLayAll0 (ws.map fun w => PyData.str (S w))) = true
    rw [canS ws fun v hv => h v (List.mem_cons_of_mem _ hv), canStr (h w List.mem_cons_self)]; rfl
theorem depS : ∀ ws : List (List Nat), PyData.depthAll (ws.map fun w => PyData.str (S w)) = 0
  | [] => rfl
  | w :: ws => by
    show max (PyData.depth (.str (S w))) (PyData.depthAll (ws.map fun w => PyData.str (S w))) = 0
    rw [depS ws]; rfl
theorem shS (ws : List (List Nat)) (h : ∀ w ∈ ws, OkW w) : SeqAt.shaped (dS ws) = true := by
  unfold SeqAt.shaped dS
  have h1 : PyData.canLay0 (.list (ws.map fun w => PyData.str (S w))) = true := canS ws h
  have h2 : PyData.depth (.list (ws.map fun w => PyData.str (S w))) = 1 := by show PyData.depthAll _ + 1 = 1; rw [depS]
  rw [h1, h2]; rfl
theorem eqStr (v w : List Nat) : PyData.eqv (.str (S v)) (.str (S w)) = decide (v = w) := by
  simp only [PyData.eqv]
  exact S_beq_eq
theorem eqAllS : ∀ vs ws : List (List Nat), PyData.eqvAll (vs.map fun w => PyData.str (S w)) (ws.map fun w => PyData.str (S w)) = decide (vs = ws)
  | [], [] => rfl
  | [], _ :: _ => rfl
  | _ :: _, [] => rfl
  | v :: vs, w :: ws => by
    show (PyData.eqv (.str (S v)) (.str (S w)) && PyData.eqvAll (vs.map fun w => PyData.str (S w)) (ws.map fun w => PyData.str (S w))) = _
    rw [eqAllS vs ws, eqStr]
    by_cases e : v = w <;> by_cases e2 : vs = ws <;> simp [e, e2]
theorem eqS (vs ws : List (List Nat)) : PyData.eqv (dS vs) (dS ws) = decide (vs = ws) := eqAllS vs ws
theorem dpAllS : ∀ ws : List (List Nat), DpAll K H (ws.map fun w => V.str (S w)) (ws.map fun w => PyData.str (S w))
  | [] => .nil
  | w :: ws => .cons (.str (S w)) (dpAllS ws)
theorem dpS {a : Addr} {ws : List (List Nat)} (h : SqL K H a (ws.map fun w => V.str (S w))) : Dp K H (.ref a) (dS ws) := .lst h (dpAllS ws)
theorem dpSI {a : Addr} {w : List Nat} {k : Int} (h : SqT K H a [.str (S w), .int k]) : Dp K H (.ref a) (dSI w k) := .tup h (.cons (.str _) (.cons (.int _) .nil))
theorem shSI {w : List Nat} {k : Int} (h : OkW w) : SeqAt.shaped (dSI w k) = true := by
  unfold SeqAt.shaped dSI
  have h1 : PyData.canLay0 (.tuple [.str (S w), .int k]) = true := by
    show (PyData.canLay0 (.str (S w)) && (PyData.canLay0 (.int k) && true)) = true
    rw [canStr h]; rfl
  rw [h1]; rfl
theorem eqSI (v w : List Nat) (j k : Int) : PyData.eqv (dSI v j) (dSI w k) = decide (v = w ∧ j = k) := by
  show (PyData.eqv (.str (S v)) (.str (S w)) && (PyData.eqv (.int j) (.int k) && true)) = _
  have h : PyData.eqv (.int j) (.int k) = decide (j = k) := by simp only [PyData.eqv]; by_cases e : j = k <;> simp [e]
  rw [eqStr, h]
  by_cases e : v = w <;> by_cases e2 : j = k <;> simp [e, e2]
theorem rd_eqD {d e : PyData} (hd : Dp K H x d) (he : Dp K H y e) (sd : SeqAt.shaped d = true) (se : SeqAt.shaped e = true) (q : Q (.bl (PyData.eqv d e)) H) : rEqD K x y H Q := ⟨d, e, hd, he, sd, se, q⟩
theorem rd_neD {d e : PyData} (hd : Dp K H x d) (he : Dp K H y e) (sd : SeqAt.shaped d = true) (se : SeqAt.shaped e = true) (q : Q (.bl (!PyData.eqv d e)) H) : rNeD K x y H Q := ⟨d, e, hd, he, sd, se, q⟩
theorem rd_eqLI {p r : Addr} {ns ms : List Int} (h1 : SqL K H p (ns.map V.int)) (h2 : SqL K H r (ms.map V.int)) (q : Q (.bl (decide (ns = ms))) H) : rEqD K (.ref p) (.ref r) H Q := rd_eqD (dpI h1) (dpI h2) (shI _) (shI _) (by rw [eqI]; exact q)
theorem rd_neLI {p r : Addr} {ns ms : List Int} (h1 : SqL K H p (ns.map V.int)) (h2 : SqL K H r (ms.map V.int)) (q : Q (.bl (!decide (ns = ms))) H) : rNeD K (.ref p) (.ref r) H Q := rd_neD (dpI h1) (dpI h2) (shI _) (shI _) (by rw [eqI]; exact q)
theorem rd_eqLS {p r : Addr} {ns ms : List (List Nat)} (h1 : SqL K H p (ns.map fun w => V.str (S w))) (h2 : SqL K H r (ms.map fun w => V.str (S w))) (o1 : ∀ w ∈ ns, OkW w) (o2 : ∀ w ∈ ms, OkW w) (q : Q (.bl (decide (ns = ms))) H) : rEqD K (.ref p) (.ref r) H Q := rd_eqD (dpS h1) (dpS h2) (shS _ o1) (shS _ o2) (by rw [eqS]; exact q)
theorem rd_neLS {p r : Addr} {ns ms : List (List Nat)} (h1 : SqL K H p (ns.map fun w => V.str (S w))) (h2 : SqL K H r (ms.map fun w => V.str (S w))) (o1 : ∀ w ∈ ns, OkW w) (o2 : ∀ w ∈ ms, OkW w) (q : Q (.bl (!decide (ns = ms))) H) : rNeD K (.ref p) (.ref r) H Q := rd_neD (dpS h1) (dpS h2) (shS _ o1) (shS _ o2) (by rw [eqS]; exact q)
theorem rd_eqTSI {p r : Addr} {v w : List Nat} {j k : Int} (h1 : SqT K H p [.str (S v), .int j]) (h2 : SqT K H r [.str (S w), .int k]) (o1 : OkW v) (o2 : OkW w) (q : Q (.bl (decide (v = w ∧ j = k))) H) : rEqD K (.ref p) (.ref r) H Q := rd_eqD (dpSI h1) (dpSI h2) (shSI o1) (shSI o2) (by rw [eqSI]; exact q)
theorem rd_neTSI {p r : Addr} {v w : List Nat} {j k : Int} (h1 : SqT K H p [.str (S v), .int j]) (h2 : SqT K H r [.str (S w), .int k]) (o1 : OkW v) (o2 : OkW w) (q : Q (.bl (!decide (v = w ∧ j = k))) H) : rNeD K (.ref p) (.ref r) H Q := rd_neD (dpSI h1) (dpSI h2) (shSI o1) (shSI o2) (by rw [eqSI]; exact q)
/-- two sorted lists of the same ints are one -/
theorem sorted_one : ∀ {as bs : List Int}, as.Perm bs → as.Pairwise (· ≤ ·) → bs.Pairwise (· ≤ ·) → as = bs
  | [], bs, p, _, _ => (List.nil_perm.mp p).symm
  | a :: as, [], p, _, _ => absurd (List.perm_nil.mp p) (by simp)
  | a :: as, b :: bs, p, h1, h2 => by
    rw [List.pairwise_cons] at h1 h2
    have hab : a = b := by
      have h3 : a ∈ b :: bs := p.subset List.mem_cons_self
      have h4 : b ∈ a :: as := p.symm.subset List.mem_cons_self
      rcases List.mem_cons.mp h3 with h3 | h3
      · exact h3
      · rcases List.mem_cons.mp h4 with h4 | h4
        · exact h4.symm
        · have := h1.1 b h4
          have := h2.1 a h3
          omega
    subst hab
    rw [sorted_one ((List.perm_cons a).mp p) h1.2 h2.2]
theorem rd_sortedI {p : Addr} {ns ms : List Int} (h : SqL K H p (ns.map V.int)) (pm : ms.Perm ns) (srt : ms.Pairwise (· ≤ ·)) (q : ∀ r, H r = none → Q (.ref r) (upd H r (.lst (ms.map V.int)))) : rSortedI K [.ref p] H Q :=
  ⟨p, ns, rfl, h, fun ns' r p2 s2 nr => by
    have e : ns' = ms := sorted_one (p2.trans pm.symm) s2 srt
    rw [e]
    exact q r nr⟩
/-- a new list from two -/
theorem rd_catL {l b : Addr} {xs zs : List V} (h1 : H l = some (.lst xs)) (h2 : H b = some (.lst zs)) (hl : xs.length + zs.length ≤ 100000) (q : ∀ p, H p = none → Q (.ref p) (upd H p (.lst (xs ++ zs)))) : rCat (.ref l) (.ref b) H Q :=
  ⟨l, b, xs, zs, rfl, rfl, h1, h2, sz hl, q⟩
theorem rd_revL {σ : St} {te : TE} (h : te σ H fun x H1 => ∃ a xs, x = .ref a ∧ SqL K H1 a xs ∧ ∀ p, H1 p = none → Q (.ref p) (upd H1 p (.lst xs.reverse))) : tRevL K te σ H Q := h
end
end My
/-! Borders and periods of a word, plain. -/
namespace Per
/-- b is a border's length of the first n signs -/
def Bd (s : Nat → Nat) (n b : Nat) : Prop := b < n ∧ ∀ i, i < b → s i = s (n - b + i)
instance (s : Nat → Nat) (n b : Nat) : Decidable (Bd s n b) := by unfold Bd; exact inferInstance
variable {s : Nat → Nat} {n b c : Nat}
theorem Bd.zero (h : 0 < n) : Bd s n 0 := ⟨h, fun i hi => absurd hi (Nat.not_lt_zero i)⟩
theorem Bd.trans (h : Bd s n b) (k : Bd s b c) : Bd s n c := by
  obtain ⟨h1, h2⟩ := h
  obtain ⟨k1, k2⟩ := k
  refine ⟨by omega, fun i hi => ?_⟩
  rw [k2 i hi, h2 (b - c + i) (by omega)]
  congr 1; omega
theorem Bd.sub (h : Bd s n b) (k : Bd s n c) (l : c < b) : Bd s b c := by
  obtain ⟨h1, h2⟩ := h
  obtain ⟨k1, k2⟩ := k
  refine ⟨l, fun i hi => ?_⟩
  rw [k2 i hi, h2 (b - c + i) (by omega)]
  congr 1; omega
theorem Bd.succ (h : Bd s n b) (e : s b = s n) : Bd s (n + 1) (b + 1) := by
  obtain ⟨h1, h2⟩ := h
  refine ⟨by omega, fun i hi => ?_⟩
  by_cases hb : i < b
  · rw [h2 i hb]; congr 1; omega
  · have : i = b := by omega
    subst this
    rw [e]; congr 1; omega
theorem Bd.pred (h : Bd s (n + 1) (b + 1)) : Bd s n b ∧ s b = s n := by
  obtain ⟨h1, h2⟩ := h
  refine ⟨⟨by omega, fun i hi => ?_⟩, ?_⟩
  · rw [h2 i (by omega)]; congr 1; omega
  · rw [h2 b (by omega)]; congr 1; omega
/-- the greatest border's length up to b -/
def lbs (s : Nat → Nat) (n : Nat) : Nat → Nat
  | 0 => 0
  | b + 1 => if Bd s n (b + 1) then b + 1 else lbs s n b
def lb (s : Nat → Nat) (n : Nat) : Nat := lbs s n (n - 1)
theorem lbs_bd (h : 0 < n) : ∀ b, Bd s n (lbs s n b)
  | 0 => Bd.zero h
  | b + 1 => by
    unfold lbs
    split
    · assumption
    · exact lbs_bd h b
theorem lbs_max : ∀ b c, c ≤ b → Bd s n c → c ≤ lbs s n b
  | 0, c, h, _ => by omega
  | b + 1, c, h, k => by
    unfold lbs
    split
    · exact h
    · rename_i g
      by_cases e : c = b + 1
      · subst e; exact absurd k g
      · exact lbs_max b c (by omega) k
theorem lb_bd (h : 0 < n) : Bd s n (lb s n) := lbs_bd h _
theorem lb_max (k : Bd s n c) : c ≤ lb s n := lbs_max _ _ (by have := k.1; omega) k
theorem lb_lt (h : 0 < n) : lb s n < n := (lb_bd h).1
theorem lb_one : lb s 1 = 0 := rfl
theorem lb_unique (h : 0 < n) (k : Bd s n b) (m : ∀ c, Bd s n c → c ≤ b) : lb s n = b := Nat.le_antisymm (m _ (lb_bd h)) (lb_max k)
theorem lb_next (h : 0 < n) (k : Bd s n b) (m : ∀ c, Bd s n c → b < c → s c ≠ s n) (e : b = 0 ∨ s b = s n) : lb s (n + 1) = b + if s b = s n then 1 else 0 := by
  by_cases q : s b = s n
  · rw [if_pos q]
    refine lb_unique (by omega) (k.succ q) fun c hc => ?_
    cases c with
    | zero => omega
    | succ c =>
      obtain ⟨h1, h2⟩ := hc.pred
      by_cases g : b < c
      · exact absurd h2 (m c h1 g)
      · omega
  · rw [if_neg q]
    have hb : b = 0 := by rcases e with e | e; exact e; exact absurd e q
    subst hb
    refine lb_unique (by omega) (Bd.zero (by omega)) fun c hc => ?_
    cases c with
    | zero => omega
    | succ c =>
      obtain ⟨h1, h2⟩ := hc.pred
      by_cases g : 0 < c
      · exact absurd h2 (m c h1 g)
      · have : c = 0 := by omega
        subst this
        exact absurd h2 q
/-- all border's lengths, ascending -/
def bl (s : Nat → Nat) (n : Nat) : List Nat := (List.range n).filter fun b => decide (Bd s n b)
theorem range_filter_none (n : Nat) (p : Nat → Bool) (h : ∀ b, b < n → p b = false) : (List.range n).filter p = [] := by
  rw [List.filter_eq_nil_iff]
  intro b hb
  rw [h b (List.mem_range.mp hb)]
  exact Bool.false_ne_true
theorem filter_split (a : Nat) (p q : Nat → Bool) : ∀ n, a < n → (∀ b, b < n → p b = (decide (b = a) || q b)) → (∀ b, q b = true → a < b) → (List.range n).filter p = a :: (List.range n).filter q
  | 0, h, _, _ => by omega
  | n + 1, h, h1, h2 => by
    rw [List.range_succ, List.filter_append, List.filter_append]
    by_cases e : a < n
    · rw [filter_split a p q n e (fun b hb => h1 b (by omega)) h2]
      have e2 : p n = q n := by rw [h1 n (by omega)]; simp; omega
      simp [List.filter_cons, e2]
    · have e : a = n := by omega
      subst e
      have e1 : p a = true := by rw [h1 a (by omega)]; simp
      have e2 : q a = false := by
        cases g : q a with
        | false => rfl
        | true => exact absurd (h2 a g) (Nat.lt_irrefl a)
      rw [range_filter_none a p fun b hb => by
        rw [h1 b (by omega)]
        cases g : q b with
        | true => have := h2 b g; omega
        | false => simp; omega]
      rw [range_filter_none a q fun b hb => by
        cases g : q b with
        | true => have := h2 b g; omega
        | false => rfl]
      simp [List.filter_cons, e1, e2]
/-- the borders above h -/
def above (s : Nat → Nat) (n h : Nat) : List Nat := (List.range n).filter fun b => decide (Bd s n b) && decide (h < b)
theorem above_next {h : Nat} (k : Bd s n h) (p : 0 < h) : above s n (lb s h) = h :: above s n h := by
  have hl : lb s h < h := lb_lt p
  refine filter_split h _ _ n k.1 (fun b hb => ?_) fun b hb => ?_
  · by_cases e : b = h
    · subst e; simp [k, hl]
    · by_cases g : Bd s n b
      · simp only [g, decide_true, Bool.true_and, e, decide_false, Bool.false_or]
        by_cases q : h < b
        · simp [q]; omega
        · have : b < h := by omega
          have := lb_max (k.sub g this)
          simp [q]; omega
      · simp [g, e]
  · simp only [Bool.and_eq_true, decide_eq_true_eq] at hb
    exact hb.2
theorem above_zero (h : 0 < n) : bl s n = 0 :: above s n 0 := by
  refine filter_split 0 _ _ n h (fun b hb => ?_) fun b hb => ?_
  · by_cases e : b = 0
    · subst e; simp [Bd.zero h]
    · by_cases g : Bd s n b
      · simp [g]; omega
      · simp [g, e]
  · simp only [Bool.and_eq_true, decide_eq_true_eq] at hb
    exact hb.2
theorem above_lb (h : 0 < n) : above s n (lb s n) = [] := by
  refine range_filter_none n _ fun b hb => ?_
  by_cases g : Bd s n b
  · have := lb_max g
    simp [g]; omega
  · simp [g]
/-- periods, ascending -/
def pl (s : Nat → Nat) (n : Nat) : List Nat := ((bl s n).map fun b => n - b).reverse
theorem mem_bl {b : Nat} : b ∈ bl s n ↔ Bd s n b := by
  unfold bl
  rw [List.mem_filter, List.mem_range, decide_eq_true_eq]
  exact ⟨fun h => h.2, fun h => ⟨h.1, h⟩⟩
theorem bl_sorted : (bl s n).Pairwise (· < ·) := List.Pairwise.filter _ List.pairwise_lt_range
theorem pl_sorted : (pl s n).Pairwise (· < ·) := by
  unfold pl
  rw [List.pairwise_reverse, List.pairwise_map]
  refine List.Pairwise.imp_of_mem (fun {a b} ha hb h => ?_) bl_sorted
  have := (mem_bl.mp hb).1
  omega
theorem pl_head (h : 0 < n) : (pl s n).head? = some (n - lb s n) := by
  unfold pl
  rw [List.head?_reverse, List.getLast?_map]
  have e : (bl s n).getLast? = some (lb s n) := by
    have m : lb s n ∈ bl s n := mem_bl.mpr (lb_bd h)
    obtain ⟨l1, l2, e⟩ := List.append_of_mem m
    have srt := bl_sorted (s := s) (n := n)
    rw [e] at srt
    cases l2 with
    | nil => rw [e]; simp
    | cons y l2 =>
      have hy : y ∈ bl s n := by rw [e]; simp
      have h1 := lb_max (mem_bl.mp hy)
      have h2 := (List.pairwise_append.mp srt).2.1
      rw [List.pairwise_cons] at h2
      have := h2.1 y (by simp)
      omega
  rw [e]
  rfl
end Per
/-! Words and their order, least words (smaller than their own ends), their cuts. Plain. -/
namespace Lyn
variable {s : Nat → Nat} {a b c d e f n p k : Nat}
/-- the sign at a place -/
def sg (l : List Nat) (i : Nat) : Nat := l.getD i 0
theorem sg_cons0 {x : Nat} {l : List Nat} : sg (x :: l) 0 = x := rfl
theorem sg_cons {x i : Nat} {l : List Nat} : sg (x :: l) (i + 1) = sg l i := rfl
/-- the order of lists by places -/
theorem lt_iff : ∀ u v : List Nat, u < v ↔ ((u.length < v.length ∧ ∀ j, j < u.length → sg u j = sg v j) ∨ ∃ i, i < u.length ∧ i < v.length ∧ (∀ j, j < i → sg u j = sg v j) ∧ sg u i < sg v i) := by
  intro u
  induction u with
  | nil =>
    intro v
    cases v with
    | nil => simp
    | cons y v => simp
  | cons x u ih =>
    intro v
    cases v with
    | nil => simp
    | cons y v =>
      rw [List.cons_lt_cons_iff, ih v]
      constructor
      · rintro (h | ⟨rfl, ⟨h1, h2⟩ | ⟨i, h1, h2, h3, h4⟩⟩)
        · exact .inr ⟨0, by simp, by simp, fun j hj => absurd hj (Nat.not_lt_zero j), h⟩
        · refine .inl ⟨by simpa using h1, fun j hj => ?_⟩
          cases j with
          | zero => rfl
          | succ j => exact h2 j (by simpa using hj)
        · refine .inr ⟨i + 1, by simpa using h1, by simpa using h2, fun j hj => ?_, h4⟩
          cases j with
          | zero => rfl
          | succ j => exact h3 j (by omega)
      · rintro (⟨h1, h2⟩ | ⟨i, h1, h2, h3, h4⟩)
        · have e : x = y := h2 0 (by simp)
          exact .inr ⟨e, .inl ⟨by simpa using h1, fun j hj => h2 (j + 1) (by simpa using hj)⟩⟩
        · cases i with
          | zero => exact .inl h4
          | succ i =>
            have e : x = y := h3 0 (by omega)
            exact .inr ⟨e, .inr ⟨i, by simpa using h1, by simpa using h2, fun j hj => h3 (j + 1) (by omega), h4⟩⟩
theorem sg_drop (l : List Nat) (a j : Nat) : sg (l.drop a) j = sg l (a + j) := by unfold sg; simp [List.getD_eq_getElem?_getD]
theorem sg_take (l : List Nat) {a j : Nat} (h : j < a) : sg (l.take a) j = sg l j := by unfold sg; simp [List.getD_eq_getElem?_getD, List.getElem?_take, h]
theorem sg_app1 (l m : List Nat) {j : Nat} (h : j < l.length) : sg (l ++ m) j = sg l j := by unfold sg; simp [List.getD_eq_getElem?_getD, List.getElem?_append_left h]
theorem sg_app2 (l m : List Nat) {j : Nat} (h : l.length ≤ j) : sg (l ++ m) j = sg m (j - l.length) := by unfold sg; simp [List.getD_eq_getElem?_getD, List.getElem?_append_right h]
theorem ext_sg {l m : List Nat} (hl : l.length = m.length) (h : ∀ j, j < l.length → sg l j = sg m j) : l = m := by
  apply List.ext_getElem hl
  intro i h1 h2
  have := h i h1
  unfold sg at this
  simpa [List.getD_eq_getElem?_getD, h1, h2] using this
theorem le_total' (u v : List Nat) (h : ¬ u < v) : v ≤ u := by simpa using h
/-- the part from a to ahead of b -/
def fac (l : List Nat) (a b : Nat) : List Nat := (l.drop a).take (b - a)
theorem fac_len {l : List Nat} (h : b ≤ l.length) : (fac l a b).length = b - a := by unfold fac; simp; omega
theorem fac_sg {l : List Nat} {j : Nat} (h : a + j < b) : sg (fac l a b) j = sg l (a + j) := by
  unfold fac
  rw [sg_take _ (by omega), sg_drop]
/-- [a, b) is smaller than [c, d) -/
theorem fac_lt {l : List Nat} (hb : b ≤ l.length) (hd : d ≤ l.length) : fac l a b < fac l c d ↔ ((b - a < d - c ∧ ∀ j, j < b - a → sg l (a + j) = sg l (c + j)) ∨ ∃ i, a + i < b ∧ c + i < d ∧ (∀ j, j < i → sg l (a + j) = sg l (c + j)) ∧ sg l (a + i) < sg l (c + i)) := by
  rw [lt_iff, fac_len hb, fac_len hd]
  constructor
  · rintro (⟨h1, h2⟩ | ⟨i, h1, h2, h3, h4⟩)
    · refine .inl ⟨h1, fun j hj => ?_⟩
      have := h2 j hj
      rwa [fac_sg (by omega), fac_sg (by omega)] at this
    · refine .inr ⟨i, by omega, by omega, fun j hj => ?_, ?_⟩
      · have := h3 j hj
        rwa [fac_sg (by omega), fac_sg (by omega)] at this
      · rwa [fac_sg (by omega), fac_sg (by omega)] at h4
  · rintro (⟨h1, h2⟩ | ⟨i, h1, h2, h3, h4⟩)
    · refine .inl ⟨h1, fun j hj => ?_⟩
      rw [fac_sg (by omega), fac_sg (by omega)]
      exact h2 j hj
    · refine .inr ⟨i, by omega, by omega, fun j hj => ?_, ?_⟩
      · rw [fac_sg (by omega), fac_sg (by omega)]
        exact h3 j hj
      · rw [fac_sg (by omega), fac_sg (by omega)]
        exact h4
/-- [b, e) is smaller than each of its own ends -/
def Ly (s : Nat → Nat) (b e : Nat) : Prop := b < e ∧ ∀ k, b < k → k < e → ∃ i, k + i < e ∧ (∀ j, j < i → s (b + j) = s (k + j)) ∧ s (b + i) < s (k + i)
theorem Ly.one : Ly s b (b + 1) := ⟨by omega, fun k h1 h2 => by omega⟩
/-- two least words, the first smaller: together a least word -/
theorem Ly.cat (h1 : Ly s b e) (h2 : Ly s e f) (lt : (e - b < f - e ∧ ∀ j, j < e - b → s (b + j) = s (e + j)) ∨ ∃ i, b + i < e ∧ e + i < f ∧ (∀ j, j < i → s (b + j) = s (e + j)) ∧ s (b + i) < s (e + i)) : Ly s b f := by
  have he := h1.1
  have hf := h2.1
  -- the whole is smaller than its part from e
  have key : ∃ i, e + i < f ∧ (∀ j, j < i → s (b + j) = s (e + j)) ∧ s (b + i) < s (e + i) := by
    rcases lt with ⟨l1, l2⟩ | ⟨i, i1, i2, i3, i4⟩
    · obtain ⟨i, i1, i2, i3⟩ := h2.2 (e + (e - b)) (by omega) (by omega)
      refine ⟨e - b + i, by omega, fun j hj => ?_, ?_⟩
      · by_cases g : j < e - b
        · exact l2 j g
        · have := i2 (j - (e - b)) (by omega)
          rw [show e + (j - (e - b)) = b + j by omega, show e + (e - b) + (j - (e - b)) = e + j by omega] at this
          exact this
      · rw [show b + (e - b + i) = e + i by omega, show e + (e - b + i) = e + (e - b) + i by omega]
        exact i3
    · exact ⟨i, i2, i3, i4⟩
  refine ⟨by omega, fun k k1 k2 => ?_⟩
  by_cases g : k < e
  · obtain ⟨i, i1, i2, i3⟩ := h1.2 k k1 g
    exact ⟨i, by omega, i2, i3⟩
  · by_cases g2 : k = e
    · subst g2; exact key
    · obtain ⟨i, i1, i2, i3⟩ := h2.2 k (by omega) k2
      obtain ⟨t, t1, t2, t3⟩ := key
      by_cases c1 : i < t
      · exact ⟨i, i1, fun j hj => (t2 j (by omega)).trans (i2 j hj), by rw [t2 i c1]; exact i3⟩
      · by_cases c2 : i = t
        · subst c2
          exact ⟨i, i1, fun j hj => (t2 j hj).trans (i2 j hj), Nat.lt_trans t3 i3⟩
        · exact ⟨t, by omega, fun j hj => (t2 j hj).trans (i2 j (by omega)), by rw [← i2 t (by omega)]; exact t3⟩
/-- the period p holds from b to n -/
def Pd (s : Nat → Nat) (b p n : Nat) : Prop := ∀ i, b + p ≤ i → i < n → s i = s (i - p)
theorem Pd.mul (h : Pd s b p n) : ∀ q i, b + q * p ≤ i → i < n → s i = s (i - q * p) := by
  intro q
  induction q with
  | zero => intro i _ _; simp
  | succ q ih =>
    intro i h1 h2
    have e : (q + 1) * p = q * p + p := Nat.succ_mul q p
    rw [e] at h1 ⊢
    rw [h i (by omega) h2, ih (i - p) (by omega) (by omega)]
    congr 1
    omega
/-- a greater sign behind the periods: a least word -/
theorem Ly.grow (h : Ly s b (b + p)) (q : Pd s b p n) (hn : b + p ≤ n) (g : s (n - p) < s n) : Ly s b (n + 1) := by
  have hp : 0 < p := by have := h.1; omega
  refine ⟨by omega, fun k k1 k2 => ?_⟩
  obtain ⟨t, r, hr, hk⟩ : ∃ t r, r < p ∧ k = b + t * p + r := ⟨(k - b) / p, (k - b) % p, Nat.mod_lt _ hp, by
    have := Nat.div_add_mod (k - b) p
    rw [Nat.mul_comm] at this
    omega⟩
  by_cases h0 : r = 0
  · subst h0
    have ht : 0 < t := by
      cases t with
      | zero => simp at hk; omega
      | succ t => omega
    refine ⟨n - k, by omega, fun j hj => ?_, ?_⟩
    · have := q.mul t (k + j) (by omega) (by omega)
      rw [this]; congr 1; omega
    · have e1 : k + (n - k) = n := by omega
      have e2 : s (b + (n - k)) = s (n - p) := by
        cases t with
        | zero => omega
        | succ t =>
          have e : (t + 1) * p = t * p + p := Nat.succ_mul t p
          have := q.mul t (n - p) (by omega) (by omega)
          rw [this]; congr 1; omega
      rw [e1, e2]; exact g
  · obtain ⟨i, i1, i2, i3⟩ := h.2 (b + r) (by omega) (by omega)
    have sh : ∀ j, k + j < n → s (k + j) = s (b + r + j) := fun j hj => by
      rw [q.mul t (k + j) (by omega) hj]; congr 1; omega
    by_cases c1 : k + i < n
    · exact ⟨i, by omega, fun j hj => (i2 j hj).trans (sh j (by omega)).symm, by rw [sh i c1]; exact i3⟩
    · have ht : 0 < t := by
        cases t with
        | zero => simp at hk; omega
        | succ t => omega
      refine ⟨n - k, by omega, fun j hj => (i2 j (by omega)).trans (sh j (by omega)).symm, ?_⟩
      have e1 : k + (n - k) = n := by omega
      have e2 : s (b + r + (n - k)) = s (n - p) := by
        cases t with
        | zero => omega
        | succ t =>
          have e : (t + 1) * p = t * p + p := Nat.succ_mul t p
          have := q.mul t (n - p) (by omega) (by omega)
          rw [this]; congr 1; omega
      have e3 : s (b + (n - k)) ≤ s (b + r + (n - k)) := by
        by_cases c2 : n - k < i
        · exact Nat.le_of_eq (i2 _ c2)
        · have : n - k = i := by omega
          rw [this]; exact Nat.le_of_lt i3
      rw [e1]
      omega
/-- [b, e) is the longest least word from b on, ahead of n -/
def Nx (s : Nat → Nat) (n b e : Nat) : Prop := Ly s b e ∧ e ≤ n ∧ ∀ f, e < f → f ≤ n → ¬ Ly s b f
theorem Nx.one_of (h : Nx s n b e) (k : Nx s n b f) : e = f := by
  by_cases c1 : e < f
  · exact absurd k.1 (h.2.2 f c1 k.2.1)
  · by_cases c2 : f < e
    · exact absurd h.1 (k.2.2 e c2 h.2.1)
    · omega
theorem Nx.ex (h : b < n) : ∃ e, Nx s n b e := by
  have key : ∀ m, m ≤ n - b → (∃ e, Nx s n b e) ∨ ∀ f, n - m < f → f ≤ n → ¬ Ly s b f := by
    intro m
    induction m with
    | zero => intro _; exact .inr fun f h1 h2 => by omega
    | succ m ih =>
      intro hm
      rcases ih (by omega) with h1 | h1
      · exact .inl h1
      · by_cases g : Ly s b (n - m)
        · exact .inl ⟨n - m, g, by omega, h1⟩
        · refine .inr fun f f1 f2 => ?_
          by_cases c : f = n - m
          · subst c; exact g
          · exact h1 f (by omega) f2
  rcases key (n - b) (Nat.le_refl _) with h1 | h1
  · exact h1
  · exact absurd Ly.one (h1 (b + 1) (by omega) (by omega))
/-- Duval's step: the periods behind the least word -/
theorem Nx.of_pd (h : Ly s b (b + p)) (q : Pd s b p c) (hc : b + p ≤ c) (hn : c ≤ n) (e : c = n ∨ s c < s (c - p)) (t : Nat) (ht : b + (t + 1) * p ≤ c) : Nx s n (b + t * p) (b + (t + 1) * p) := by
  have hp : 0 < p := by have := h.1; omega
  have em : (t + 1) * p = t * p + p := Nat.succ_mul t p
  have sh : ∀ i, b + t * p + i < c → s (b + t * p + i) = s (b + i) := fun i hi => by
    rw [q.mul t _ (by omega) hi]; congr 1; omega
  refine ⟨⟨by omega, fun k k1 k2 => ?_⟩, by omega, fun f f1 f2 hf => ?_⟩
  · obtain ⟨i, i1, i2, i3⟩ := h.2 (k - t * p) (by omega) (by omega)
    have sk : ∀ j, k + j < b + (t + 1) * p → s (k + j) = s (k - t * p + j) := fun j hj => by
      have := sh (k - b - t * p + j) (by omega)
      rw [show b + t * p + (k - b - t * p + j) = k + j by omega, show b + (k - b - t * p + j) = k - t * p + j by omega] at this
      exact this
    refine ⟨i, by omega, fun j hj => ?_, ?_⟩
    · rw [sh j (by omega), sk j (by omega)]; exact i2 j hj
    · rw [sh i (by omega), sk i (by omega)]; exact i3
  · obtain ⟨i, i1, i2, i3⟩ := hf.2 (b + (t + 1) * p) (by omega) f1
    have eq : ∀ j, b + (t + 1) * p + j < c → s (b + t * p + j) = s (b + (t + 1) * p + j) := fun j hj => by
      rw [q (b + (t + 1) * p + j) (by omega) hj]; congr 1; omega
    by_cases c1 : b + (t + 1) * p + i < c
    · rw [eq i c1] at i3; omega
    · rcases e with e | e
      · omega
      · have i0 : c - (b + (t + 1) * p) ≤ i := by omega
        have e1 : b + (t + 1) * p + (c - (b + (t + 1) * p)) = c := by omega
        have e2 : b + t * p + (c - (b + (t + 1) * p)) = c - p := by omega
        by_cases c2 : c - (b + (t + 1) * p) < i
        · have := i2 _ c2
          rw [e1, e2] at this; omega
        · have : i = c - (b + (t + 1) * p) := by omega
          rw [this, e1, e2] at i3; omega
/-- the longest least word is the one cut that goes on not rising -/
theorem Nx.keep {l : List Nat} (h : Nx (sg l) l.length b e) (h2 : Nx (sg l) l.length e f) : ¬ fac l b e < fac l e f := fun lt => by
  have := h.1.cat h2.1 ((fac_lt h.2.1 h2.2.1).mp lt)
  exact h.2.2 f h2.1.1 h2.2.1 this
theorem Nx.short {l : List Nat} {m : Nat} (h : Nx (sg l) l.length b m) (h1 : Ly (sg l) b e) (he : e < m) : ∀ (r f g : Nat), m - f ≤ r → e ≤ f → f < m → Nx (sg l) l.length f g → fac l b e < fac l f g := by
  have hm := h.2.1
  have hb := h1.1
  intro r
  induction r with
  | zero => intro f g h1 h2 h3; omega
  | succ r ih =>
    intro f g hr hf hfm hx
    have hg := hx.2.1
    have hfg := hx.1.1
    by_cases c : m ≤ g
    · obtain ⟨i, i1, i2, i3⟩ := h.1.2 f (by omega) hfm
      rw [fac_lt (by omega) hg]
      by_cases c2 : b + i < e
      · exact .inr ⟨i, c2, by omega, i2, i3⟩
      · exact .inl ⟨by omega, fun j hj => i2 j (by omega)⟩
    · obtain ⟨g2, hg2⟩ := Nx.ex (s := sg l) (n := l.length) (b := g) (by omega)
      have k1 := ih g g2 (by omega) (by omega) (by omega) hg2
      have k2 := hx.keep hg2
      by_cases z : fac l b e < fac l f g
      · exact z
      · have z1 : fac l f g ≤ fac l b e := le_total' _ _ z
        have z2 : fac l g g2 ≤ fac l f g := le_total' _ _ k2
        exact absurd k1 (by simpa using List.le_trans z2 z1)
/-! ### least words, told by lists -/
def lyB (l : List Nat) (b e : Nat) : Bool := decide (b < e) && (List.range (e - b - 1)).all fun i => decide (fac l b e < fac l (b + 1 + i) e)
theorem lyB_iff {l : List Nat} (he : e ≤ l.length) : lyB l b e = true ↔ Ly (sg l) b e := by
  unfold lyB Ly
  rw [Bool.and_eq_true, decide_eq_true_eq, List.all_eq_true]
  constructor
  · rintro ⟨h1, h2⟩
    refine ⟨h1, fun k k1 k2 => ?_⟩
    have := of_decide_eq_true (h2 (k - b - 1) (List.mem_range.mpr (by omega)))
    rw [show b + 1 + (k - b - 1) = k by omega, fac_lt he he] at this
    rcases this with ⟨z, _⟩ | ⟨i, i1, i2, i3, i4⟩
    · omega
    · exact ⟨i, i2, i3, i4⟩
  · rintro ⟨h1, h2⟩
    refine ⟨h1, fun i hi => decide_eq_true ?_⟩
    have hi2 := List.mem_range.mp hi
    obtain ⟨t, t1, t2, t3⟩ := h2 (b + 1 + i) (by omega) (by omega)
    rw [fac_lt he he]
    exact .inr ⟨t, by omega, t1, t2, t3⟩
def nxB (l : List Nat) (b e : Nat) : Bool := lyB l b e && decide (e ≤ l.length) && (List.range (l.length - e)).all fun i => !lyB l b (e + 1 + i)
theorem nxB_iff {l : List Nat} : nxB l b e = true → Nx (sg l) l.length b e := by
  unfold nxB Nx
  rw [Bool.and_eq_true, Bool.and_eq_true, decide_eq_true_eq, List.all_eq_true]
  rintro ⟨⟨h1, h2⟩, h3⟩
  refine ⟨(lyB_iff h2).mp h1, h2, fun f f1 f2 h => ?_⟩
  have := h3 (f - e - 1) (List.mem_range.mpr (by omega))
  rw [show e + 1 + (f - e - 1) = f by omega, (lyB_iff f2).mpr h] at this
  cases this
/-- the cuts from b on -/
inductive Cut (l : List Nat) : Nat → List (List Nat) → Prop where
  | nil : Cut l l.length []
  | cons {b e : Nat} {fs : List (List Nat)} : Nx (sg l) l.length b e → Cut l e fs → Cut l b (fac l b e :: fs)
theorem Cut.le {l : List Nat} {fs : List (List Nat)} (h : Cut l b fs) : b ≤ l.length := by
  cases h with
  | nil => exact Nat.le_refl _
  | cons h _ => have := h.1.1; have := h.2.1; omega
theorem Cut.one {l : List Nat} {fs gs : List (List Nat)} (h : Cut l b fs) (k : Cut l b gs) : fs = gs := by
  induction h generalizing gs with
  | nil =>
    cases k with
    | nil => rfl
    | cons h _ => have := h.1.1; have := h.2.1; omega
  | cons h _ ih =>
    cases k with
    | nil => have := h.1.1; have := h.2.1; omega
    | cons h2 k =>
      have e := h.one_of h2
      subst e
      rw [ih k]
theorem Ly.shift : Ly (fun j => s (a + j)) b e ↔ Ly s (a + b) (a + e) := by
  constructor
  · rintro ⟨h1, h2⟩
    refine ⟨by omega, fun k k1 k2 => ?_⟩
    obtain ⟨i, i1, i2, i3⟩ := h2 (k - a) (by omega) (by omega)
    have e : ∀ j, a + (k - a + j) = k + j := fun j => by omega
    refine ⟨i, by omega, fun j hj => ?_, ?_⟩
    · have := i2 j hj
      dsimp only at this
      rw [e, ← Nat.add_assoc] at this
      exact this
    · dsimp only at i3
      rw [e, ← Nat.add_assoc] at i3
      exact i3
  · rintro ⟨h1, h2⟩
    refine ⟨by omega, fun k k1 k2 => ?_⟩
    obtain ⟨i, i1, i2, i3⟩ := h2 (a + k) (by omega) (by omega)
    refine ⟨i, by omega, fun j hj => ?_, ?_⟩
    · have := i2 j hj
      rw [Nat.add_assoc, Nat.add_assoc] at this
      exact this
    · rw [Nat.add_assoc, Nat.add_assoc] at i3
      exact i3
theorem Nx.shift {l : List Nat} (ha : a ≤ l.length) : Nx (sg (l.drop a)) (l.drop a).length b e ↔ Nx (sg l) l.length (a + b) (a + e) := by
  have es : sg (l.drop a) = fun j => sg l (a + j) := funext fun j => sg_drop l a j
  rw [es, List.length_drop]
  unfold Nx
  constructor
  · rintro ⟨h1, h2, h3⟩
    refine ⟨Ly.shift.mp h1, by omega, fun f f1 f2 h => ?_⟩
    refine h3 (f - a) (by omega) (by omega) (Ly.shift.mpr ?_)
    rw [show a + (f - a) = f by omega]
    exact h
  · rintro ⟨h1, h2, h3⟩
    exact ⟨Ly.shift.mpr h1, by omega, fun f f1 f2 h => h3 (a + f) (by omega) (by omega) (Ly.shift.mp h)⟩
theorem fac_drop {l : List Nat} : fac (l.drop a) b e = fac l (a + b) (a + e) := by
  unfold fac
  rw [List.drop_drop, show a + e - (a + b) = e - b by omega]
theorem Cut.shift {l : List Nat} {fs : List (List Nat)} (ha : a ≤ l.length) (h : Cut (l.drop a) b fs) : Cut l (a + b) fs := by
  generalize hm : l.drop a = m at h
  induction h with
  | nil =>
    subst hm
    rw [List.length_drop, show a + (l.length - a) = l.length by omega]
    exact .nil
  | cons h _ ih =>
    subst hm
    rw [fac_drop]
    exact .cons ((Nx.shift ha).mp h) ih
/-! ### periods and turns -/
/-- the length of a word's root -/
def rootN (l : List Nat) : Nat := if l.length % (l.length - Per.lb (sg l) l.length) = 0 then l.length - Per.lb (sg l) l.length else l.length
/-- two borders' periods that fit together: their difference is one -/
theorem bd_sub {x y : Nat} (h1 : Per.Bd s n (n - x)) (h2 : Per.Bd s n (n - y)) (hx : 0 < x) (lt : x < y) (hxy : x + y ≤ n) : Per.Bd s n (n - (y - x)) := by
  refine ⟨by omega, fun i hi => ?_⟩
  have p1 : ∀ i, i + x < n → s i = s (i + x) := fun i hi => by
    have := h1.2 i (by omega)
    rw [this]; congr 1; omega
  have p2 : ∀ i, i + y < n → s i = s (i + y) := fun i hi => by
    have := h2.2 i (by omega)
    rw [this]; congr 1; omega
  rw [show n - (n - (y - x)) + i = i + (y - x) by omega]
  by_cases c : i + y < n
  · have a1 := p2 i c
    have a2 := p1 (i + (y - x)) (by omega)
    rw [show i + (y - x) + x = i + y by omega] at a2
    rw [a1, a2]
  · have a1 := p1 (i - x) (by omega)
    have a2 := p2 (i - x) (by omega)
    rw [show i - x + x = i by omega] at a1
    rw [show i - x + y = i + (y - x) by omega] at a2
    rw [← a1, a2]
/-- the least period goes into every period that leaves it room -/
theorem per_dvd {P : Nat} (hP : P = n - Per.lb s n) (h0 : 0 < n) : ∀ (y : Nat), 0 < y → P + y ≤ n → Per.Bd s n (n - y) → P ∣ y := by
  have hlt := Per.lb_lt (s := s) h0
  have hb : Per.Bd s n (n - P) := by
    have := Per.lb_bd (s := s) h0
    rw [show n - P = Per.lb s n by omega]
    exact this
  intro y
  induction y using Nat.strongRecOn with
  | _ y ih =>
    intro y0 hy h
    have := Per.lb_max h
    by_cases c : y = P
    · rw [c]; exact Nat.dvd_refl _
    · have h2 := bd_sub hb h (by omega) (by omega) (by omega)
      have := ih (y - P) (by omega) (by omega) (by omega) h2
      have e : y = (y - P) + P := by omega
      rw [e]
      exact Nat.dvd_add this (Nat.dvd_refl _)
/-- a least word is smaller than its turns, and no power -/
theorem ly_iff {l : List Nat} (h0 : 0 < l.length) : Ly (sg l) 0 l.length ↔ ((∀ i, 0 < i → i < l.length → ¬ (l.drop i ++ l.take i) < l) ∧ rootN l = l.length) := by
  have rl : ∀ i, i < l.length → (l.drop i ++ l.take i).length = l.length := fun i hi => by simp; omega
  have r1 : ∀ i j, i + j < l.length → sg (l.drop i ++ l.take i) j = sg l (i + j) := fun i j hj => by
    rw [sg_app1 _ _ (by simp; omega), sg_drop]
  have r2 : ∀ i j, i < l.length → j < i → sg (l.drop i ++ l.take i) (l.length - i + j) = sg l j := fun i j hi hj => by
    rw [sg_app2 _ _ (by simp), List.length_drop, show l.length - i + j - (l.length - i) = j by omega, sg_take _ hj]
  have hlt := Per.lb_lt (s := sg l) h0
  constructor
  · intro h
    refine ⟨fun i i0 i1 lt => ?_, ?_⟩
    · obtain ⟨t, t1, t2, t3⟩ := h.2 i i0 i1
      rw [lt_iff, rl i i1] at lt
      rcases lt with ⟨z, _⟩ | ⟨u, u1, _, u3, u4⟩
      · omega
      · by_cases c : u < t
        · have := t2 u c
          rw [r1 i u (by omega)] at u4
          rw [Nat.zero_add] at this
          omega
        · by_cases c2 : u = t
          · subst c2
            rw [r1 i u (by omega)] at u4
            rw [Nat.zero_add] at t3
            omega
          · have := u3 t (by omega)
            rw [r1 i t (by omega)] at this
            rw [Nat.zero_add] at t3
            omega
    · unfold rootN
      split
      · rename_i hz
        by_cases c : Per.lb (sg l) l.length = 0
        · omega
        · obtain ⟨i, i1, i2, i3⟩ := h.2 (l.length - Per.lb (sg l) l.length) (by omega) (by omega)
          have := (Per.lb_bd (s := sg l) h0).2 i (by omega)
          rw [Nat.zero_add] at i3
          omega
      · rfl
  · rintro ⟨h1, h2⟩
    refine ⟨h0, fun k k1 k2 => ?_⟩
    apply Classical.byContradiction
    intro hno
    -- no place where the word differs below its end from k on
    have eq : ∀ j, k + j < l.length → sg l j = sg l (k + j) := by
      intro j
      induction j using Nat.strongRecOn with
      | _ j ih =>
        intro hj
        have pre : ∀ t, t < j → sg l t = sg l (k + t) := fun t ht => ih t ht (by omega)
        apply Classical.byContradiction
        intro hne
        by_cases c : sg l j < sg l (k + j)
        · exact hno ⟨j, hj, fun t ht => by rw [Nat.zero_add]; exact pre t ht, by rw [Nat.zero_add]; exact c⟩
        · refine h1 k k1 k2 ?_
          rw [lt_iff, rl k k2]
          refine .inr ⟨j, by omega, by omega, fun t ht => ?_, ?_⟩
          · rw [r1 k t (by omega)]; exact (pre t ht).symm
          · rw [r1 k j hj]; omega
    have eq2 : ∀ j, j < k → sg l j = sg l (l.length - k + j) := by
      intro j
      induction j using Nat.strongRecOn with
      | _ j ih =>
        intro hj
        have pre : ∀ t, t < j → sg l t = sg l (l.length - k + t) := fun t ht => ih t ht (by omega)
        apply Classical.byContradiction
        intro hne
        by_cases c : sg l j < sg l (l.length - k + j)
        · -- the turn by k is smaller
          refine h1 k k1 k2 ?_
          rw [lt_iff, rl k k2]
          refine .inr ⟨l.length - k + j, by omega, by omega, fun t ht => ?_, ?_⟩
          · by_cases g : k + t < l.length
            · rw [r1 k t g]; exact (eq t g).symm
            · obtain ⟨u, rfl⟩ : ∃ u, t = l.length - k + u := ⟨t - (l.length - k), by omega⟩
              rw [r2 k u k2 (by omega)]
              exact pre u (by omega)
          · rw [r2 k j k2 hj]; exact c
        · refine h1 (l.length - k) (by omega) (by omega) ?_
          rw [lt_iff, rl _ (by omega)]
          refine .inr ⟨j, by omega, by omega, fun t ht => ?_, ?_⟩
          · rw [r1 _ t (by omega)]; exact (pre t ht).symm
          · rw [r1 _ j (by omega)]; omega
    have b1 : Per.Bd (sg l) l.length (l.length - k) := ⟨by omega, fun i hi => by
      rw [show l.length - (l.length - k) + i = k + i by omega]
      exact eq i (by omega)⟩
    have b2 : Per.Bd (sg l) l.length k := ⟨k2, eq2⟩
    have m1 := Per.lb_max b1
    have m2 := Per.lb_max b2
    have d1 := per_dvd (s := sg l) (n := l.length) rfl h0 k k1 (by omega) b1
    have d2 := per_dvd (s := sg l) (n := l.length) rfl h0 (l.length - k) (by omega) (by omega) (by rw [show l.length - (l.length - k) = k by omega]; exact b2)
    have d3 : (l.length - Per.lb (sg l) l.length) ∣ l.length := by
      have := Nat.dvd_add d1 d2
      rwa [show k + (l.length - k) = l.length by omega] at this
    unfold rootN at h2
    rw [if_pos (Nat.mod_eq_zero_of_dvd d3)] at h2
    omega
theorem fac_all {l : List Nat} : fac l b l.length = l.drop b := by
  unfold fac
  exact List.take_of_length_le (by simp)
theorem lyB_all (l : List Nat) : lyB l 0 l.length = (decide (l ≠ []) && (List.range (l.length - 1)).all fun i => decide (l < l.drop (1 + i))) := by
  unfold lyB
  rw [Nat.sub_zero]
  congr 1
  · cases l <;> simp
  · congr 1
    funext i
    rw [fac_all, fac_all, List.drop_zero, Nat.zero_add]
theorem Ly.take {l : List Nat} (he : e ≤ c) : Ly (sg (l.take c)) b e ↔ Ly (sg l) b e := by
  have key : ∀ j, j < e → sg (l.take c) j = sg l j := fun j hj => sg_take l (by omega)
  unfold Ly
  constructor
  · rintro ⟨h1, h2⟩
    refine ⟨h1, fun k k1 k2 => ?_⟩
    obtain ⟨i, i1, i2, i3⟩ := h2 k k1 k2
    exact ⟨i, i1, fun j hj => by rw [← key _ (by omega), ← key _ (by omega)]; exact i2 j hj, by rw [← key _ (by omega), ← key _ (by omega)]; exact i3⟩
  · rintro ⟨h1, h2⟩
    refine ⟨h1, fun k k1 k2 => ?_⟩
    obtain ⟨i, i1, i2, i3⟩ := h2 k k1 k2
    exact ⟨i, i1, fun j hj => by rw [key _ (by omega), key _ (by omega)]; exact i2 j hj, by rw [key _ (by omega), key _ (by omega)]; exact i3⟩
theorem fac_zero {l : List Nat} : fac l 0 e = l.take e := by unfold fac; rw [List.drop_zero, Nat.sub_zero]
/-- one least word ahead is the first cut, told by the rest's first -/
theorem first_cut {l : List Nat} {m : Nat} {fs : List (List Nat)} (hm : Nx (sg l) l.length 0 m) (he : e ≤ l.length) (h : Ly (sg l) 0 e) (hc : Cut (l.drop e) 0 fs) : (fs = [] ∨ ∃ g gs, fs = g :: gs ∧ ¬ l.take e < g) ↔ e = m := by
  have hc2 := hc.shift he
  rw [Nat.add_zero] at hc2
  constructor
  · intro hx
    by_cases c1 : e < m
    · cases hc2 with
      | nil => have := hm.2.1; omega
      | cons h3 h4 =>
        rcases hx with hx | ⟨g, gs, hx, hn⟩
        · cases hx
        · injection hx with e1 e2
          have := hm.short h c1 (m - e) e _ (Nat.le_refl _) (Nat.le_refl _) c1 h3
          rw [fac_zero, e1] at this
          exact absurd this hn
    · by_cases c2 : m < e
      · exact absurd h (hm.2.2 e c2 he)
      · omega
  · intro e1
    subst e1
    cases hc2 with
    | nil => exact .inl rfl
    | cons h3 h4 =>
      have := hm.keep h3
      rw [fac_zero] at this
      exact .inr ⟨_, _, rfl, this⟩
theorem Cut.mem {l : List Nat} {fs : List (List Nat)} (h : Cut l b fs) : ∀ w, w ∈ fs → ∀ c, c ∈ w → c ∈ l := by
  induction h with
  | nil => intro w hw; cases hw
  | cons _ _ ih =>
    intro w hw c hc
    rcases List.mem_cons.mp hw with e | hw
    · subst e
      exact List.mem_of_mem_drop (List.mem_of_mem_take hc)
    · exact ih w hw c hc
theorem Cut.len {l : List Nat} {fs : List (List Nat)} (h : Cut l b fs) : fs.length + b ≤ l.length := by
  induction h with
  | nil => simp
  | cons h _ ih => have := h.1.1; rw [List.length_cons]; omega
end Lyn
/-! Borders, periods and powers of words, told by parts of the word. Plain. -/
namespace PerW
open Lyn (sg rootN)
open My (repL repL_len)
theorem bd_take {l : List Nat} {b : Nat} (hb : b < l.length) : l.take b = l.drop (l.length - b) ↔ Per.Bd (sg l) l.length b := by
  have e1 : (l.take b).length = b := by rw [List.length_take]; omega
  have e2 : (l.drop (l.length - b)).length = b := by rw [List.length_drop]; omega
  constructor
  · intro h
    refine ⟨hb, fun i hi => ?_⟩
    have := congrArg (fun m => sg m i) h
    rwa [Lyn.sg_take l hi, Lyn.sg_drop] at this
  · rintro ⟨_, h⟩
    refine Lyn.ext_sg (by rw [e1, e2]) fun i hi => ?_
    rw [e1] at hi
    rw [Lyn.sg_take l hi, Lyn.sg_drop]
    exact h i hi
/-- the period p holds -/
theorem bd_per {l : List Nat} {p : Nat} (h0 : 0 < p) (hp : p ≤ l.length) : Per.Bd (sg l) l.length (l.length - p) ↔ ∀ i, i + p < l.length → sg l i = sg l (i + p) := by
  constructor
  · rintro ⟨_, h⟩ i hi
    have := h i (by omega)
    rw [this]; congr 1; omega
  · intro h
    refine ⟨by omega, fun i hi => ?_⟩
    rw [h i (by omega)]; congr 1; omega
theorem mem_pl {s : Nat → Nat} {n x : Nat} : x ∈ Per.pl s n ↔ 0 < x ∧ x ≤ n ∧ Per.Bd s n (n - x) := by
  unfold Per.pl
  rw [List.mem_reverse, List.mem_map]
  constructor
  · rintro ⟨b, hb, rfl⟩
    have h := Per.mem_bl.mp hb
    have h1 := h.1
    exact ⟨by omega, by omega, by rw [show n - (n - b) = b by omega]; exact h⟩
  · rintro ⟨h1, h2, h3⟩
    exact ⟨n - x, Per.mem_bl.mpr h3, by omega⟩
theorem sorted_eq : ∀ (as bs : List Nat), as.Pairwise (· < ·) → bs.Pairwise (· < ·) → (∀ x, x ∈ as ↔ x ∈ bs) → as = bs
  | [], [], _, _, _ => rfl
  | [], b :: bs, _, _, h => absurd ((h b).mpr List.mem_cons_self) List.not_mem_nil
  | a :: as, [], _, _, h => absurd ((h a).mp List.mem_cons_self) List.not_mem_nil
  | a :: as, b :: bs, pa, pb, h => by
    have qa := List.pairwise_cons.mp pa
    have qb := List.pairwise_cons.mp pb
    have e : a = b := by
      rcases List.mem_cons.mp ((h a).mp List.mem_cons_self) with e | e
      · exact e
      · rcases List.mem_cons.mp ((h b).mpr List.mem_cons_self) with e2 | e2
        · exact e2.symm
        · have := qa.1 b e2
          have := qb.1 a e
          omega
    subst e
    rw [sorted_eq as bs qa.2 qb.2 fun x => ?_]
    constructor
    · intro hx
      rcases List.mem_cons.mp ((h x).mp (List.mem_cons_of_mem _ hx)) with e | e
      · have := qa.1 x hx; omega
      · exact e
    · intro hx
      rcases List.mem_cons.mp ((h x).mpr (List.mem_cons_of_mem _ hx)) with e | e
      · have := qb.1 x hx; omega
      · exact e
theorem rows_eq (l : List Nat) (f : Nat → Bool) (hf : ∀ p, 0 < p → p ≤ l.length → (f p = true ↔ ∀ i, i + p < l.length → sg l i = sg l (i + p))) : ((List.range l.length).map fun i => 1 + i).filter f = Per.pl (sg l) l.length := by
  refine sorted_eq _ _ (List.Pairwise.filter _ ?_) Per.pl_sorted fun x => ?_
  · rw [List.pairwise_map]
    exact List.Pairwise.imp (fun h => by omega) List.pairwise_lt_range
  · rw [List.mem_filter, List.mem_map, mem_pl]
    constructor
    · rintro ⟨⟨i, hi, rfl⟩, h⟩
      have hi2 := List.mem_range.mp hi
      exact ⟨by omega, by omega, (bd_per (by omega) (by omega)).mpr ((hf _ (by omega) (by omega)).mp h)⟩
    · rintro ⟨h1, h2, h3⟩
      exact ⟨⟨x - 1, List.mem_range.mpr (by omega), by omega⟩, (hf x h1 h2).mpr ((bd_per h1 h2).mp h3)⟩
/-! powers -/
theorem sg_rep {w : List Nat} : ∀ (k i : Nat), i < k * w.length → sg (repL w k) i = sg w (i % w.length)
  | 0, i, h => by omega
  | k + 1, i, h => by
    have e : (k + 1) * w.length = k * w.length + w.length := Nat.succ_mul k _
    show sg (w ++ repL w k) i = _
    by_cases c : i < w.length
    · rw [Lyn.sg_app1 _ _ c, Nat.mod_eq_of_lt c]
    · rw [Lyn.sg_app2 _ _ (by omega), sg_rep k (i - w.length) (by omega), ← Nat.mod_eq_sub_mod (by omega)]
theorem per_mod {l : List Nat} {d : Nat} (hd : 0 < d) (h : ∀ i, i + d < l.length → sg l i = sg l (i + d)) : ∀ i, i < l.length → sg l i = sg l (i % d) := by
  intro i
  induction i using Nat.strongRecOn with
  | _ i ih =>
    intro hi
    by_cases c : i < d
    · rw [Nat.mod_eq_of_lt c]
    · have := h (i - d) (by omega)
      rw [show i - d + d = i by omega] at this
      rw [← this, ih (i - d) (by omega) (by omega), ← Nat.mod_eq_sub_mod (by omega)]
theorem rep_iff {l : List Nat} {m : Nat} (hl : 0 < l.length) (hm : 1 ≤ m ∧ m ≤ l.length) : repL (l.take (l.length / m)) m = l ↔ m * (l.length / m) = l.length ∧ ∀ i, i + l.length / m < l.length → sg l i = sg l (i + l.length / m) := by
  have hd : 0 < l.length / m := Nat.div_pos hm.2 hm.1
  have hdl : l.length / m ≤ l.length := Nat.div_le_self _ _
  have e1 : (l.take (l.length / m)).length = l.length / m := by rw [List.length_take]; omega
  generalize l.length / m = d at hd hdl e1 ⊢
  constructor
  · intro h
    have hlen := congrArg List.length h
    rw [repL_len, e1] at hlen
    have key : ∀ i, i < l.length → sg l i = sg l (i % d) := fun i hi => by
      have h2 := congrArg (fun z => sg z i) h
      rw [sg_rep m i (by rw [e1]; omega), e1, Lyn.sg_take l (Nat.mod_lt _ hd)] at h2
      exact h2.symm
    exact ⟨hlen, fun i hi => by rw [key i (by omega), key (i + d) hi, Nat.add_mod_right]⟩
  · rintro ⟨h1, h2⟩
    refine Lyn.ext_sg (by rw [repL_len, e1, h1]) fun i hi => ?_
    rw [repL_len, e1, h1] at hi
    rw [sg_rep m i (by rw [e1, h1]; exact hi), e1, Lyn.sg_take l (Nat.mod_lt _ hd)]
    exact (per_mod hd h2 i hi).symm
/-- the root's length goes into the word's -/
theorem rootN_facts {l : List Nat} (hl : 0 < l.length) : 0 < rootN l ∧ rootN l ≤ l.length ∧ l.length / rootN l * rootN l = l.length := by
  have hlt := Per.lb_lt (s := sg l) hl
  unfold Lyn.rootN
  split
  · rename_i h
    refine ⟨by omega, by omega, ?_⟩
    have := Nat.div_add_mod l.length (l.length - Per.lb (sg l) l.length)
    rw [h, Nat.add_zero, Nat.mul_comm] at this
    exact this
  · exact ⟨hl, Nat.le_refl _, by rw [Nat.div_self hl, Nat.one_mul]⟩
theorem most_power {l : List Nat} (hl : 0 < l.length) : repL (l.take (l.length / (l.length / rootN l))) (l.length / rootN l) = l ∧ 1 ≤ l.length / rootN l ∧ l.length / rootN l ≤ l.length ∧ l.length / (l.length / rootN l) = rootN l ∧
    ∀ m, 1 ≤ m → m ≤ l.length → repL (l.take (l.length / m)) m = l → m ≤ l.length / rootN l := by
  obtain ⟨r1, r2, r3⟩ := rootN_facts hl
  have hc : 1 ≤ l.length / rootN l := Nat.div_pos r2 r1
  have hc2 : l.length / rootN l ≤ l.length := Nat.div_le_self _ _
  have hdd : l.length / (l.length / rootN l) = rootN l := Nat.div_eq_of_eq_mul_right hc r3.symm
  have hlt := Per.lb_lt (s := sg l) hl
  have hPb : Per.Bd (sg l) l.length (l.length - (l.length - Per.lb (sg l) l.length)) := by
    rw [show l.length - (l.length - Per.lb (sg l) l.length) = Per.lb (sg l) l.length by omega]
    exact Per.lb_bd hl
  refine ⟨(rep_iff hl ⟨hc, hc2⟩).mpr ⟨by rw [hdd]; exact r3, ?_⟩, hc, hc2, hdd, fun m m1 m2 hm => ?_⟩
  · rw [hdd]
    by_cases c : l.length % (l.length - Per.lb (sg l) l.length) = 0
    · have e : rootN l = l.length - Per.lb (sg l) l.length := by unfold Lyn.rootN; rw [if_pos c]
      rw [e]
      exact (bd_per (by omega) (by omega)).mp hPb
    · have e : rootN l = l.length := by unfold Lyn.rootN; rw [if_neg c]
      rw [e]
      intro i hi
      omega
  · obtain ⟨h1, h2⟩ := (rep_iff hl ⟨m1, m2⟩).mp hm
    have hd : 0 < l.length / m := Nat.div_pos m2 m1
    have hdl : l.length / m ≤ l.length := Nat.div_le_self _ _
    by_cases c1 : m = 1
    · omega
    · have hb := (bd_per hd hdl).mpr h2
      have hmx := Per.lb_max hb
      have h3 : 2 * (l.length / m) ≤ m * (l.length / m) := Nat.mul_le_mul_right _ (by omega)
      have hdv := Lyn.per_dvd (s := sg l) (n := l.length) rfl hl (l.length / m) hd (by omega) hb
      have hdn : (l.length - Per.lb (sg l) l.length) ∣ l.length := by
        exact Nat.dvd_trans hdv ⟨m, by rw [Nat.mul_comm]; exact h1.symm⟩
      have e : rootN l = l.length - Per.lb (sg l) l.length := by unfold Lyn.rootN; rw [if_pos (Nat.mod_eq_zero_of_dvd hdn)]
      rw [e]
      have hle : l.length - Per.lb (sg l) l.length ≤ l.length / m := by omega
      refine (Nat.le_div_iff_mul_le (by omega)).mpr ?_
      exact Nat.le_trans (Nat.mul_le_mul_left m hle) (Nat.le_of_eq h1)
end PerW
/-! min of data, comprehensions over zip. -/
namespace My
open PySem PySem.Spec L2 SX
open PyProof.Rows hiding St
section
variable {X : Cx} {H : Hp} {Q : VK} {K : PySem.W.Frag}
/-- min(xs), xs a list of alike data -/
def rMinD (K : PySem.W.Frag) : List V → Hp → VK → Prop := fun vs H Q => ∃ (a : Addr) (xs : List V) (d : PyData) (ds : List PyData), vs = [V.ref a] ∧ SqL K H a xs ∧ DpAll K H xs (d :: ds) ∧ PySem.W.AlikeAll (d :: ds) ∧ SeqAt.shaped (.list (d :: ds)) = true ∧
  ∀ (i : Nat) (v : V), xs[i]? = some v → (d :: ds)[i]? = some (PySem.W.minD d ds) → Q v H
theorem dpAll_len : ∀ {xs : List V} {ds : List PyData}, DpAll K H xs ds → xs.length = ds.length
  | _, _, .nil => rfl
  | _, _, .cons _ t => by rw [List.length_cons, List.length_cons, dpAll_len t]
theorem reads_keep {h h' : Heap} (k : ∀ b o, h.get? b = some o → h'.get? b = some o) {v : Value} {d : PyData} {as : List Addr} (r : Reads h v d as) : Reads h' v d as := PyProof.Rows.Reads.keeps k r
theorem cr_minD (hc : X.calm = true) (hu : X.A.units + 100 < cLine) : CallR X (.builtin "min") (rMinD X.K) := by
  intro pins s σ H vs us Q I r h
  obtain ⟨a, xs, d, ds, rfl, hs, hd, hal, hsh, q⟩ := h
  obtain ⟨its, rv, hl, _⟩ := I.list hs
  rw [Vals.ref1 r]
  obtain ⟨as, hr⟩ := Dp.readsAll I (d :: ds) xs its hd rv
  have hcan : PyData.canLayAll0 (d :: ds) = true := SeqAt.canLay_of_shaped hsh
  have hdep : PyData.depthAll (d :: ds) + 1 ≤ 64 := SeqAt.depth_of_shaped hsh
  refine PySem.W.min_list_data (I.ok.hd hc) hl.isList (vs := its.toArray) (by simpa using hr) hal (by omega) fun i v h' tk bs hv hrd hk => ?_
  have hv2 : its[i]? = some v := by simpa using hv
  have hil : i < its.length := (List.getElem?_eq_some_iff.mp hv2).1
  have hxl : i < xs.length := by rw [rv.length]; exact hil
  obtain ⟨u, hu2, ru⟩ := rv.get (List.getElem?_eq_getElem hxl)
  rw [hv2] at hu2
  cases hu2
  have hdl : i < (d :: ds).length := by rw [← dpAll_len hd]; exact hxl
  have hvd : its[i]? = some v := hv2
  obtain ⟨bs2, r2, _, hm, _⟩ := PySem.W.readsAll_at hr i v hv2
  have hci : ((d :: ds).getD i .none).canLay0 = true := PyData.canLay0_of_mem (d :: ds) _ hcan hm
  have e := PySem.SeqAt.Reads.unique _ _ _ _ _ hci (reads_keep hk r2) hrd
  refine ⟨xs[i], H, I.kept hk, ru, q i _ (List.getElem?_eq_getElem hxl) ?_⟩
  rw [List.getElem?_eq_getElem hdl]
  rw [List.getD_eq_getElem?_getD, List.getElem?_eq_getElem hdl] at e
  exact congrArg some e

/-! ### pairs of a text and an int -/
def ltSI (a b : List Nat × Int) : Bool := decide (a.1 < b.1) || (decide (a.1 = b.1) && decide (a.2 < b.2))
def minSI (a : List Nat × Int) (l : List (List Nat × Int)) : List Nat × Int := l.foldl (fun m y => if ltSI y m then y else m) a
def toSI (a : List Nat × Int) : PyData := dSI a.1 a.2
theorem alikeSI (a b : List Nat × Int) : PySem.W.alike (toSI a) (toSI b) = true := by simp [toSI, dSI, PySem.W.alike, PySem.W.alikeAll]
theorem dataLtSI (a b : List Nat × Int) : PySem.W.dataLt (toSI a) (toSI b) = ltSI a b := by
  unfold toSI dSI ltSI
  rw [PySem.W.dataLt_pair (by simp [PySem.W.alike]) (by simp [PySem.W.alike]), PySem.W.dataLt_int, PySem.W.dataLt_str, eqStr]
  have e : PyData.eqv (.int a.2) (.int b.2) = decide (a.2 = b.2) := by simp only [PyData.eqv]; by_cases e : a.2 = b.2 <;> simp [e]
  rw [e]
  show (if decide (a.1 = b.1) = true then _ else decide (a.1 < b.1)) = _
  by_cases h1 : a.1 = b.1
  · rw [decide_eq_true h1, if_pos rfl, h1]
    have h2 : decide (b.1 < b.1) = false := decide_eq_false (List.lt_irrefl _)
    rw [h2]
    by_cases h3 : a.2 = b.2
    · simp [h3]
    · simp [h3]
  · rw [decide_eq_false h1, if_neg Bool.false_ne_true]
    simp
theorem minSI_D (a : List Nat × Int) : ∀ l : List (List Nat × Int), PySem.W.minD (toSI a) (l.map toSI) = toSI (minSI a l) := by
  intro l
  unfold PySem.W.minD minSI
  induction l generalizing a with
  | nil => rfl
  | cons b l ih =>
    rw [List.map_cons, List.foldl_cons, List.foldl_cons, dataLtSI]
    by_cases h : ltSI b a = true
    · rw [if_pos h, if_pos h]; exact ih b
    · rw [if_neg h, if_neg h]; exact ih a
theorem canSI (a : List Nat × Int) (h : OkW a.1) : (toSI a).canLay0 = true := by
  show (PyData.canLay0 (.str (S a.1)) && (PyData.canLay0 (.int a.2) && true)) = true
  rw [canStr h]; rfl
theorem canAllSI : ∀ l : List (List Nat × Int), (∀ a ∈ l, OkW a.1) → PyData.canLayAll0 (l.map toSI) = true
  | [], _ => rfl
  | a :: l, h => by
    show (PyData.canLay0 (toSI a) && PyData.canLayAll0 (l.map toSI)) = true
    rw [canAllSI l fun b hb => h b (List.mem_cons_of_mem _ hb), canSI a (h a List.mem_cons_self)]; rfl
theorem depAllSI : ∀ l : List (List Nat × Int), PyData.depthAll (l.map toSI) ≤ 1
  | [] => Nat.zero_le _
  | a :: l => by
    show max (PyData.depth (toSI a)) (PyData.depthAll (l.map toSI)) ≤ 1
    have h1 : PyData.depth (toSI a) = 1 := rfl
    have := depAllSI l
    omega
theorem toSI_inj {a b : List Nat × Int} (h : toSI a = toSI b) : a = b := by
  unfold toSI dSI at h
  injection h with h
  injection h with h1 h2
  injection h2 with h2 _
  injection h1 with h1
  injection h2 with h2
  exact Prod.ext (S_inj h1) h2
/-- the list's items: new tuples, as they stand -/
def TupsAt (H : Hp) : List V → List (List Nat × Int) → Prop := Paired fun v a => ∃ t, v = .ref t ∧ H t = some (.tup [.str (S a.1), .int a.2])
theorem dpTups : ∀ {vs : List V} {l : List (List Nat × Int)}, TupsAt H vs l → DpAll K H vs (l.map toSI)
  | _, _, .nil => .nil
  | _, _, .cons ⟨t, e, h⟩ r => by
    subst e
    exact .cons (dpSI (SqT.of h)) (dpTups r)
theorem tups_at {vs : List V} {l : List (List Nat × Int)} (h : TupsAt H vs l) {i : Nat} {v : V} {a : List Nat × Int} (hv : vs[i]? = some v) (ha : l[i]? = some a) : ∃ t, v = .ref t ∧ H t = some (.tup [.str (S a.1), .int a.2]) := by
  induction h generalizing i with
  | nil => simp at hv
  | cons r _ ih =>
    cases i with
    | zero =>
      simp at hv ha
      subst hv ha
      exact r
    | succ i => exact ih (by simpa using hv) (by simpa using ha)
theorem rd_minSI {p : Addr} {vs : List V} {a : List Nat × Int} {l : List (List Nat × Int)} (hs : SqL K H p vs) (ht : TupsAt H vs (a :: l)) (ho : ∀ b ∈ a :: l, OkW b.1)
    (q : ∀ t, H t = some (.tup [.str (S (minSI a l).1), .int (minSI a l).2]) → Q (.ref t) H) : rMinD K [.ref p] H Q := by
  refine ⟨p, vs, toSI a, l.map toSI, rfl, hs, dpTups ht, ⟨?_, ?_⟩, ?_, fun i v hv hd => ?_⟩
  · intro x hx y hy
    have hx2 : x ∈ (a :: l).map toSI := hx
    have hy2 : y ∈ (a :: l).map toSI := hy
    obtain ⟨b, _, rfl⟩ := List.mem_map.mp hx2
    obtain ⟨c, _, rfl⟩ := List.mem_map.mp hy2
    exact alikeSI b c
  · intro x hx
    have hx2 : x ∈ (a :: l).map toSI := hx
    obtain ⟨b, _, rfl⟩ := List.mem_map.mp hx2
    exact fun z => nomatch z
  · unfold SeqAt.shaped
    have h1 : PyData.canLay0 (.list ((a :: l).map toSI)) = true := canAllSI _ ho
    have h2 : PyData.depth (.list ((a :: l).map toSI)) ≤ 64 := by
      show PyData.depthAll ((a :: l).map toSI) + 1 ≤ 64
      have := depAllSI (a :: l)
      omega
    rw [Bool.and_eq_true]
    exact ⟨h1, decide_eq_true h2⟩
  · rw [minSI_D] at hd
    have hd2 : ((a :: l).map toSI)[i]? = some (toSI (minSI a l)) := hd
    rw [List.getElem?_map] at hd2
    cases e : (a :: l)[i]? with
    | none => rw [e] at hd2; cases hd2
    | some b =>
      rw [e] at hd2
      have e2 := toSI_inj (Option.some.inj hd2)
      subst e2
      obtain ⟨t, rfl, hst⟩ := tups_at ht hv e
      exact q t hst

/-! ### comprehensions over zip -/
variable {σ : St} {te : TE} {vs : List Nat} {R : It → Hp → Prop}
/-- the target (a, b) of names -/
abbrev g2 (K : PySem.W.Frag) (i j : Nat) : TG := gTup K 2 (gCons (gName i) (gCons (gName j) gNil))
theorem lcZ {J : It} {n : Nat} {G : Hp → Prop} {A B : Nat → Option V} (w : Walk J n G (YPair A B)) (hG : ∀ H', Same H H' → G H') {i j : Nat} (f : Nat → V) (hn : n ≤ 50000)
    (hw : ∀ x y, wipe (((wipe σ vs).set i (some x)).set j (some y)) vs = wipe σ vs)
    (he : ∀ k x y, k < n → A k = some x → B k = some y → PE0 te (((wipe σ vs).set i (some x)).set j (some y)) H (f k))
    (q : ∀ D H', H D = none → Same H H' → H' D = some (.lst ((List.range n).map f)) → Q (.ref D) H') : LcG J (g2 K i j) tYes te vs σ Q H := by
  intro D hD
  refine lc_it w (fun k H' => Same H H' ∧ H' D = some (.lst ((List.range k).map f))) ⟨Same.new hD, upd_same⟩ (fun k H' _ p => hG H' p.1) ?_ ?_
  · rintro k x H1 H1' hk ⟨s1, hd⟩ ⟨T, x, y, rfl, hT, rfl, ha, hb⟩
    refine ⟨T, [x, y], rfl, SqT.of upd_same, rfl, x, [y], rfl, y, [], rfl, rfl, hw x y, ?_⟩
    unfold tYes; dsimp only
    rw [if_pos rfl]
    have s2 : Same H (upd H1 T (.tup [x, y])) := fun b o e => by rw [upd_ne (ne_of_none (s1 b o e) hT)]; exact s1 b o e
    refine he k x y hk ha hb _ s2 _ fun H3 s3 => ?_
    have hDT : D ≠ T := ne_of_none hd hT
    refine ⟨_, s3 _ _ (by rw [upd_ne hDT]; exact hd), ?_, Same.mut (s2.trans s3) hD, ?_⟩
    · rw [List.length_map, List.length_range]
      exact szlt (by omega)
    · rw [upd_same, List.range_succ, List.map_append]
      rfl
  · rintro H1 ⟨s1, hd⟩
    exact q D H1 hD s1 hd
theorem walk_zipT {a b : Addr} {xs ys : List V} (hl : xs.length = ys.length) : Walk (RZ.ItzT K a b) xs.length (fun H => SqT K H a xs ∧ SqT K H b ys) (YPair (fun i => xs[i]?) (fun i => ys[i]?)) := by
  refine ⟨fun i _ hi q => ?_, fun _ q => ⟨xs, ys, q.1, q.2, .inl (Nat.le_refl _)⟩, fun i H v H' _ q y => ?_⟩
  · have h2 : i < ys.length := by omega
    exact ⟨xs, ys, xs[i], ys[i], q.1, q.2, by simp [hi], by simp [h2]⟩
  · obtain ⟨T, x, z, h1, h2, h3, h4, h5⟩ := y
    exact ⟨T, x, z, h1, h2, h3, h4 xs q.1, h5 ys q.2⟩
def qZip (K : PySem.W.Frag) (vs : List V) (H1 : Hp) (R : It → Hp → Prop) : Prop := ∃ a b xs ys, vs = [.ref a, .ref b] ∧ ((SqL K H1 a xs ∧ SqL K H1 b ys ∧ R (Itz K a b) H1) ∨ (SqT K H1 a xs ∧ SqT K H1 b ys ∧ R (RZ.ItzT K a b) H1))
theorem rd_iZip {ta : TA} (h : ta σ H fun vs H1 => qZip K vs H1 R) : RZ.iZipA K ta σ H R := h
theorem rd_zipL {a b : Addr} {xs ys : List V} (h1 : SqL K H a xs) (h2 : SqL K H b ys) (q : R (Itz K a b) H) : qZip K [.ref a, .ref b] H R := ⟨a, b, xs, ys, rfl, .inl ⟨h1, h2, q⟩⟩
theorem rd_zipT {a b : Addr} {xs ys : List V} (h1 : SqT K H a xs) (h2 : SqT K H b ys) (q : R (RZ.ItzT K a b) H) : qZip K [.ref a, .ref b] H R := ⟨a, b, xs, ys, rfl, .inr ⟨h1, h2, q⟩⟩
/-- all, any -/
theorem rd_all {p : Addr} {bs : List Bool} (h : SqL K H p (bs.map V.bl)) (q : Q (.bl (bs.all id)) H) : rAll K [.ref p] H Q := ⟨p, bs, rfl, h, q⟩
theorem rd_any {p : Addr} {bs : List Bool} (h : SqL K H p (bs.map V.bl)) (q : Q (.bl (bs.any id)) H) : rAny K [.ref p] H Q := ⟨p, bs, rfl, h, q⟩
/-- isinstance with a tuple of types just made -/
theorem rd_isiT {x : V} {t : Value} {tp : Addr} {cs : List V} {us : List Value} {b : Bool} (h : H tp = some (.tup cs)) (p : Paired ClsV cs us) (ty : TyX K H x t) (k : PySem.W.kitAny K t us = some b) (q : Q (.bl b) H) : rIsiT K [x, .ref tp] H Q := ⟨x, tp, cs, t, us, b, rfl, h, p, ty, k, q⟩
theorem rd_isiTL {x : V} {a : String} {tp : Addr} {r1 r2 : Bool} (h : H tp = some (.tup [.ty "tuple", .ty "list"])) (ty : TyX K H x (.type a)) (k1 : kitB a "tuple" = some r1) (k2 : kitB a "list" = some r2) (q : Q (.bl (r1 || r2)) H) : rIsiT K [x, .ref tp] H Q := by
  refine rd_isiT h (.cons (.ty _) (.cons (.ty _) .nil)) ty ?_ q
  cases r1 with
  | true => exact kitAny_cons (kit_ty k1) (fun z => nomatch z) fun _ => rfl
  | false =>
    refine kitAny_cons (b := false) (kit_ty k1) (fun _ => ?_) fun z => nomatch z
    cases r2 with
    | true => exact kitAny_cons (kit_ty k2) (fun z => nomatch z) fun _ => rfl
    | false => exact kitAny_cons (b := false) (kit_ty k2) (fun _ => kitAny_nil) fun z => nomatch z
end
end My
/-! Small rules: replace of written texts, room. -/
namespace My
open PySem PySem.Spec L2 SX
open PyProof.Rows hiding St
section
variable {X : Cx} {x y z : Str} {i j k : Nat} {cx c0 c1 apos pos : Pos}
theorem pe_replLit (l : List Nat) (hl : Txt.replace x y z = S l) (hb : x.length + (x.length + 1) * z.length ≤ 16777216) (hyz : (y == z) = false := by decide)
    (hst : starEach [.Constant (.str y) j c0, .Constant (.str z) k c1] X.env = [(false, eval (.Constant (.str y) j c0) X.env), (false, eval (.Constant (.str z) k c1) X.env)] := by rfl)
    (hbase : attributeBase (.Constant (.str x) i cx) "replace" X.env (eval (.Constant (.str x) i cx) X.env) = eval (.Constant (.str x) i cx) X.env := by rfl) (hline : (apos.endLine == pos.line) = true := by rfl) :
    PE X (.Call (.Attribute (.Constant (.str x) i cx) "replace" apos) [.Constant (.str y) j c0, .Constant (.str z) k c1] [] pos) (tC (.str (S l))) := by
  refine ⟨fun pins s σ H Q I h => ?_⟩
  refine PySem.Call_method2 hbase hst hline (Calls.Constant_str ?_)
  refine ⟨"str", _, PySem.F.plainAttrs_str, PySem.F.slot_str_replace, PySem.F.type_str_replace, typeIs_str _ _ _, (fun _ e => nomatch e), Calls.callWith_builtin rfl (Calls.evalArgs_plain (Calls.spliced_cons ?_))⟩
  refine Calls.Constant_str (Calls.spliced_cons (Calls.Constant_str (Calls.spliced_nil ?_)))
  refine PySem.SC.replace (by show s.toks + 1 ≠ 0; omega) (by show s.toks + 1 + 1 ≠ 0; omega) (by show s.toks + 1 ≠ s.toks + 1 + 1; omega) hyz hb fun t' hk => ⟨.str (S l), H, (I.tok _).tok hk, ⟨t', by rw [hl]⟩, h⟩
end
theorem pg_two {X : Cx} {i j k : Nat} {x y : Str} {p q pos : Pos} (K : PySem.W.Frag) (hK : X.K = K) (hc : X.calm = true) (hN : X.N.Nodup) (hi : X.N[i]? = some x) (hx : Loc X.env.scope x) (hj : X.N[j]? = some y) (hy : Loc X.env.scope y)
    (h1 : X.fn x = true ∨ X.env.scope.names.lookup x = some .local := by first | exact .inl rfl | exact .inr rfl | assumption)
    (h2 : X.fn y = true ∨ X.env.scope.names.lookup y = some .local := by first | exact .inl rfl | exact .inr rfl | assumption) :
    PG X (.Tuple [.Name x p, .Name y q] k pos) (gTup K 2 (gCons (gName i) (gCons (gName j) gNil))) := by
  subst hK
  exact pg_tup hc (pgs_cons (pg_name hN hi hx h1) (pgs_cons (pg_name hN hj hy h2) pgs_nil))
theorem rd_slS_mid {H : Hp} {Q : VK} {l : List Nat} {i j : Int} (hl : l.length ≤ 100000) (h0 : 0 ≤ i) (h1 : i ≤ j) (h2 : j ≤ (l.length : Int)) (q : Q (.str (S ((l.drop i.toNat).take (j - i).toNat))) H) : C8.rSlX (.str (S l)) (some i) (some j) H Q := by
  refine ⟨S l, rfl, by rw [S_len]; exact sz hl, ?_⟩
  have e : Txt.slice (S l) (some i) (some j) = S ((l.drop i.toNat).take (j - i).toNat) :=
    (beq_iff_eq.mp (PyProof.Rows.slice_closesL (x := S l) h0 h1 (by rw [S_len]; exact h2))).trans (TL.ext_tl rfl)
  rw [e]
  exact q
theorem one_lt {x y : Nat} : [x] < [y] ↔ x < y := by
  rw [List.cons_lt_cons_iff]
  simp
theorem paired_snoc {α β : Type} {R : α → β → Prop} {as : List α} {bs : List β} {a : α} {b : β} (h : Paired R as bs) (r : R a b) : Paired R (as ++ [a]) (bs ++ [b]) := by
  induction h with
  | nil => exact .cons r .nil
  | cons x _ ih => exact .cons x ih
/-- a while with what holds behind it said once -/
theorem rd_whileX {σ : St} {H : Hp} {tt : TT} {tb : TS} {nx : St → Hp → Prop} {rt : VK} {bk ct : St → Hp → Prop} (W : Nat → St → Hp → Prop) (Ex : St → Hp → Prop) (m0 : Nat) (h0 : W m0 σ H) (hx : ∀ σ H, Ex σ H → nx σ H)
    (hs : (∀ σ H, Ex σ H → nx σ H) → ∀ m σ H, W m σ H → tt σ H fun b H1 => if b = true then WhB W m tb rt nx σ H1 else nx σ H1) : tWhile tt tb ⟨nx, rt, bk, ct⟩ σ H :=
  rd_while W m0 h0 (hs hx)
theorem rd_two {a b : V} {R : V → V → Prop} (h : R a b) : ∃ v w, [a, b] = [v, w] ∧ R v w := ⟨a, b, rfl, h⟩
theorem rd_evT {b : Bool} {A B : Prop} (h : b = true) (q : A) : if b = true then A else B := by rw [if_pos h]; exact q
theorem rd_evF {b : Bool} {A B : Prop} (h : b = false) (q : B) : if b = true then A else B := by rw [if_neg (by rw [h]; exact Bool.false_ne_true)]; exact q
theorem Room.u100 {k : Nat} {A : Around} (r : Room k A) : A.units + 100 < cLine := by have := r.un; omega
theorem Room.u65 {k : Nat} {A : Around} (r : Room k A) : A.units + 65 < cLine := by have := r.un; omega
end My
/-! zip of two texts. -/
namespace My
open PySem PySem.Spec L2 SX
open PyProof.Rows hiding St
/-- the signs of two texts, in new pairs -/
def ItzS (x y : Str) : It :=
  ⟨fun i _ => i < min x.cps.size y.cps.size, fun i H v H' => ∃ T c d, v = .ref T ∧ H T = none ∧ H' = upd H T (.tup [.str ⟨#[c]⟩, .str ⟨#[d]⟩]) ∧ x.cps[i]? = some c ∧ y.cps[i]? = some d, fun i _ => i = min x.cps.size y.cps.size⟩
theorem turn_zipS {P : Program} {w : World} {K : PySem.W.Frag} {elts : List Expr} {kk : Nat} {tpos : Pos} {z TI TO i1 i2 : Addr} {x y : Str} {t u : Tok} (D : ZipSep2 z TI TO i1 i2 [i1] [i2]) :
    Turn P w K (.Tuple elts kk tpos) (ItzS x y) [z, TI, TO, i1, i2] z (fun i h => IsZip h z TI TO .none ∧ IsTupOf2 h TI (.ref i1) (.ref i2) ∧ (∃ a b, IsTupOf2 h TO a b) ∧ h.IsStrIter i1 (strIterType x) x t i ∧ h.IsStrIter i2 (strIterType y) y u i) where
  mem := by simp
  obj := fun i h st c hc => by
    obtain ⟨hz, hTI, ⟨a, b, hTO⟩, ⟨o1, e1, _, d1⟩, ⟨o2, e2, _, d2⟩⟩ := st
    have e' : c = z ∨ c = TI ∨ c = TO ∨ c = i1 ∨ c = i2 := by simpa using hc
    rcases e' with q | q | q | q | q
    · rw [q]; exact ⟨_, hz, fun v q => nomatch q⟩
    · rw [q]; exact ⟨_, hTI, fun v q => nomatch q⟩
    · rw [q]; exact ⟨_, hTO, fun v q => nomatch q⟩
    · rw [q]; exact ⟨o1, e1, fun v q => by rw [d1] at q; cases q⟩
    · rw [q]; exact ⟨o2, e2, fun v q => by rw [d2] at q; cases q⟩
  keep := fun i h h' st k => by
    obtain ⟨hz, hTI, ⟨a, b, hTO⟩, ⟨o1, e1, r1⟩, ⟨o2, e2, r2⟩⟩ := st
    exact ⟨k z (by simp) _ hz, k TI (by simp) _ hTI, ⟨a, b, k TO (by simp) _ hTO⟩, ⟨o1, k i1 (by simp) _ e1, r1⟩, ⟨o2, k i2 (by simp) _ e2, r2⟩⟩
  item := by
    intro X hP hw hK hc i pins s σ H E I hf st hg
    subst hP hw hK
    obtain ⟨hz, hTI, ⟨x0, y0, hTO⟩, h1, h2⟩ := st
    have hg2 : i < min x.cps.size y.cps.size := hg
    have hzl : z < s.heap.objs.size := Heap.lt_size hz
    have D1 := Draws.text (prog := X.prog) (w := X.w) (A := X.A.in1) (I.ok.hd hc) i1 x t
    have D2 := Draws.text (prog := X.prog) (w := X.w) (A := X.A.in1) (I.ok.hd hc) i2 y u
    refine wpAny_pyNext_zipD2_item (i := i) D D1 D2 hz hTI hTO h1 h2 (by omega) (by omega) fun v1 v2 h' tk p1 p2 z' TO' h1' h2' hT hsz hk => ?_
    obtain ⟨c, t1, hc1, rfl⟩ := p1
    obtain ⟨d, t2, hd2, rfl⟩ := p2
    refine ⟨_, rfl, wpAny_letOwnedTupleGo_zip (s := { s with heap := h', toks := tk }) z' fun h'' z'' sb => ?_⟩
    have hT2 : h''.get? s.heap.objs.size = some { cls := .type "tuple", data := .seq #[.str ⟨#[c]⟩ t1, .str ⟨#[d]⟩ t2] } := (sb.2 _ (Nat.ne_of_gt hzl)).trans hT
    have new : ObjOk X.prog X.w (upd H s.heap.objs.size (.tup [.str ⟨#[c]⟩, .str ⟨#[d]⟩])) h'' s.heap.objs.size (.tup [.str ⟨#[c]⟩, .str ⟨#[d]⟩]) :=
      ⟨by show 2 ≤ sizeLine; decide, [.str ⟨#[c]⟩ t1, .str ⟨#[d]⟩ t2], .cons ⟨t1, rfl⟩ (.cons ⟨t2, rfl⟩ .nil), ⟨_, hT2, rfl, _, rfl⟩⟩
    have I1 : Inv X pins σ (upd H s.heap.objs.size (.tup [.str ⟨#[c]⟩, .str ⟨#[d]⟩])) { s with heap := h'', toks := tk } :=
      I.turnedNew (t' := tk) (ch := [z, TI, TO, i1, i2]) (fun c o hb q => (sb.2 c (fun q' => hb (by simp [q']))).trans (hk c o (fun q' => hb (by simp [q'])) (fun q' => hb (by simp [q'])) (fun q' => hb (by simp [q'])) (fun q' => hb (by simp [q'])) q)) hf (Nat.le_refl _) new
    refine ⟨.ref s.heap.objs.size, _, I1, rfl, ⟨_, c, d, rfl, I.hok.fresh (Nat.le_refl _), rfl, hc1, hd2⟩, ⟨z'', ?_, ⟨.str ⟨#[c]⟩ t1, .str ⟨#[d]⟩ t2, ?_⟩, ?_, ?_⟩, fun b hbm => ?_⟩
    · exact (sb.2 _ D.TIz).trans (hk _ _ D.TIz D.TITO D.TIi1 D.TIi2 hTI)
    · exact (sb.2 _ D.TOz).trans TO'
    · obtain ⟨o, e, r⟩ := h1'
      exact ⟨o, (sb.2 _ (Ne.symm D.zi1)).trans e, r⟩
    · obtain ⟨o, e, r⟩ := h2'
      exact ⟨o, (sb.2 _ (Ne.symm D.zi2)).trans e, r⟩
    · have hlt : b < s.heap.objs.size := by
        have e' : b = z ∨ b = TI ∨ b = TO ∨ b = i1 ∨ b = i2 := by simpa using hbm
        rcases e' with q | q | q | q | q
        · rw [q]; exact hzl
        · rw [q]; exact Heap.lt_size hTI
        · rw [q]; exact Heap.lt_size hTO
        · rw [q]; obtain ⟨_, e1, _⟩ := h1; exact Heap.lt_size e1
        · rw [q]; obtain ⟨_, e2, _⟩ := h2; exact Heap.lt_size e2
      rw [upd_ne (Nat.ne_of_lt hlt)]
      exact (hf b hbm).1
  done := by
    intro X hP hw hK hc i pins s σ H E I hf st hg
    subst hP hw hK
    obtain ⟨hz, hTI, ⟨x0, y0, hTO⟩, h1, h2⟩ := st
    have hg2 : i = min x.cps.size y.cps.size := hg
    have D1 := Draws.text (prog := X.prog) (w := X.w) (A := X.A.in1) (I.ok.hd hc) i1 x t
    have D2 := Draws.text (prog := X.prog) (w := X.w) (A := X.A.in1) (I.ok.hd hc) i2 y u
    exact wpAny_pyNext_zipD2_end (i := i) D D1 D2 hz hTI hTO h1 h2 (by omega) (by omega) (by omega) fun h' tk hk => ⟨rfl, I.turnedL (t' := tk) (ch := [z, TI, TO, i1, i2]) (fun c o hb q =>
      hk c o (fun q' => hb (by simp [q'])) (fun q' => hb (by simp [q'])) (fun q' => hb (by simp [q'])) (fun q' => hb (by simp [q'])) q) hf⟩
  self := fun A i s Q E st h => wpAny_pyIter_zip st.1 h
def iZipS (ta : TA) : TI := fun σ H R => ta σ H fun vs H1 => ∃ x y, vs = [.str x, .str y] ∧ R (ItzS x y) H1
theorem pi_zipS {X : Cx} {e e2 : Expr} {ta : TA} {p pos tpos : Pos} {elts : List Expr} {kk : Nat} (hg : Gl X "zip") (hm : X.mg "zip" = none) (ha : PA X [e, e2] ta)
    (hs : starEach [e, e2] X.env = (false, eval e X.env) :: starEach [e2] X.env := by rfl) (hpl : (backTo pos (starEach [e2] X.env)).any (·.1) = false := by rfl) :
    PI X (.Tuple elts kk tpos) (.Call (.Name "zip" p) [e, e2] [] pos) (iZipS ta) := by
  refine ⟨fun pins s σ H R I h => ?_⟩
  refine Call_ (ld_blt I hg hm PyProof.Rows.boot_zip (PyProof.Rows.callWith_type1 (thn (ha.run pos pins s σ H _ I h) fun us s1 ⟨vs, H1, I1, r1, q1⟩ => ?_) hs hpl))
  obtain ⟨x, y, ex, q⟩ := q1
  subst ex
  cases r1 with
  | cons r rr =>
    cases rr with
    | cons r' rr =>
      cases rr
      obtain ⟨t, rfl⟩ := r
      obtain ⟨u, rfl⟩ := r'
      have fresh5 : ∀ c, c ∈ [s1.heap.objs.size + 4, s1.heap.objs.size + 2, s1.heap.objs.size + 3, s1.heap.objs.size, s1.heap.objs.size + 1] → FpOk X pins H1 c := fun c hcm => by
        have e' : c = s1.heap.objs.size + 4 ∨ c = s1.heap.objs.size + 2 ∨ c = s1.heap.objs.size + 3 ∨ c = s1.heap.objs.size ∨ c = s1.heap.objs.size + 1 := by simpa using hcm
        have hle : s1.heap.objs.size ≤ c := by omega
        exact I1.fpOk hle (I1.hok.fresh hle)
      refine zip_begins2 (begins_text x t) (begins_text y u) trivial trivial fun h' hz hTI hTO h1 h2 hsz hk => wpAny_pyIter_zip hz ?_
      have I2 : Inv X pins σ H1 { s1 with heap := h' } := I1.kept (t' := s1.toks) hk
      refine ⟨s1.heap.objs.size + 4, [s1.heap.objs.size + 4, s1.heap.objs.size + 2, s1.heap.objs.size + 3, s1.heap.objs.size, s1.heap.objs.size + 1], _, _, H1, rfl, I2, turn_zipS (t := t) (u := u) ?_, ⟨hz, hTI, ⟨_, _, hTO⟩, ⟨_, h1, rfl, rfl⟩, ⟨_, h2, rfl, rfl⟩⟩, fresh5, q⟩
      constructor <;> first | omega | simp
section
variable {σ : St} {H : Hp} {te : TE} {ta : TA} {vs : List Nat} {Q : VK} {R : It → Hp → Prop}
def qZipS (vs : List V) (H1 : Hp) (R : It → Hp → Prop) : Prop := ∃ x y, vs = [.str x, .str y] ∧ R (ItzS x y) H1
theorem rd_iZipS (h : ta σ H fun vs H1 => qZipS vs H1 R) : iZipS ta σ H R := h
theorem rd_zipS {l m : List Nat} (q : R (ItzS (S l) (S m)) H) : qZipS [.str (S l), .str (S m)] H R := ⟨S l, S m, rfl, q⟩
theorem walk_zipS {l m : List Nat} (hl : m.length ≤ l.length) : Walk (ItzS (S l) (S m)) m.length (fun _ => True) (YPair (fun i => l[i]?.map fun c => V.str (S [c])) (fun i => m[i]?.map fun c => V.str (S [c]))) := by
  have e1 : (S l).cps.size = l.length := by simp
  have e2 : (S m).cps.size = m.length := by simp
  refine ⟨fun i _ hi _ => ?_, fun _ _ => ?_, fun i H v H' _ _ y => ?_⟩
  · show i < min _ _
    omega
  · show m.length = min _ _
    omega
  · obtain ⟨T, c, d, h1, h2, h3, h4, h5⟩ := y
    refine ⟨T, .str ⟨#[c]⟩, .str ⟨#[d]⟩, h1, h2, h3, ?_, ?_⟩
    · have : l[i]? = some c := by simpa using h4
      dsimp only
      rw [this]
      rfl
    · have : m[i]? = some d := by simpa using h5
      dsimp only
      rw [this]
      rfl
end
end My
/-! x in a tuple of lists, list(range), dicts of ints, unpacking of lists, max. -/
namespace My
open PySem PySem.Spec L2 SX
open PyProof.Rows hiding St
section
variable {X : Cx} {K : PySem.W.Frag} {H : Hp} {Q : VK} {σ : St}
def rInT (K : PySem.W.Frag) (neg : Bool) : R2 := fun x y H Q => ∃ d ds, Dp K H x d ∧ Dp K H y (.tuple ds) ∧ SeqAt.shaped d = true ∧ SeqAt.shaped (.tuple ds) = true ∧ Q (.bl (if neg then !(ds.any fun z => PyData.eqv z d) else ds.any fun z => PyData.eqv z d)) H
theorem op_inT (K : PySem.W.Frag) (hK : X.K = K) (hu : X.A.units + 65 < cLine) : OpR X (compareOp .In) (rInT K false) := by
  subst hK
  intro pins s σ H x y v u Q I rx ry h
  obtain ⟨d, ds, hd, he, sd, se, q⟩ := h
  obtain ⟨as, r1⟩ := Dp.reads I d x v hd rx
  obtain ⟨bs, r2⟩ := Dp.reads I (.tuple ds) y u he ry
  exact SeqAt.in_tuple_reads r2 r1 (SeqAt.canLay_of_shaped se) (SeqAt.canLay_of_shaped sd) (room_in_shaped sd hu) ⟨.bl _, H, I, rfl, q⟩
theorem op_notInT (K : PySem.W.Frag) (hK : X.K = K) (hu : X.A.units + 65 < cLine) : OpR X (compareOp .NotIn) (rInT K true) := by
  subst hK
  intro pins s σ H x y v u Q I rx ry h
  obtain ⟨d, ds, hd, he, sd, se, q⟩ := h
  obtain ⟨as, r1⟩ := Dp.reads I d x v hd rx
  obtain ⟨bs, r2⟩ := Dp.reads I (.tuple ds) y u he ry
  exact SeqAt.notIn_tuple_reads r2 r1 (SeqAt.canLay_of_shaped se) (SeqAt.canLay_of_shaped sd) (room_in_shaped sd hu) ⟨.bl _, H, I, rfl, q⟩
/-- a list of ints not in a tuple of two such lists -/
theorem rd_notInT2 {p t q r : Addr} {a b c : List Int} (hp : SqL K H p (a.map V.int)) (ht : SqT K H t [.ref q, .ref r]) (hq : SqL K H q (b.map V.int)) (hr : SqL K H r (c.map V.int))
    (k : Q (.bl (!(decide (b = a) || decide (c = a)))) H) : rInT K true (.ref p) (.ref t) H Q := by
  refine ⟨dI a, [dI b, dI c], dpI hp, .tup ht (.cons (dpI hq) (.cons (dpI hr) .nil)), shI _, ?_, ?_⟩
  · have h1 := shI b
    have h2 := shI c
    unfold SeqAt.shaped at h1 h2 ⊢
    rw [Bool.and_eq_true] at h1 h2 ⊢
    have e1 : PyData.canLay0 (.tuple [dI b, dI c]) = (PyData.canLay0 (dI b) && (PyData.canLay0 (dI c) && true)) := rfl
    have e2 : PyData.depth (.tuple [dI b, dI c]) = max (PyData.depth (dI b)) (max (PyData.depth (dI c)) 0) + 1 := rfl
    have e3 : ∀ ns : List Int, PyData.depth (dI ns) = 1 := fun ns => by
      show PyData.depthAll (ns.map PyData.int) + 1 = 1
      rw [depI]
    refine ⟨by rw [e1, h1.1, h2.1]; rfl, decide_eq_true ?_⟩
    rw [e2, e3, e3]
    decide
  · show Q (.bl (!(PyData.eqv (dI b) (dI a) || (PyData.eqv (dI c) (dI a) || false)))) H
    rw [eqI, eqI, Bool.or_false]
    exact k
theorem op_inQ (K : PySem.W.Frag) (hK : X.K = K) : OpR X (compareOp .In) (rIn K false) := by
  subst hK
  exact op_in_seq
theorem op_notInQ (K : PySem.W.Frag) (hK : X.K = K) : OpR X (compareOp .NotIn) (rIn K true) := by
  subst hK
  exact op_notIn_seq
theorem cr_allK (K : PySem.W.Frag) (hK : X.K = K) (hc : X.calm = true) : CallR X (.builtin "all") (rAll K) := by
  subst hK
  exact cr_all hc
/-! list(range(..)) -/
def qRg (a b : Int) (H1 : Hp) (Q : VK) : Prop := RgOk a b ∧ ∀ q, H1 q = none → Q (.ref q) (upd H1 q (.lst (rgV a b)))
theorem rd_lstRg {te : St → Hp → (Int → Int → Hp → Prop) → Prop} (h : te σ H fun a b H1 => qRg a b H1 Q) : tLstRg te σ H Q := h
theorem rd_tRg1 {ta : TE} {R : Int → Int → Hp → Prop} (h : ta σ H fun x H1 => ∃ n, x = .int n ∧ R 0 n H1) : tRg1 ta σ H R := h
theorem rd_tRg2 {ta tb : TE} {R : Int → Int → Hp → Prop} (h : ta σ H fun x H1 => tb σ H1 fun y H2 => ∃ i j, x = .int i ∧ y = .int j ∧ R i j H2) : tRg2 ta tb σ H R := h
theorem rd_rg1 {n : Int} {R : Int → Prop} (h : R n) : ∃ m, V.int n = V.int m ∧ R m := ⟨n, rfl, h⟩
theorem rd_rg2 {i j : Int} {R : Int → Int → Prop} (h : R i j) : ∃ m k, V.int i = V.int m ∧ V.int j = V.int k ∧ R m k := ⟨i, j, rfl, rfl, h⟩
theorem rd_qRg {a b : Int} (h : 0 ≤ a ∧ a ≤ 100000 ∧ 0 ≤ b ∧ b ≤ 100000) (q : ∀ p, H p = none → Q (.ref p) (upd H p (.lst (rgV a b)))) : qRg a b H Q := ⟨RgOk.of_le (by omega) (by omega) (by omega) (by omega), q⟩
/-! dicts whose keys are ints -/
def qDGet (x y : V) (H2 : Hp) (Q : VK) : Prop := ∃ a v, x = .ref a ∧ DGet H2 a y (some v) ∧ Q v H2
theorem rd_tDGet {td ty : TE} (h : td σ H fun x H1 => ty σ H1 fun y H2 => qDGet x y H2 Q) : tDGet td ty σ H Q := h
theorem rd_dget {a : Addr} {kvs : List (Key × V)} {i : Int} {v : V} (h : H a = some (.dK kvs)) (e : valV kvs (.inl i) = some v) (q : Q v H) : qDGet (.ref a) (.int i) H Q := ⟨a, v, rfl, by
  have := DGet.k (k := Sum.inl i) h
  rw [e] at this
  exact this, q⟩
def qDPut (x y v : V) (H3 : Hp) (R : Hp → Prop) : Prop := ∃ a H4, x = .ref a ∧ DPut H3 a y v H4 ∧ R H4
theorem rd_sDPut {td ty tv : TE} {D : Ends} (h : tv σ H fun v H1 => td σ H1 fun x H2 => ty σ H2 fun y H3 => qDPut x y v H3 fun H4 => D.nx σ H4) : sDPut td ty tv D σ H := h
theorem rd_dput {a : Addr} {kvs : List (Key × V)} {i : Int} {v : V} {R : Hp → Prop} (h : H a = some (.dK kvs)) (hl : kvs.length < 100000) (q : R (upd H a (.dK (putK kvs (.inl i) v)))) : qDPut (.ref a) (.int i) v H R :=
  ⟨a, _, rfl, DPut.k (k := Sum.inl i) h (szlt hl), q⟩
theorem putK_len {kvs : List (Key × V)} {k : Key} {v : V} : (putK kvs k v).length ≤ kvs.length + 1 := by
  unfold putK
  split
  · rw [List.length_map]; omega
  · rw [List.length_append]; exact Nat.le_refl _
theorem rd_dnew (h : ∀ p, H p = none → Q (.ref p) (upd H p (.dK []))) : tDNewK σ H Q := h
/-! unpacking a list of three -/
theorem pg_unl3 {i j l k : Nat} {x y z : Str} {p q r pos : Pos} (K : PySem.W.Frag) (hK : X.K = K) (hc : X.calm = true) (hN : X.N.Nodup) (hi : X.N[i]? = some x) (hx : Loc X.env.scope x) (hj : X.N[j]? = some y) (hy : Loc X.env.scope y) (hl : X.N[l]? = some z) (hz : Loc X.env.scope z)
    (h1 : X.fn x = true ∨ X.env.scope.names.lookup x = some .local := by first | exact .inl rfl | exact .inr rfl | assumption)
    (h2 : X.fn y = true ∨ X.env.scope.names.lookup y = some .local := by first | exact .inl rfl | exact .inr rfl | assumption)
    (h3 : X.fn z = true ∨ X.env.scope.names.lookup z = some .local := by first | exact .inl rfl | exact .inr rfl | assumption) :
    PG X (.Tuple [.Name x p, .Name y q, .Name z r] k pos) (gUnl K 3 (gCons (gName i) (gCons (gName j) (gCons (gName l) gNil)))) := by
  subst hK
  exact pg_unl hc (pgs_cons (pg_name hN hi hx h1) (pgs_cons (pg_name hN hj hy h2) (pgs_cons (pg_name hN hl hz h3) pgs_nil)))
theorem rd_unl3 {a : Addr} {u v w : V} {i j l : Nat} {R : St → Hp → Prop} (h : SqL K H a [u, v, w]) (q : R (((σ.set i (some u)).set j (some v)).set l (some w)) H) : gUnl K 3 (gCons (gName i) (gCons (gName j) (gCons (gName l) gNil))) (.ref a) σ H R :=
  ⟨a, _, rfl, h, rfl, _, _, rfl, _, _, rfl, _, _, rfl, rfl, q⟩
/-! max of a list of ints -/
theorem rd_max {p : Addr} {ns : List Int} {m : Int} (h : SqL K H p (ns.map V.int)) (hm : m ∈ ns) (hle : ∀ y ∈ ns, y ≤ m) (q : Q (.int m) H) : rMax K [.ref p] H Q :=
  ⟨p, ns, rfl, h, List.length_pos_of_mem hm, fun m2 hm2 hle2 => by
    have e : m2 = m := Int.le_antisymm (hle m2 hm2) (hle2 m hm)
    rw [e]
    exact q⟩
/-! x in a list of ints -/
theorem inV_int {x : Int} : ∀ ns : List Int, inV (.int x) (ns.map V.int) = decide (x ∈ ns)
  | [] => rfl
  | n :: ns => by
    show (eqV (.int n) (.int x) || inV (.int x) (ns.map V.int)) = _
    rw [inV_int ns]
    have e : eqV (.int n) (.int x) = decide (n = x) := by
      first | rfl | (unfold eqV; simp) | simp [eqV]
    rw [e]
    by_cases h : x = n
    · subst h; simp
    · have h2 : ¬ n = x := fun z => h z.symm
      simp [h, h2]
theorem flat_ints (ns : List Int) : (ns.map V.int).all flatV = true := by
  rw [List.all_eq_true]
  intro v hv
  obtain ⟨n, _, rfl⟩ := List.mem_map.mp hv
  rfl
theorem rd_inI {p : Addr} {x : Int} {ns : List Int} (h : SqL K H p (ns.map V.int)) (q : Q (.bl (decide (x ∈ ns))) H) : rIn K false (.int x) (.ref p) H Q := ⟨p, _, rfl, .inl h, rfl, flat_ints ns, by rw [if_neg Bool.false_ne_true, inV_int]; exact q⟩
theorem rd_notInI {p : Addr} {x : Int} {ns : List Int} (h : SqL K H p (ns.map V.int)) (q : Q (.bl (!decide (x ∈ ns))) H) : rIn K true (.int x) (.ref p) H Q := ⟨p, _, rfl, .inl h, rfl, flat_ints ns, by rw [if_pos rfl, inV_int]; exact q⟩
theorem rd_chain {r r' : R2} {ta tb tc : TE} (h : ta σ H fun x H1 => tb σ H1 fun y H2 => r x y H2 fun z H3 => ∃ k, z = .bl k ∧ (if k = true then tc σ H3 fun w' H4 => r' y w' H4 Q else Q (.bl false) H3)) : tChain r r' ta tb tc σ H Q := h
theorem rd_g2 {T : Addr} {u v : V} {i j : Nat} {R : St → Hp → Prop} (h : SqT K H T [u, v]) (q : R ((σ.set i (some u)).set j (some v)) H) : gTup K 2 (gCons (gName i) (gCons (gName j) gNil)) (.ref T) σ H R :=
  ⟨T, _, rfl, h, rfl, _, _, rfl, _, _, rfl, rfl, q⟩
theorem at_int {hs : List Int} {i : Int} (h0 : 0 ≤ i) (h : i < (hs.length : Int)) : atI (hs.map V.int) i = some (.int (hs.getD i.toNat 0)) := by
  refine at_of h0 ?_
  have h2 : i.toNat < hs.length := by omega
  rw [List.getElem?_map, List.getElem?_eq_getElem h2, List.getD_eq_getElem?_getD, List.getElem?_eq_getElem h2]
  rfl
theorem forT {α : Type} (ls : List α) (e : α → V) {p : Addr} {j : Nat} {tb : TS} {nx : St → Hp → Prop} {rt : VK} {bk ct : St → Hp → Prop} (Pv : Nat → St → Hp → Prop) (h0 : Pv 0 σ H) (hG : ∀ i σ H, i ≤ ls.length → Pv i σ H → SqT K H p (ls.map e))
    (hs : ∀ i y σ H, ls[i]? = some y → Pv i σ H → tb ⟨Pv (i + 1), rt, nx, Pv (i + 1)⟩ (σ.set j (some (e y))) H) (hd : ∀ σ H, Pv ls.length σ H → nx σ H) : ForG (Itt K p) (gName j) tb ⟨nx, rt, bk, ct⟩ σ H := by
  have w := walk_tup (K := K) (a := p) (xs := ls.map e)
  rw [List.length_map] at w
  refine for_map ls e w (fun i H x H' hi y => ⟨y.1, ?_⟩) Pv h0 hG hs hd
  have h2 := y.2
  rw [List.getElem?_map] at h2
  cases h3 : ls[i]? with
  | none => rw [h3] at h2; cases h2
  | some z =>
    rw [h3] at h2
    exact ⟨z, rfl, (Option.some.inj h2).symm⟩
end
end My
namespace My
open PySem PySem.Spec L2 SX
open PyProof.Rows hiding St
def top (i : Nat) : Stmt := PySem.Challenge.pw_wordfolds_k45_whole_periods_and_borders.main.body.getD i (.Pass ⟨0, 0, 0, 0⟩)
abbrev s_is_number : Stmt := top 6
abbrev s_check_word : Stmt := top 10
abbrev s_check_letters : Stmt := top 12
abbrev s_check_filled : Stmt := top 13
abbrev s_border_lengths : Stmt := top 14
abbrev s_borders : Stmt := top 15
abbrev s_periods : Stmt := top 16
abbrev s_root_of : Stmt := top 17
abbrev s_with_periods : Stmt := top 18
abbrev s__law_draw : Stmt := top 20
abbrev s__law_some : Stmt := top 21
abbrev s__law_hand : Stmt := top 22
abbrev s__law_word : Stmt := top 23
abbrev s__law_is : Stmt := top 24
abbrev s__law_divisor : Stmt := top 25
abbrev s__law_classes : Stmt := top 26
abbrev s__law_two_periods : Stmt := top 27
abbrev s_law : Stmt := top 28
abbrev N_is_number : List Str := ["thing"]
theorem sc_is_number : FnScope N_is_number ["thing"] (defScope s_is_number) := ⟨rfl, rfl, rfl, by decide +kernel, rfl, by decide +kernel, by decide +kernel⟩
abbrev N_check_word : List Str := ["word", "letters", "most", "one"]
theorem sc_check_word : FnScope N_check_word ["word", "letters", "most"] (defScope s_check_word) := ⟨rfl, rfl, rfl, by decide +kernel, rfl, by decide +kernel, by decide +kernel⟩
abbrev N_check_letters : List Str := ["word"]
theorem sc_check_letters : FnScope N_check_letters ["word"] (defScope s_check_letters) := ⟨rfl, rfl, rfl, by decide +kernel, rfl, by decide +kernel, by decide +kernel⟩
abbrev N_check_filled : List Str := ["word"]
theorem sc_check_filled : FnScope N_check_filled ["word"] (defScope s_check_filled) := ⟨rfl, rfl, rfl, by decide +kernel, rfl, by decide +kernel, by decide +kernel⟩
abbrev N_border_lengths : List Str := ["word", "found", "sign", "here"]
theorem sc_border_lengths : FnScope N_border_lengths ["word"] (defScope s_border_lengths) := ⟨rfl, rfl, rfl, by decide +kernel, rfl, by decide +kernel, by decide +kernel⟩
abbrev N_borders : List Str := ["word", "lengths", "found", "here"]
theorem sc_borders : FnScope N_borders ["word"] (defScope s_borders) := ⟨rfl, rfl, rfl, by decide +kernel, rfl, by decide +kernel, by decide +kernel⟩
abbrev N_periods : List Str := ["word", "length"]
theorem sc_periods : FnScope N_periods ["word"] (defScope s_periods) := ⟨rfl, rfl, rfl, by decide +kernel, rfl, by decide +kernel, by decide +kernel⟩
abbrev N_root_of : List Str := ["word", "period"]
theorem sc_root_of : FnScope N_root_of ["word"] (defScope s_root_of) := ⟨rfl, rfl, rfl, by decide +kernel, rfl, by decide +kernel, by decide +kernel⟩
abbrev N_with_periods : List Str := ["length", "first", "second", "number", "heads", "period", "place", "one", "other", "head"]
theorem sc_with_periods : FnScope N_with_periods ["length", "first", "second"] (defScope s_with_periods) := ⟨rfl, rfl, rfl, by decide +kernel, rfl, by decide +kernel, by decide +kernel⟩
abbrev N__law_draw : List Str := ["hand", "limit", "cell", "digit", "number"]
theorem sc__law_draw : FnScope N__law_draw ["hand", "limit"] (defScope s__law_draw) := ⟨rfl, rfl, rfl, by decide +kernel, rfl, by decide +kernel, by decide +kernel⟩
abbrev N__law_some : List Str := ["hand", "things"]
theorem sc__law_some : FnScope N__law_some ["hand", "things"] (defScope s__law_some) := ⟨rfl, rfl, rfl, by decide +kernel, rfl, by decide +kernel, by decide +kernel⟩
abbrev N__law_hand : List Str := ["script", "cells", "cell"]
theorem sc__law_hand : FnScope N__law_hand ["script"] (defScope s__law_hand) := ⟨rfl, rfl, rfl, by decide +kernel, rfl, by decide +kernel, by decide +kernel⟩
abbrev N__law_word : List Str := ["hand", "letters", "most", "turn"]
theorem sc__law_word : FnScope N__law_word ["hand", "letters", "most"] (defScope s__law_word) := ⟨rfl, rfl, rfl, by decide +kernel, rfl, by decide +kernel, by decide +kernel⟩
abbrev N__law_is : List Str := ["shown", "due", "one", "other"]
theorem sc__law_is : FnScope N__law_is ["shown", "due"] (defScope s__law_is) := ⟨rfl, rfl, rfl, by decide +kernel, rfl, by decide +kernel, by decide +kernel⟩
abbrev N__law_divisor : List Str := ["one", "other"]
theorem sc__law_divisor : FnScope N__law_divisor ["one", "other"] (defScope s__law_divisor) := ⟨rfl, rfl, rfl, by decide +kernel, rfl, by decide +kernel, by decide +kernel⟩
abbrev N__law_classes : List Str := ["length", "first", "second", "found", "place", "period", "one", "two", "part"]
theorem sc__law_classes : FnScope N__law_classes ["length", "first", "second"] (defScope s__law_classes) := ⟨rfl, rfl, rfl, by decide +kernel, rfl, by decide +kernel, by decide +kernel⟩
abbrev N__law_two_periods : List Str := ["hand", "length", "first", "second", "signs", "part", "sign", "place"]
theorem sc__law_two_periods : FnScope N__law_two_periods ["hand", "length", "first", "second"] (defScope s__law_two_periods) := ⟨rfl, rfl, rfl, by decide +kernel, rfl, by decide +kernel, by decide +kernel⟩
abbrev N_law : List Str := ["script", "hand", "turn", "word", "due", "length", "some", "rows", "count", "many", "first", "second", "part", "both", "found", "period", "number", "one", "two"]
theorem sc_law : FnScope N_law ["script"] (defScope s_law) := ⟨rfl, rfl, rfl, by decide +kernel, rfl, by decide +kernel, by decide +kernel⟩
structure Txt (K : PySem.W.Frag) (mg : Str → Option Value) : Prop where
  n_int : mg "int" = none
  n_isinstance : mg "isinstance" = none
  n_bool : mg "bool" = none
  n_str : mg "str" = none
  n_len : mg "len" = none
  n_sorted : mg "sorted" = none
  n_list : mg "list" = none
  n_range : mg "range" = none
  n_set : mg "set" = none
  n_abs : mg "abs" = none
  n_tuple : mg "tuple" = none
  n_zip : mg "zip" = none
  n_all : mg "all" = none
  n_max : mg "max" = none
  c_SIGNS : ∃ u, mg "SIGNS" = some u ∧ RelV (.str (S [97, 98, 99, 100])) u
  c_MOST_SIGNS : ∃ u, mg "MOST_SIGNS" = some u ∧ RelV (.int 300) u
/-- the hand at h: its cells at c -/
def HandAt (H : Hp) (h c : Addr) : Prop := ∃ (cs : List Int) (i z m t : Int), H h = some (.lst [.ref c, .int i, .int z, .int m, .int t]) ∧ H c = some (.lst (cs.map V.int)) ∧ (∀ x ∈ cs, 0 ≤ x) ∧ 0 ≤ i ∧ 0 ≤ z ∧ 0 ≤ m ∧ m < 2 ^ 31 ∧ 0 ≤ t
def sp__law_draw (_ : PySem.W.Frag) : Sp := fun vs H Q _ => ∃ (h c : Addr) (n : Int), vs = [.ref h, .int n] ∧ HandAt H h c ∧ 0 < n ∧ n < 1000000 ∧ ∀ (d : Int) (H' : Hp), 0 ≤ d → d < n → HandAt H' h c → ExB h H H' → Q (.int d) H'
def sp__law_some (_ : PySem.W.Frag) : Sp := fun vs H Q _ => ∃ (h c q : Addr) (l : List Nat), vs = [.ref h, .ref q] ∧ HandAt H h c ∧ H q = some (.lst (signs l)) ∧ q ≠ h ∧ 0 < l.length ∧ l.length < 1000 ∧ ∀ (d : Nat) (H' : Hp), d ∈ l → HandAt H' h c → ExB h H H' → Q (.str (S [d])) H'
def sp__law_hand (K : PySem.W.Frag) : Sp := fun vs H Q _ => ∃ (a : Addr) (ns : List Int), vs = [.ref a] ∧ SqL K H a (ns.map V.int) ∧ ∀ (h c : Addr) (H' : Hp), HandAt H' h c → Same H H' → Q (.ref h) H'
/-- a word over the first n letters -/
def Wd (n : Int) (l : List Nat) : Prop := ∀ c ∈ l, 97 ≤ c ∧ (c : Int) < 97 + n
def sp__law_word (_ : PySem.W.Frag) : Sp := fun vs H Q _ => ∃ (h c : Addr) (n m : Int), vs = [.ref h, .int n, .int m] ∧ HandAt H h c ∧ 1 ≤ n ∧ n ≤ 4 ∧ 0 ≤ m ∧ m ≤ 100 ∧ ∀ (l : List Nat) (H' : Hp), Wd n l → (l.length : Int) ≤ m → HandAt H' h c → ExB h H H' → Q (.str (S l)) H'

open Lyn (sg rootN)
def spUnit (P : List V → Prop) : Sp := fun vs H Q _ => P vs ∧ ∀ H', Same H H' → Q .non H'
def sp_check_word (_ : PySem.W.Frag) : Sp := fun vs H Q _ => ∃ (l : List Nat) (n m : Int), vs = [.str (S l), .int n, .int m] ∧ Wd n l ∧ 0 ≤ n ∧ n ≤ 4 ∧ (l.length : Int) ≤ m ∧ m ≤ 1000 ∧ ∀ H', Same H H' → Q .non H'
def sp_check_letters (_ : PySem.W.Frag) : Sp := fun vs H Q _ => ∃ (l : List Nat), vs = [.str (S l)] ∧ Wd 4 l ∧ l.length ≤ 300 ∧ ∀ H', Same H H' → Q .non H'
def sp_check_filled (_ : PySem.W.Frag) : Sp := fun vs H Q _ => ∃ (l : List Nat), vs = [.str (S l)] ∧ Wd 4 l ∧ l.length ≤ 300 ∧ l ≠ [] ∧ ∀ H', Same H H' → Q .non H'
/-- the lengths that border_lengths tells -/
def bLen (l : List Nat) : List Int := (List.range l.length).map fun k => ((Per.lb (sg l) (k + 1) : Nat) : Int)
def sp_border_lengths (_ : PySem.W.Frag) : Sp := fun vs H Q _ => ∃ (l : List Nat), vs = [.str (S l)] ∧ l ≠ [] ∧ l.length ≤ 300 ∧ ∀ p H', H p = none → Same H H' → H' p = some (.lst ((bLen l).map V.int)) → Q (.ref p) H'
def bordL (l : List Nat) : List Int := (Per.bl (sg l) l.length).map fun (b : Nat) => (b : Int)
def sp_borders (_ : PySem.W.Frag) : Sp := fun vs H Q _ => ∃ (l : List Nat), vs = [.str (S l)] ∧ Wd 4 l ∧ l.length ≤ 300 ∧ ∀ p H', H p = none → Same H H' → H' p = some (.lst ((bordL l).map V.int)) → Q (.ref p) H'
def perL (l : List Nat) : List Int := (Per.pl (sg l) l.length).map fun (b : Nat) => (b : Int)
def sp_periods (_ : PySem.W.Frag) : Sp := fun vs H Q _ => ∃ (l : List Nat), vs = [.str (S l)] ∧ Wd 4 l ∧ l.length ≤ 300 ∧ ∀ p H', H p = none → Same H H' → H' p = some (.lst ((perL l).map V.int)) → Q (.ref p) H'
def sp_root_of (_ : PySem.W.Frag) : Sp := fun vs H Q _ => ∃ (l : List Nat), vs = [.str (S l)] ∧ Wd 4 l ∧ l.length ≤ 300 ∧ l ≠ [] ∧ ∀ p H', H p = none → Same H H' → H' p = some (.tup [.str (S (l.take (rootN l))), .int ((l.length / rootN l : Nat) : Int)]) → Q (.ref p) H'
/-- border_lengths' list behind n signs -/
def bV (l : List Nat) (n : Nat) : List V := (List.range n).map fun k => V.int ((Per.lb (sg l) (k + 1) : Nat) : Int)
theorem bV_len (l : List Nat) (n : Nat) : (bV l n).length = n := by unfold bV; rw [List.length_map, List.length_range]
theorem bV_succ (l : List Nat) (n : Nat) : bV l (n + 1) = bV l n ++ [V.int ((Per.lb (sg l) (n + 1) : Nat) : Int)] := by unfold bV; rw [List.range_succ, List.map_append]; rfl
theorem bV_at (l : List Nat) {n k : Nat} (h : k < n) : (bV l n)[k]? = some (.int ((Per.lb (sg l) (k + 1) : Nat) : Int)) := by unfold bV; simp [h]
theorem bV_all (l : List Nat) : (bLen l).map V.int = bV l l.length := by unfold bLen bV; rw [List.map_map]; rfl
theorem sg_at {l : List Nat} {i : Nat} (h : i < l.length) : l[i]? = some (sg l i) := by unfold sg; simp [h]

/-- a value that is no container -/
def Leaf (x : V) : Prop := (∃ i : Int, x = .int i) ∨ (∃ b : Bool, x = .bl b) ∨ (∃ l : List Nat, x = .str (S l)) ∨ x = .non
def sp__law_is_leaf (_ : PySem.W.Frag) : Sp := fun vs H Q _ => ∃ x, vs = [x, x] ∧ Leaf x ∧ ∀ H', Same H H' → Q (.bl true) H'
def sp__law_is (_ : PySem.W.Frag) : Sp := fun vs H Q _ => ∃ x y, vs = [x, y] ∧ ((x = y ∧ Leaf x) ∨ ∃ (p q : Addr) (xs : List V), x = .ref p ∧ y = .ref q ∧ (∀ z ∈ xs, Leaf z) ∧ xs.length ≤ 50000 ∧ ((H p = some (.lst xs) ∧ H q = some (.lst xs)) ∨ (H p = some (.tup xs) ∧ H q = some (.tup xs)))) ∧ ∀ H', Same H H' → Q (.bl true) H'

def sp_is_number (_ : PySem.W.Frag) : Sp := fun vs H Q _ => ∃ i : Int, vs = [.int i] ∧ ∀ H', Same H H' → Q (.bl true) H'
/-- with_periods: one place joined -/
def wpS (per : Nat) (hs : List Int) (pl : Nat) : List Int := hs.map fun h => if h = hs.getD pl 0 then hs.getD (pl - per) 0 else h
def wpP (n : Nat) (hs : List Int) (per : Nat) (k : Nat) : List Int := (List.range k).foldl (fun hs i => wpS per hs (per + i)) hs
def wpH (n p q : Nat) : List Int := wpP n (wpP n ((List.range n).map fun i : Nat => (i : Int)) p (n - p)) q (n - q)
def wpC (n p q : Nat) : Nat := (firstMet (fun i => (wpH n p q).getD i 0) (wpH n p q).length).length
def sp_with_periods (_ : PySem.W.Frag) : Sp := fun vs H Q _ => ∃ n p q : Nat, vs = [.int (n : Int), .int (p : Int), .int (q : Int)] ∧ (1 ≤ n ∧ n ≤ 300) ∧ (1 ≤ p ∧ p ≤ 300) ∧ (1 ≤ q ∧ q ≤ 300) ∧ ∀ H', Same H H' → Q (.int (wpC n p q : Nat)) H'
def sp__law_divisor (_ : PySem.W.Frag) : Sp := fun vs H Q _ => ∃ p q : Nat, vs = [.int (p : Int), .int (q : Int)] ∧ ∀ H', Same H H' → Q (.int (Nat.gcd p q : Nat)) H'
/-- _law_classes: the first part with i; one pair joined -/
def clF (i : Nat) (ps : List (List Nat)) : List Nat := (ps.filter fun part => decide (i ∈ part)).headD []
def clS (per : Nat) (ps : List (List Nat)) (i : Nat) : List (List Nat) := if clF i ps = clF (i + per) ps then ps else (ps.filter fun part => !(decide (clF i ps = part) || decide (clF (i + per) ps = part))) ++ [clF i ps ++ clF (i + per) ps]
def clP (ps : List (List Nat)) (per k : Nat) : List (List Nat) := (List.range k).foldl (clS per) ps
def clA (n p q : Nat) : List (List Nat) := clP (clP ((List.range n).map fun i => [i]) p (n - p)) q (n - q)
def toI (l : List Nat) : List Int := l.map fun i : Nat => (i : Int)
/-- the list's items are lists of toI -/
def PtsAt (H : Hp) (a : Addr) (ps : List (List Nat)) : Prop := ∃ ls : List (Addr × List Nat), ls.map Prod.snd = ps ∧ H a = some (.lst (ls.map fun y => V.ref y.1)) ∧ ∀ y ∈ ls, H y.1 = some (.lst ((toI y.2).map V.int))
def sp__law_classes (_ : PySem.W.Frag) : Sp := fun vs H Q _ => ∃ n p q : Nat, vs = [.int (n : Int), .int (p : Int), .int (q : Int)] ∧ n ≤ 100 ∧ p ≤ 100 ∧ q ≤ 100 ∧ ∀ a H', H a = none → Same H H' → PtsAt H' a (clA n p q) → Q (.ref a) H'
/-- the parts cover the places, none twice -/
def PtsOk (n : Nat) (ps : List (List Nat)) : Prop := ps.length ≤ 100 ∧ (∀ part ∈ ps, part.length ≤ 100) ∧ (∀ i, i < n → ∃ part ∈ ps, i ∈ part) ∧ ps.Pairwise fun a b => ∀ i ∈ a, i ∉ b
def sp__law_two_periods (_ : PySem.W.Frag) : Sp := fun vs H Q _ => ∃ (h c : Addr) (n p q : Nat), vs = [.ref h, .int (n : Int), .int (p : Int), .int (q : Int)] ∧ HandAt H h c ∧ n ≤ 100 ∧ p ≤ 100 ∧ q ≤ 100 ∧ PtsOk n (clA n p q) ∧
  ∀ (l : List Nat) (H' : Hp), l.length = n → Wd 2 l → (∀ part ∈ clA n p q, ∀ i ∈ part, ∀ j ∈ part, i < n → j < n → sg l i = sg l j) → HandAt H' h c → ExB h H H' → Q (.str (S l)) H'
def sp_law (K : PySem.W.Frag) : Sp := fun vs H Q _ => ∃ (a : Addr) (ns : List Int), vs = [.ref a] ∧ SqL K H a (ns.map V.int) ∧ ∀ H', Q (.bl true) H'
end My
namespace My
open PySem PySem.Spec L2 SX
open PyProof.Rows hiding St
open Lyn (sg rootN)
local macro_rules | `(tactic| walk_at "kb") => `(tactic| first | exact kb_str_str | exact kb_str_int | exact kb_str_bool | exact kb_str_list | exact kb_str_tuple | exact kb_int_str | exact kb_int_int | exact kb_int_bool | exact kb_int_list | exact kb_int_tuple | exact kb_bool_str | exact kb_bool_int | exact kb_bool_bool | exact kb_bool_list | exact kb_bool_tuple | exact kb_list_str | exact kb_list_int | exact kb_list_bool | exact kb_list_list | exact kb_list_tuple | exact kb_tuple_str | exact kb_tuple_int | exact kb_tuple_bool | exact kb_tuple_list | exact kb_tuple_tuple | exact kb_NoneType_str | exact kb_NoneType_int | exact kb_NoneType_bool | exact kb_NoneType_list | exact kb_NoneType_tuple)
local macro_rules | `(tactic| walk_at "hp") => `(tactic| first | assumption | exact upd_same | (refine (upd_ne (by first | assumption | (apply Ne.symm; assumption))).trans ?_; walk_at "hp"))
local macro_rules | `(tactic| walk_at "sq") => `(tactic| first | assumption | exact SqL.of (by walk_at "hp"))
local macro_rules | `(tactic| walk_at "sqt") => `(tactic| first | assumption | exact SqT.of (by walk_at "hp"))
local macro_rules | `(tactic| walk_at "ar") => `(tactic| first | omega | (dsimp only; omega) | (unfold CMul; omega) | (unfold CDiv; omega) | (unfold CPow; refine ⟨?_, ?_, ?_⟩ <;> decide) | (simp only [List.length_cons, List.length_nil]; decide))
local macro_rules | `(tactic| walk_at "rd") => `(tactic| first
  | with_reducible refine rd_seq ?_
  | with_reducible refine rd_asg ?_
  | with_reducible refine rd_if ?_
  | with_reducible refine rd_ret ?_
  | with_reducible refine rd_drop ?_
  | with_reducible refine rd_name ?_
  | with_reducible refine rd_sub ?_
  | ((with_reducible refine' rd_var ?e ?_); (case e => exact rfl))
  | with_reducible refine rd_c ?_
  | with_reducible refine rd_op ?_
  | with_reducible refine rd_un ?_
  | with_reducible refine rd_I0 ?_
  | ((with_reducible refine' rd_I ?c ?_); (case c => walk_at "ar"))
  | with_reducible refine rd_U ?_
  | with_reducible refine rd_eqI ?_
  | with_reducible refine rd_neI ?_
  | with_reducible refine rd_eqS ?_
  | with_reducible refine rd_neS ?_
  | with_reducible refine rd_eqB ?_
  | with_reducible refine rd_neB ?_
  | with_reducible refine rd_test ?_
  | with_reducible refine rd_B ?_
  | with_reducible refine rd_and ?_
  | with_reducible refine rd_or ?_
  | with_reducible refine rd_not ?_
  | with_reducible refine rd_andV ?_
  | with_reducible refine rd_orV ?_
  | with_reducible refine rd_notV ?_
  | with_reducible refine rd_ifE ?_
  | with_reducible refine rd_isN ?_
  | with_reducible refine rd_notN ?_
  | with_reducible refine rd_cons ?_
  | with_reducible refine rd_nil ?_
  | with_reducible refine rd_lst ?_
  | with_reducible refine rd_tup ?_
  | with_reducible refine rd_CB ?_
  | with_reducible refine rd_call ?_
  | with_reducible refine rd_sl ?_
  | with_reducible refine rd_part ?_
  | with_reducible refine rd_nopart ?_
  | with_reducible refine rd_par ?_
  | with_reducible refine rd_two ?_
  | with_reducible refine rd_next ?_
  | with_reducible refine rd_retN ?_
  | with_reducible refine rd_bool ?_
  | with_reducible refine rd_int ?_
  | with_reducible refine rd_intI ?_
  | with_reducible refine rd_intB ?_
  | with_reducible refine rd_ltS ?_
  | with_reducible refine rd_leS ?_
  | with_reducible refine rd_gtS ?_
  | with_reducible refine rd_geS ?_
  | with_reducible refine rd_inC ?_
  | with_reducible refine rd_notInC ?_
  | with_reducible refine rd_abs ?_
  | with_reducible refine rd_max2 ?_
  | with_reducible refine rd_min2 ?_
  | with_reducible refine rd_M1 ?_
  | with_reducible refine rd_isStr ?_
  | ((with_reducible refine' rd_len ?b ?_); (case b => (simp only [List.length_cons, List.length_nil]; decide)))
  | ((with_reducible refine' rd_listS ?b ?_); (case b => first | (simp only [List.length_take, List.length_cons, List.length_nil]; omega) | omega))
  | ((with_reducible refine' rd_isi ?ty ?h ?_); (case ty => first | exact ty_str | exact ty_int | exact ty_bl | exact ty_non | exact ty_lst (by walk_at "hp") | exact ty_tup (by walk_at "hp")); (case h => walk_at "kb"))
  | with_reducible refine rd_lc ?_
  | with_reducible refine rd_for ?_
  | with_reducible refine rd_iList ?_
  | with_reducible refine rd_iTup ?_
  | with_reducible refine rd_iRng1 ?_
  | with_reducible refine rd_iRng2 ?_
  | with_reducible refine rd_iRng3 ?_
  | with_reducible refine rd_iStr ?_
  | with_reducible refine rd_qIs ?_
  | with_reducible refine rd_whb ?_
  | ((with_reducible refine' rd_qIl ?sq ?_); (case sq => walk_at "sq"))
  | ((with_reducible refine' rd_qItu ?sq ?_); (case sq => walk_at "sqt"))
  | ((with_reducible refine' rd_qIr1 ?b1 ?b2 ?_); (case b1 => walk_at "ar"); (case b2 => walk_at "ar"))
  | ((with_reducible refine' rd_qIr2 ?b1 ?b2 ?b3 ?b4 ?_); (case b1 => walk_at "ar"); (case b2 => walk_at "ar"); (case b3 => walk_at "ar"); (case b4 => walk_at "ar"))
  | ((with_reducible refine' rd_qIr3 ?b1 ?b2 ?b3 ?b4 ?_); (case b1 => walk_at "ar"); (case b2 => walk_at "ar"); (case b3 => walk_at "ar"); (case b4 => walk_at "ar"))
  | ((with_reducible refine' rd_mulS ?b1 ?b2 ?b3 ?_); (case b1 => walk_at "ar"); (case b2 => walk_at "ar"); (case b3 => walk_at "ar"))
  | ((with_reducible refine' rd_slS_to ?b1 ?b2 ?_); (case b1 => walk_at "ar"); (case b2 => walk_at "ar"))
  | ((with_reducible refine' rd_slS_from ?b1 ?b2 ?_); (case b1 => walk_at "ar"); (case b2 => walk_at "ar"))
  | ((with_reducible refine' rd_slS_mid ?b1 ?b2 ?b3 ?b4 ?_); (case b1 => walk_at "ar"); (case b2 => walk_at "ar"); (case b3 => walk_at "ar"); (case b4 => walk_at "ar"))
  | ((with_reducible refine' rd_slL ?sq ?_); (case sq => walk_at "sq"))
  | with_reducible refine rd_true ?_
  | with_reducible refine rd_false ?_
  | with_reducible refine rd_nt ?_
  | with_reducible refine rd_nf ?_
  | ((with_reducible refine' rd_decT ?h ?_); (case h => omega))
  | ((with_reducible refine' rd_decF ?h ?_); (case h => omega))
  | ((with_reducible refine' rd_ndecT ?h ?_); (case h => omega))
  | ((with_reducible refine' rd_ndecF ?h ?_); (case h => omega))
  | ((with_reducible refine' rd_evT ?h ?_); (case h => first | exact rfl | (simp; done)))
  | ((with_reducible refine' rd_evF ?h ?_); (case h => first | exact rfl | (simp; done)))
  | ((with_reducible refine' rd_ixL ?sq ?a1 ?_); (case sq => walk_at "sq"); (case a1 => first | exact rfl | exact at_of (by omega) (by assumption)))
  | ((with_reducible refine' rd_ixT ?sq ?a1 ?_); (case sq => walk_at "sqt"); (case a1 => first | exact rfl | exact at_of (by omega) (by assumption)))
  | ((with_reducible refine' rd_lenL ?sq ?_); (case sq => walk_at "sq"))
  | ((with_reducible refine' rd_lenT ?sq ?_); (case sq => walk_at "sqt"))
  | ((with_reducible refine' rd_setL ?h ?j ?_); (case h => walk_at "hp"); (case j => exact rfl); (with_reducible refine id ?_))
  | ((with_reducible refine' rd_strlen ?l ?_); (case l => walk_at "ar"))
  | ((with_reducible refine' rd_cat ?l ?_); (case l => walk_at "ar")))
local macro_rules | `(tactic| walk_at "go") => `(tactic| ((try dsimp only); (repeat (walk_at "rd"))))
local macro_rules | `(tactic| walk_at "rd") => `(tactic| first
  | with_reducible refine rd_lstRg ?_
  | with_reducible refine rd_tRg1 ?_
  | with_reducible refine rd_tRg2 ?_
  | with_reducible refine rd_rg1 ?_
  | with_reducible refine rd_rg2 ?_
  | ((with_reducible refine' rd_qRg ?b ?_); (case b => refine ⟨?_, ?_, ?_, ?_⟩ <;> omega))
  | with_reducible refine rd_tDGet ?_
  | with_reducible refine rd_sDPut ?_
  | with_reducible refine rd_dnew ?_
  | with_reducible refine rd_iZipS ?_
  | with_reducible refine rd_zipS ?_
  | ((with_reducible refine' rd_inI ?sq ?_); (case sq => walk_at "sq"))
  | ((with_reducible refine' rd_notInI ?sq ?_); (case sq => walk_at "sq"))
  | with_reducible refine rd_chain ?_)

section
variable {P : Program} {w : World} {K : PySem.W.Frag} {mg : Str → Option Value} {base : Heap}
theorem cells_ne {H : Hp} {h c : Addr} {cs : List Int} {i z m t : Int} (h1 : H h = some (.lst [.ref c, .int i, .int z, .int m, .int t])) (h2 : H c = some (.lst (cs.map V.int))) : c ≠ h := ne_of h2 h1 (by
    intro e
    have e2 := congrArg (fun o => match o with | HO.lst xs => xs.head? | _ => none) e
    cases cs <;> simp at e2)
theorem get_cell {cs : List Int} {i : Int} (h0 : 0 ≤ i) (h : i < (cs.map V.int).length) : ∃ x, x ∈ cs ∧ (cs.map V.int)[i.toNat]? = some (.int x) := by
  have hl : i.toNat < cs.length := by rw [List.length_map] at h; omega
  exact ⟨cs[i.toNat], List.getElem_mem hl, by simp [hl]⟩
theorem _root_.My.HandAt.ne {H : Hp} {h c p : Addr} (A : HandAt H h c) (n : H p = none) : p ≠ h := by
  obtain ⟨cs, i, z, m, t, h1, _⟩ := A
  exact (ne_of_none h1 n).symm
theorem _root_.My.HandAt.keep {H H' : Hp} {h c : Addr} (A : HandAt H h c) (e : Same H H') : HandAt H' h c := by
  obtain ⟨cs, i, z, m, t, h1, h2, r⟩ := A
  exact ⟨cs, i, z, m, t, e _ _ h1, e _ _ h2, r⟩
theorem _root_.My.HandAt.new {H : Hp} {h c p : Addr} {o : HO} (A : HandAt H h c) (n : H p = none) : HandAt (L2.upd H p o) h c := A.keep (Same.new n)
theorem _root_.My.ExB.back {h D : Addr} {H H' : Hp} (e : ExB h H H') (n : H' D = none) (hD : D ≠ h) : H D = none := by
  cases q : H D with
  | none => rfl
  | some o => rw [e _ _ hD q] at n; cases n
theorem _root_.My.HandAt.neC {H : Hp} {h c p : Addr} (A : HandAt H h c) (n : H p = none) : p ≠ c := by
  obtain ⟨cs, i, z, m, t, _, h1, _⟩ := A
  exact (ne_of_none h1 n).symm
theorem _root_.My.HandAt.upd {H : Hp} {h c D : Addr} {o : HO} (A : HandAt H h c) (hD : D ≠ h) (hc : D ≠ c) : HandAt (L2.upd H D o) h c := by
  obtain ⟨cs, i, z, m, t, h1, h2, r⟩ := A
  exact ⟨cs, i, z, m, t, by rw [upd_ne hD.symm]; exact h1, by rw [upd_ne hc.symm]; exact h2, r⟩
theorem ok__law_draw {f : Addr} {fd : FuncData} (F : Fun K "_law_draw" "_law_draw" s__law_draw f fd) (T : Txt K mg) : FnOk P w K mg base CX0 1 f fd ["hand", "limit"] (sp__law_draw K) := by
  refine F.ok sc__law_draw (fun vs H Q E h => by repeat (first | (obtain ⟨rfl, _⟩ := h; rfl) | obtain ⟨_, h⟩ := h)) (fun cdv A outer s H vs Q E hr h => ?_)
  refine ⟨_, (C8.pss_cut (ps_if (PW.pt (pw_and (pt_cmpR op_eq (pe_ix ix_list (pv 0) pe_int (fun _ _ => rfl)) pe_int (nomark _)) (pw_and1 (pt_cmpR op_lt (pe_ix ix_list (pv 0) pe_int (fun _ _ => rfl)) (pe_callB cq_len rfl T.n_len boot_len (pa_cons (pe_ix ix_list (pv 0) pe_int (fun _ _ => rfl)) pa_nil)) (nomark _))))) (pss_cons (ps_set (i := 2) sc__law_draw.nd rfl (Or.inl rfl) (pe_ix ix_list (pe_ix ix_list (pv 0) pe_int (fun _ _ => rfl)) (pe_ix ix_list (pv 0) pe_int (fun _ _ => rfl)) (fun _ _ => rfl)))
  (pss_cons (ps_asg (pe_op op_add (pe_ix ix_list (pv 0) pe_int (fun _ _ => rfl)) pe_int) (pg_sub (pv 0) pe_int set_list))
  (pss_cons (ps_asg (pe_op op_mod (pe_callTy cq_int rfl T.n_int boot_int (pa_cons (pe_op op_add (pe_op op_add (pe_op op_mul (pe_ix ix_list (pv 0) pe_int (fun _ _ => rfl)) pe_int) (pv 2)) pe_int) pa_nil)) pe_int) (pg_sub (pv 0) pe_int set_list))
  (pss_one (ps_if (pt_cmpR op_ge (pv 2) (pe_op op_pow pe_int pe_int) (nomark _)) (pss_one (ps_asg (pv 2) (pg_sub (pv 0) pe_int set_list))) pss_nil))))) pss_nil)
  (pss_cons (ps_if (pt_cmpR op_gt (pe_ix ix_list (pv 0) pe_int (fun _ _ => rfl)) pe_int (nomark _)) (pss_cons (ps_set (i := 3) sc__law_draw.nd rfl (Or.inl rfl) (pe_op op_mod (pe_callTy cq_int rfl T.n_int boot_int (pa_cons (pe_ix ix_list (pv 0) pe_int (fun _ _ => rfl)) pa_nil)) (pv 1)))
  (pss_cons (ps_asg (pe_op op_fdiv (pe_ix ix_list (pv 0) pe_int (fun _ _ => rfl)) (pv 1)) (pg_sub (pv 0) pe_int set_list))
  (pss_one (ps_ret (pv 3))))) pss_nil)
  (pss_cons (ps_asg (pe_op op_add (pe_ix ix_list (pv 0) pe_int (fun _ _ => rfl)) pe_int) (pg_sub (pv 0) pe_int set_list))
  (pss_cons (ps_set (i := 4) sc__law_draw.nd rfl (Or.inl rfl) (pe_op op_mod (pe_callTy cq_int rfl T.n_int boot_int (pa_cons (pe_op op_mul (pe_callTy cq_int rfl T.n_int boot_int (pa_cons (pe_op op_add (pe_ix ix_list (pv 0) pe_int (fun _ _ => rfl)) (pe_op op_mul pe_int (pe_ix ix_list (pv 0) pe_int (fun _ _ => rfl)))) pa_nil)) pe_int) pa_nil)) pe_int))
  (pss_cons (ps_set (i := 4) sc__law_draw.nd rfl (Or.inl rfl) (pe_op op_mod (pe_callTy cq_int rfl T.n_int boot_int (pa_cons (pe_op op_mul (pv 4) (pe_op op_add (pe_op op_fdiv (pv 4) pe_int) pe_int)) pa_nil)) pe_int))
  (pss_cons (ps_set (i := 4) sc__law_draw.nd rfl (Or.inl rfl) (pe_op op_mod (pe_callTy cq_int rfl T.n_int boot_int (pa_cons (pe_op op_mul (pv 4) (pe_op op_add (pe_op op_fdiv (pv 4) pe_int) pe_int)) pa_nil)) pe_int))
  (pss_one (ps_ret (pe_op op_mod (pe_callTy cq_int rfl T.n_int boot_int (pa_cons (pe_op op_fdiv (pv 4) pe_int) pa_nil)) (pv 1)))))))))), ?_⟩
  try dsimp only [cxOf, Cx.nox, Cx.wish]
  obtain ⟨h, c, n, rfl, HA, hn, hn2, k⟩ := h
  refine ⟨fun σ' H' => ∃ v, σ' = [some (.ref h), some (.int n), v, none, none] ∧ HandAt H' h c ∧ ExB h H H', ?_, ?_⟩
  · obtain ⟨cs, i, z, m, t, h1, h2, hcs, hi, hz, hm, hm2, ht⟩ := id HA
    have hc := cells_ne h1 h2
    walk_at "go"

    refine rd_dec (fun e1 => ?_) (fun e1 => ?_)
    · walk_at "go"
      refine rd_dec (fun e2 => ?_) (fun e2 => ?_)
      · obtain ⟨x, hx, e3⟩ := get_cell hi e2
        have hx0 := hcs x hx
        walk_at "go"
        refine rd_dec (fun e4 => ?_) (fun e4 => ?_)
        · walk_at "go"
          simp only [upd_upd]
          refine ⟨_, rfl, ⟨cs, i + 1, x, _, t, upd_same, (by walk_at "hp"), hcs, by omega, hx0, Int.emod_nonneg _ (by decide), ?_, ht⟩, ExB.upd⟩
          have := Int.emod_lt_of_pos (m * 69621 + x + 29) (show (0 : Int) < 2147483629 by decide)
          omega
        · walk_at "go"
          simp only [upd_upd]
          refine ⟨_, rfl, ⟨cs, i + 1, z, _, t, upd_same, (by walk_at "hp"), hcs, by omega, hz, Int.emod_nonneg _ (by decide), ?_, ht⟩, ExB.upd⟩
          have := Int.emod_lt_of_pos (m * 69621 + x + 29) (show (0 : Int) < 2147483629 by decide)
          omega
      · walk_at "go"
        exact ⟨_, rfl, HA, ExB.refl _ _⟩
    · walk_at "go"
      exact ⟨_, rfl, HA, ExB.refl _ _⟩
  · rintro σ' H1 ⟨v, rfl, HA1, X1⟩
    obtain ⟨cs, i, z, m, t, h1, h2, hcs, hi, hz, hm, hm2, ht⟩ := HA1
    have hc := cells_ne h1 h2
    walk_at "go"
    refine rd_dec (fun e1 => ?_) (fun e1 => ?_)
    · walk_at "go"
      refine k _ _ (Int.emod_nonneg _ (by omega)) (Int.emod_lt_of_pos _ hn) ⟨cs, i, _, m, t, upd_same, (by walk_at "hp"), hcs, hi, Int.ediv_nonneg hz (by omega), hm, hm2, ht⟩ (X1.trans ExB.upd)
    · walk_at "go"
      exact k _ _ (Int.emod_nonneg _ (by omega)) (Int.emod_lt_of_pos _ hn) ⟨cs, i, z, m, t + 1, upd_same, (by walk_at "hp"), hcs, hi, hz, hm, hm2, by omega⟩ (X1.trans ExB.upd)
theorem ok__law_some {f : Addr} {fd : FuncData} (F : Fun K "_law_some" "_law_some" s__law_some f fd) (T : Txt K mg) (C__law_draw : Cal P w K mg base 1 "_law_draw" (sp__law_draw K)) : FnOk P w K mg base CX0 2 f fd ["hand", "things"] (sp__law_some K) := by
  refine F.ok sc__law_some (fun vs H Q E h => by repeat (first | (obtain ⟨rfl, _⟩ := h; rfl) | obtain ⟨_, h⟩ := h)) (fun cdv A outer s H vs Q E hr h => ?_)
  refine ⟨_, (pss_one (ps_ret (pe_ix ix_list (pv 1) (pe_c C__law_draw hr (by decide) rfl (pa_cons (pv 0) (pa_cons (pe_callB cq_len rfl T.n_len boot_len (pa_cons (pv 1) pa_nil)) pa_nil))) (fun _ _ => rfl)))), ?_⟩
  try dsimp only [cxOf, Cx.nox, Cx.wish]
  obtain ⟨h, c, q, l, rfl, HA, hq, hql, hl0, hl1, k⟩ := h
  walk_at "go"
  have hsl : (signs l).length = l.length := List.length_map _
  refine ⟨h, c, _, rfl, HA, by omega, by omega, fun d H1 h0 h1 HA1 X1 => ?_⟩
  rw [hsl] at h1
  have hd : d.toNat < l.length := by omega
  refine rd_ixL (v := .str (S [l[d.toNat]])) (SqL.of (X1 _ _ hql hq)) (at_of h0 (by unfold signs; simp [hd])) ?_
  exact k _ _ (List.getElem_mem hd) HA1 X1
theorem ok__law_hand {f : Addr} {fd : FuncData} (F : Fun K "_law_hand" "_law_hand" s__law_hand f fd) (T : Txt K mg) : FnOk P w K mg base CX0 1 f fd ["script"] (sp__law_hand K) := by
  refine F.ok sc__law_hand (fun vs H Q E h => by repeat (first | (obtain ⟨rfl, _⟩ := h; rfl) | obtain ⟨_, h⟩ := h)) (fun cdv A outer s H vs Q E hr h => ?_)
  refine ⟨_, (pss_cons (ps_setLc (i := 1) (own := [("cell", 2)]) rfl sc__law_hand.nd rfl rfl (sw_true rfl rfl rfl (by decide +kernel)) (pi_list (pe_slice sl_list (pv 0) po_none (po_some pe_int))) (blkOk_by (N := N__law_hand) (sc := defScope s__law_hand) (by decide +kernel)) (fun _ _ _ _ _ => (pg_name (i := 2) sc__law_hand.nd rfl (Or.inl rfl))) (fun _ _ _ _ _ => pts_nil) (fun _ _ _ _ _ => (pe_callB cq_abs rfl T.n_abs boot_abs (pa_cons (pe_callTy cq_int rfl T.n_int boot_int (pa_cons (pv 2) pa_nil)) pa_nil))))
  (pss_one (ps_ret (pe_lst (pa_cons (pv 1) (pa_cons pe_int (pa_cons pe_int (pa_cons (pe_op op_add pe_int (pe_op op_mul pe_int (pe_callB cq_len rfl T.n_len boot_len (pa_cons (pv 1) pa_nil)))) (pa_cons pe_int pa_nil))))))))), ?_⟩
  try dsimp only [cxOf, Cx.nox, Cx.wish]
  obtain ⟨a, ns, rfl, hq, k⟩ := h
  walk_at "go"
  intro p1 n1
  rw [cutV_to (by decide), ← List.map_take]
  walk_at "go"
  refine lcL _ V.int (SqL.of upd_same) (fun _ => true) (fun x => .int (if x < 0 then -x else x)) (by rw [List.length_take]; have := (show ((63 : Int).toNat) = 63 from rfl); omega) (fun _ => rfl) (fun _ _ => pt_yes) (fun y hy _ H2 s2 Q2 q2 => ?_) (fun D H2 nD s2 hD => ?_)
  · walk_at "go"
    exact q2 _ (Same.refl _)
  · rw [filter_yes] at hD
    walk_at "go"
    intro p2 n2
    have e0 : Same H (upd H2 p2 (.lst [V.ref D, V.int 0, V.int 0, V.int (83 + 7 * ((List.map (fun x => V.int (if x < 0 then -x else x)) (List.take (Int.toNat 63) ns)).length : Nat)), V.int 0])) := fun b o e => by
      rw [upd_ne (ne_of_none (s2 _ _ (Same.new n1 _ _ e)) n2)]
      exact s2 _ _ (Same.new n1 _ _ e)
    refine k p2 D _ ⟨(List.take (Int.toNat 63) ns).map fun x => if x < 0 then -x else x, 0, 0, _, 0, upd_same, ?_, ?_, by omega, by omega, by omega, ?_, by omega⟩ e0
    · rw [upd_ne (ne_of_none hD n2), hD, List.map_map]
      rfl
    · intro x hx
      obtain ⟨y, _, rfl⟩ := List.mem_map.mp hx
      show 0 ≤ if y < 0 then -y else y
      split <;> omega
    · rw [List.length_map, List.length_take]
      have : Int.toNat 63 = 63 := rfl
      omega
theorem ok__law_word {f : Addr} {fd : FuncData} (F : Fun K "_law_word" "_law_word" s__law_word f fd) (T : Txt K mg) (C__law_draw : Cal P w K mg base 1 "_law_draw" (sp__law_draw K)) (C__law_some : Cal P w K mg base 2 "_law_some" (sp__law_some K)) : FnOk P w K mg base CX0 3 f fd ["hand", "letters", "most"] (sp__law_word K) := by
  refine F.ok sc__law_word (fun vs H Q E h => by repeat (first | (obtain ⟨rfl, _⟩ := h; rfl) | obtain ⟨_, h⟩ := h)) (fun cdv A outer s H vs Q E hr h => ?_)
  refine ⟨_, (pss_one (ps_ret (pe_joinE (pe_strS [] rfl) (pe_lc (own := [("turn", 3)]) rfl sc__law_word.nd (pi_range1 rfl T.n_range (pa_cons (pe_c C__law_draw hr (by decide) rfl (pa_cons (pv 0) (pa_cons (pe_op op_add (pv 2) pe_int) pa_nil))) pa_nil)) (blkOk_by (N := N__law_word) (sc := defScope s__law_word) (by decide +kernel)) (fun _ _ _ _ _ => (pg_name (i := 3) sc__law_word.nd rfl (Or.inl rfl))) (fun _ _ _ _ _ => pts_nil) (fun _ _ _ _ _ => (pe_c C__law_some hr (by decide) rfl (pa_cons (pv 0) (pa_cons (pe_callTy (call_listS rfl) rfl T.n_list boot_list (pa_cons (pe_slice C8.sl_txt (pe_strS [97, 98, 99, 100] rfl) po_none (po_some (pv 1))) pa_nil)) pa_nil)))))))), ?_⟩
  try dsimp only [cxOf, Cx.nox, Cx.wish]
  obtain ⟨h, c, n, m, rfl, HA, n1, n4, m0, m1, k⟩ := h
  walk_at "go"
  refine ⟨h, c, _, rfl, HA, by omega, by omega, fun d H1 d0 d1 HA1 X1 => ?_⟩
  walk_at "go"
  refine lcR_inv (fun D i acc H' => D ≠ h ∧ D ≠ c ∧ ∃ l : List Nat, acc = signs l ∧ Wd n l ∧ HandAt H' h c ∧ ExB h H H') ?_ ?_ (fun D nD => ?_) (fun D i acc H2 Q2 hi nD hl p hD q2 => ?_) (fun D acc H2 nD hl p hD => ?_)
  · omega
  · intro _; rfl
  · exact ⟨HA1.ne nD, HA1.neC nD, [], rfl, (fun x hx => by cases hx), HA1.new nD, X1.mut (X1.back nD (HA1.ne nD))⟩
  · obtain ⟨hDh, hDc, l, rfl, hw, HA2, X2⟩ := p
    walk_at "go"
    intro p3 n3
    walk_at "go"
    have hlen : (List.take n.toNat [97, 98, 99, 100]).length = n.toNat := by simp only [List.length_take, List.length_cons, List.length_nil]; omega
    refine ⟨h, c, p3, _, rfl, HA2.new n3, upd_same, HA2.ne n3, by omega, by omega, fun e H3 he HA3 X3 => ?_⟩
    have hDp : D ≠ p3 := ne_of_none hD n3
    have hD3 : H3 D = some (.lst (signs l)) := X3 _ _ hDh (by rw [upd_ne hDp]; exact hD)
    refine q2 _ _ hD3 ⟨hDh, hDc, l ++ [e], by unfold signs; rw [List.map_append]; rfl, ?_, HA3.upd hDh hDc, ?_⟩
    · intro x hx
      rcases List.mem_append.mp hx with hx | hx
      · exact hw x hx
      · have hx2 : x = e := by simpa using hx
        subst hx2
        obtain ⟨k, hk, e2⟩ := List.mem_iff_getElem.mp he
        rw [hlen] at hk
        simp only [List.getElem_take] at e2
        have : k = 0 ∨ k = 1 ∨ k = 2 ∨ k = 3 := by omega
        rcases this with rfl | rfl | rfl | rfl <;> (simp at e2; omega)
    · exact (X2.trans ((ExB.new n3).trans X3)).mut (X1.back nD hDh)
  · obtain ⟨hDh, hDc, l, rfl, hw, HA2, X2⟩ := p
    have hl2 : l.length = d.toNat := by unfold signs at hl; rwa [List.length_map] at hl
    refine rd_joinC (SqL.of hD) (by omega) ?_
    exact k l _ hw (by omega) HA2 X2

end
end My
namespace My
open PySem PySem.Spec L2 SX
open PyProof.Rows hiding St
open Lyn (sg rootN)
local macro_rules | `(tactic| walk_at "kb") => `(tactic| first | exact kb_str_str | exact kb_str_int | exact kb_str_bool | exact kb_str_list | exact kb_str_tuple | exact kb_int_str | exact kb_int_int | exact kb_int_bool | exact kb_int_list | exact kb_int_tuple | exact kb_bool_str | exact kb_bool_int | exact kb_bool_bool | exact kb_bool_list | exact kb_bool_tuple | exact kb_list_str | exact kb_list_int | exact kb_list_bool | exact kb_list_list | exact kb_list_tuple | exact kb_tuple_str | exact kb_tuple_int | exact kb_tuple_bool | exact kb_tuple_list | exact kb_tuple_tuple | exact kb_NoneType_str | exact kb_NoneType_int | exact kb_NoneType_bool | exact kb_NoneType_list | exact kb_NoneType_tuple)
local macro_rules | `(tactic| walk_at "hp") => `(tactic| first | assumption | exact upd_same | (refine (upd_ne (by first | assumption | (apply Ne.symm; assumption))).trans ?_; walk_at "hp"))
local macro_rules | `(tactic| walk_at "sq") => `(tactic| first | assumption | exact SqL.of (by walk_at "hp"))
local macro_rules | `(tactic| walk_at "sqt") => `(tactic| first | assumption | exact SqT.of (by walk_at "hp"))
local macro_rules | `(tactic| walk_at "ar") => `(tactic| first | omega | (dsimp only; omega) | (unfold CMul; omega) | (unfold CDiv; omega) | (unfold CPow; refine ⟨?_, ?_, ?_⟩ <;> decide) | (simp only [List.length_cons, List.length_nil]; decide))
local macro_rules | `(tactic| walk_at "rd") => `(tactic| first
  | with_reducible refine rd_seq ?_
  | with_reducible refine rd_asg ?_
  | with_reducible refine rd_if ?_
  | with_reducible refine rd_ret ?_
  | with_reducible refine rd_drop ?_
  | with_reducible refine rd_name ?_
  | with_reducible refine rd_sub ?_
  | ((with_reducible refine' rd_var ?e ?_); (case e => exact rfl))
  | with_reducible refine rd_c ?_
  | with_reducible refine rd_op ?_
  | with_reducible refine rd_un ?_
  | with_reducible refine rd_I0 ?_
  | ((with_reducible refine' rd_I ?c ?_); (case c => walk_at "ar"))
  | with_reducible refine rd_U ?_
  | with_reducible refine rd_eqI ?_
  | with_reducible refine rd_neI ?_
  | with_reducible refine rd_eqS ?_
  | with_reducible refine rd_neS ?_
  | with_reducible refine rd_eqB ?_
  | with_reducible refine rd_neB ?_
  | with_reducible refine rd_test ?_
  | with_reducible refine rd_B ?_
  | with_reducible refine rd_and ?_
  | with_reducible refine rd_or ?_
  | with_reducible refine rd_not ?_
  | with_reducible refine rd_andV ?_
  | with_reducible refine rd_orV ?_
  | with_reducible refine rd_notV ?_
  | with_reducible refine rd_ifE ?_
  | with_reducible refine rd_isN ?_
  | with_reducible refine rd_notN ?_
  | with_reducible refine rd_cons ?_
  | with_reducible refine rd_nil ?_
  | with_reducible refine rd_lst ?_
  | with_reducible refine rd_tup ?_
  | with_reducible refine rd_CB ?_
  | with_reducible refine rd_call ?_
  | with_reducible refine rd_sl ?_
  | with_reducible refine rd_part ?_
  | with_reducible refine rd_nopart ?_
  | with_reducible refine rd_par ?_
  | with_reducible refine rd_two ?_
  | with_reducible refine rd_next ?_
  | with_reducible refine rd_retN ?_
  | with_reducible refine rd_bool ?_
  | with_reducible refine rd_int ?_
  | with_reducible refine rd_intI ?_
  | with_reducible refine rd_intB ?_
  | with_reducible refine rd_ltS ?_
  | with_reducible refine rd_leS ?_
  | with_reducible refine rd_gtS ?_
  | with_reducible refine rd_geS ?_
  | with_reducible refine rd_inC ?_
  | with_reducible refine rd_notInC ?_
  | with_reducible refine rd_abs ?_
  | with_reducible refine rd_max2 ?_
  | with_reducible refine rd_min2 ?_
  | with_reducible refine rd_M1 ?_
  | with_reducible refine rd_isStr ?_
  | ((with_reducible refine' rd_len ?b ?_); (case b => (simp only [List.length_cons, List.length_nil]; decide)))
  | ((with_reducible refine' rd_listS ?b ?_); (case b => first | (simp only [List.length_take, List.length_cons, List.length_nil]; omega) | omega))
  | ((with_reducible refine' rd_isi ?ty ?h ?_); (case ty => first | exact ty_str | exact ty_int | exact ty_bl | exact ty_non | exact ty_lst (by walk_at "hp") | exact ty_tup (by walk_at "hp")); (case h => walk_at "kb"))
  | with_reducible refine rd_lc ?_
  | with_reducible refine rd_for ?_
  | with_reducible refine rd_iList ?_
  | with_reducible refine rd_iTup ?_
  | with_reducible refine rd_iRng1 ?_
  | with_reducible refine rd_iRng2 ?_
  | with_reducible refine rd_iRng3 ?_
  | with_reducible refine rd_iStr ?_
  | with_reducible refine rd_qIs ?_
  | with_reducible refine rd_whb ?_
  | ((with_reducible refine' rd_qIl ?sq ?_); (case sq => walk_at "sq"))
  | ((with_reducible refine' rd_qItu ?sq ?_); (case sq => walk_at "sqt"))
  | ((with_reducible refine' rd_qIr1 ?b1 ?b2 ?_); (case b1 => walk_at "ar"); (case b2 => walk_at "ar"))
  | ((with_reducible refine' rd_qIr2 ?b1 ?b2 ?b3 ?b4 ?_); (case b1 => walk_at "ar"); (case b2 => walk_at "ar"); (case b3 => walk_at "ar"); (case b4 => walk_at "ar"))
  | ((with_reducible refine' rd_qIr3 ?b1 ?b2 ?b3 ?b4 ?_); (case b1 => walk_at "ar"); (case b2 => walk_at "ar"); (case b3 => walk_at "ar"); (case b4 => walk_at "ar"))
  | ((with_reducible refine' rd_mulS ?b1 ?b2 ?b3 ?_); (case b1 => walk_at "ar"); (case b2 => walk_at "ar"); (case b3 => walk_at "ar"))
  | ((with_reducible refine' rd_slS_to ?b1 ?b2 ?_); (case b1 => walk_at "ar"); (case b2 => walk_at "ar"))
  | ((with_reducible refine' rd_slS_from ?b1 ?b2 ?_); (case b1 => walk_at "ar"); (case b2 => walk_at "ar"))
  | ((with_reducible refine' rd_slS_mid ?b1 ?b2 ?b3 ?b4 ?_); (case b1 => walk_at "ar"); (case b2 => walk_at "ar"); (case b3 => walk_at "ar"); (case b4 => walk_at "ar"))
  | ((with_reducible refine' rd_slL ?sq ?_); (case sq => walk_at "sq"))
  | with_reducible refine rd_true ?_
  | with_reducible refine rd_false ?_
  | with_reducible refine rd_nt ?_
  | with_reducible refine rd_nf ?_
  | ((with_reducible refine' rd_decT ?h ?_); (case h => omega))
  | ((with_reducible refine' rd_decF ?h ?_); (case h => omega))
  | ((with_reducible refine' rd_ndecT ?h ?_); (case h => omega))
  | ((with_reducible refine' rd_ndecF ?h ?_); (case h => omega))
  | ((with_reducible refine' rd_evT ?h ?_); (case h => first | exact rfl | (simp; done)))
  | ((with_reducible refine' rd_evF ?h ?_); (case h => first | exact rfl | (simp; done)))
  | ((with_reducible refine' rd_ixL ?sq ?a1 ?_); (case sq => walk_at "sq"); (case a1 => first | exact rfl | exact at_of (by omega) (by assumption)))
  | ((with_reducible refine' rd_ixT ?sq ?a1 ?_); (case sq => walk_at "sqt"); (case a1 => first | exact rfl | exact at_of (by omega) (by assumption)))
  | ((with_reducible refine' rd_lenL ?sq ?_); (case sq => walk_at "sq"))
  | ((with_reducible refine' rd_lenT ?sq ?_); (case sq => walk_at "sqt"))
  | ((with_reducible refine' rd_setL ?h ?j ?_); (case h => walk_at "hp"); (case j => exact rfl); (with_reducible refine id ?_))
  | ((with_reducible refine' rd_strlen ?l ?_); (case l => walk_at "ar"))
  | ((with_reducible refine' rd_cat ?l ?_); (case l => walk_at "ar")))
local macro_rules | `(tactic| walk_at "go") => `(tactic| ((try dsimp only); (repeat (walk_at "rd"))))
local macro_rules | `(tactic| walk_at "rd") => `(tactic| first
  | with_reducible refine rd_lstRg ?_
  | with_reducible refine rd_tRg1 ?_
  | with_reducible refine rd_tRg2 ?_
  | with_reducible refine rd_rg1 ?_
  | with_reducible refine rd_rg2 ?_
  | ((with_reducible refine' rd_qRg ?b ?_); (case b => refine ⟨?_, ?_, ?_, ?_⟩ <;> omega))
  | with_reducible refine rd_tDGet ?_
  | with_reducible refine rd_sDPut ?_
  | with_reducible refine rd_dnew ?_
  | with_reducible refine rd_iZipS ?_
  | with_reducible refine rd_zipS ?_
  | ((with_reducible refine' rd_inI ?sq ?_); (case sq => walk_at "sq"))
  | ((with_reducible refine' rd_notInI ?sq ?_); (case sq => walk_at "sq"))
  | with_reducible refine rd_chain ?_)

section
variable {P : Program} {w : World} {K : PySem.W.Frag} {mg : Str → Option Value} {base : Heap}
theorem ok_check_word {f : Addr} {fd : FuncData} (F : Fun K "check_word" "check_word" s_check_word f fd) (T : Txt K mg) : FnOk P w K mg base CX0 1 f fd ["word", "letters", "most"] (sp_check_word K) := by
  refine F.ok sc_check_word (fun vs H Q E h => by repeat (first | (obtain ⟨rfl, _⟩ := h; rfl) | obtain ⟨_, h⟩ := h)) (fun cdv A outer s H vs Q E hr h => ?_)
  refine ⟨_, (pss_one (ps_if (PW.pt (pw_or (pt_not (pt_val (pe_callB call_isi rfl T.n_isinstance boot_isinstance (pa_cons (pv 0) (pa_cons (pe_bltn (v := .ty "str") rfl T.n_str boot_str rfl) pa_nil))))) (pw_or (pt_cmpR op_gt (pe_callB cq_lenS rfl T.n_len boot_len (pa_cons (pv 0) pa_nil)) (pv 2) (nomark _)) (pw_or1 (pt_cmpR (op_neD hr.units) (pe_lc (own := [("one", 3)]) rfl sc_check_word.nd (pi_str (pv 0)) (blkOk_by (N := N_check_word) (sc := defScope s_check_word) (by decide +kernel)) (fun _ _ _ _ _ => (pg_name (i := 3) sc_check_word.nd rfl (Or.inl rfl))) (fun _ _ _ _ _ => (pts_one (pt_cmpR oq_notInC (pv 3) (pe_slice C8.sl_txt (C8.pe_gc rfl T.c_SIGNS) po_none (po_some (pv 1))) rfl))) (fun _ _ _ _ _ => (pv 3))) (pe_lst pa_nil) (nomark _)))))) (pss_one ps_never) pss_nil)), ?_⟩
  try dsimp only [cxOf, Cx.nox, Cx.wish]
  obtain ⟨l, n, m, rfl, hw, n0, n4, hl, hm, k⟩ := h
  walk_at "go"
  refine lcS (fun c => !decide (c ∈ [97, 98, 99, 100].take n.toNat)) (fun c => .str (S [c])) (by omega) (fun _ => rfl) (fun y hy H1 s1 Q1 q1 => ?_) (fun y hy _ H1 s1 Q1 q1 => ?_) (fun D H1 nD s1 hD => ?_)
  · walk_at "go"
    exact q1 _ (Same.refl _)
  · walk_at "go"
    exact q1 _ (Same.refl _)
  · have e : l.filter (fun c => !decide (c ∈ [97, 98, 99, 100].take n.toNat)) = [] := by
      rw [List.filter_eq_nil_iff]
      intro c hc
      have := hw c hc
      have h3 : n.toNat = 0 ∨ n.toNat = 1 ∨ n.toNat = 2 ∨ n.toNat = 3 ∨ n.toNat = 4 := by omega
      have h4 : c ∈ List.take n.toNat [97, 98, 99, 100] := by
        rcases h3 with h3 | h3 | h3 | h3 | h3 <;> rw [h3] <;> simp <;> omega
      simp [h4]
    rw [e] at hD
    walk_at "go"
    intro p2 n2
    refine rd_neLI (ns := []) (ms := []) (SqL.of ?_) (SqL.of upd_same) ?_
    · rw [upd_ne (ne_of_none hD n2)]
      exact hD
    walk_at "go"
    exact k _ fun b o e => by
      rw [upd_ne (ne_of_none (s1 b o e) n2)]
      exact s1 b o e
theorem ok_check_letters {f : Addr} {fd : FuncData} (F : Fun K "check_letters" "check_letters" s_check_letters f fd) (T : Txt K mg) (C_check_word : Cal P w K mg base 1 "check_word" (sp_check_word K)) : FnOk P w K mg base CX0 2 f fd ["word"] (sp_check_letters K) := by
  refine F.ok sc_check_letters (fun vs H Q E h => by repeat (first | (obtain ⟨rfl, _⟩ := h; rfl) | obtain ⟨_, h⟩ := h)) (fun cdv A outer s H vs Q E hr h => ?_)
  refine ⟨_, (pss_one (ps_expr (pe_c C_check_word hr (by decide) rfl (pa_cons (pv 0) (pa_cons (pe_callB cq_lenS rfl T.n_len boot_len (pa_cons (C8.pe_gc rfl T.c_SIGNS) pa_nil)) (pa_cons (C8.pe_gc rfl T.c_MOST_SIGNS) pa_nil)))))), ?_⟩
  try dsimp only [cxOf, Cx.nox, Cx.wish]
  obtain ⟨l, rfl, hw, hl, k⟩ := h
  walk_at "go"
  refine ⟨l, _, _, rfl, hw, by decide, by decide, by omega, by decide, fun H1 s1 => ?_⟩
  walk_at "go"
  exact k _ s1
theorem ok_check_filled {f : Addr} {fd : FuncData} (F : Fun K "check_filled" "check_filled" s_check_filled f fd) (T : Txt K mg) (C_check_letters : Cal P w K mg base 2 "check_letters" (sp_check_letters K)) : FnOk P w K mg base CX0 3 f fd ["word"] (sp_check_filled K) := by
  refine F.ok sc_check_filled (fun vs H Q E h => by repeat (first | (obtain ⟨rfl, _⟩ := h; rfl) | obtain ⟨_, h⟩ := h)) (fun cdv A outer s H vs Q E hr h => ?_)
  refine ⟨_, (pss_cons (ps_expr (pe_c C_check_letters hr (by decide) rfl (pa_cons (pv 0) pa_nil)))
  (pss_one (ps_if (pt_cmpR op_eq (pv 0) (pe_strS [] rfl) (nomark _)) (pss_one ps_never) pss_nil))), ?_⟩
  try dsimp only [cxOf, Cx.nox, Cx.wish]
  obtain ⟨l, rfl, hw, hl, hne, k⟩ := h
  walk_at "go"
  refine ⟨l, rfl, hw, hl, fun H1 s1 => ?_⟩
  walk_at "go"
  refine rd_decF hne ?_
  walk_at "go"
  exact k _ s1
theorem ok_border_lengths {f : Addr} {fd : FuncData} (F : Fun K "border_lengths" "border_lengths" s_border_lengths f fd) (T : Txt K mg) : FnOk P w K mg base CX0 1 f fd ["word"] (sp_border_lengths K) := by
  refine F.ok sc_border_lengths (fun vs H Q E h => by repeat (first | (obtain ⟨rfl, _⟩ := h; rfl) | obtain ⟨_, h⟩ := h)) (fun cdv A outer s H vs Q E hr h => ?_)
  refine ⟨_, (pss_cons (ps_set (i := 1) sc_border_lengths.nd rfl (Or.inl rfl) (pe_lst (pa_cons pe_int pa_nil)))
  (pss_cons (ps_for PassesOwn.never rfl (pi_str (pe_slice C8.sl_txt (pv 0) (po_some pe_int) po_none)) (pg_name (i := 2) sc_border_lengths.nd rfl (Or.inl rfl))
  (pss_cons (ps_set (i := 3) sc_border_lengths.nd rfl (Or.inl rfl) (pe_ix ix_list (pv 1) (pe_un un_neg pe_int) (fun _ _ => rfl)))
  (pss_cons (ps_while PassesOwn.never (PW.pt (pw_and (pt_cmpR op_gt (pv 3) pe_int (nomark _)) (pw_and1 (pt_cmpR op_ne (pe_ix ix_str (pv 0) (pv 3) (fun _ _ => rfl)) (pv 2) (nomark _))))) (pss_one (ps_set (i := 3) sc_border_lengths.nd rfl (Or.inl rfl) (pe_ix ix_list (pv 1) (pe_op op_sub (pv 3) pe_int) (fun _ _ => rfl)))))
  (pss_one (ps_expr (pe_bm PySem.F.plainAttrs_list PySem.F.slot_list_append PySem.F.type_list_append mt_append (pv 1) (pa_cons (pe_op op_add (pv 3) (pe_callTy cq_int rfl T.n_int boot_int (pa_cons (pe_cmpR op_eq (pe_ix ix_str (pv 0) (pv 3) (fun _ _ => rfl)) (pv 2) (nomark _)) pa_nil))) pa_nil)))))))
  (pss_one (ps_ret (pv 1))))), ?_⟩
  try dsimp only [cxOf, Cx.nox, Cx.wish]
  obtain ⟨l, rfl, hne, hl, k⟩ := h
  walk_at "go"
  intro p np
  walk_at "go"
  have hlp : 0 < l.length := List.length_pos_iff.mpr hne
  refine forS (fun i σ' H' => ∃ v2 v3, σ' = [some (.str (S l)), some (.ref p), v2, v3] ∧ Same H H' ∧ H' p = some (.lst (bV l (i + 1)))) ⟨_, _, rfl, Same.new np, upd_same⟩ ?_ ?_
  · rintro i y σ1 H1 hy ⟨v2, v3, rfl, s1, h1⟩
    have hy2 : i + 1 < l.length ∧ y = sg l (i + 1) := by
      rw [List.getElem?_drop] at hy
      have h2 : Int.toNat 1 + i < l.length := (List.getElem?_eq_some_iff.mp hy).1
      have h3 : Int.toNat 1 + i = i + 1 := by have : Int.toNat 1 = 1 := rfl; omega
      rw [h3] at h2 hy
      rw [sg_at h2] at hy
      exact ⟨h2, (Option.some.inj hy).symm⟩
    obtain ⟨hi, rfl⟩ := hy2
    walk_at "go"
    refine rd_ixL (SqL.of h1) (by rw [bV_succ]; exact atI_last _ _) ?_
    walk_at "go"
    refine rd_while (fun b σ' H' => σ' = [some (.str (S l)), some (.ref p), some (.str (S [sg l (i + 1)])), some (.int (b : Int))] ∧ Same H H' ∧ H' p = some (.lst (bV l (i + 1))) ∧
      Per.Bd (sg l) (i + 1) b ∧ ∀ c, Per.Bd (sg l) (i + 1) c → b < c → sg l c ≠ sg l (i + 1)) _ ⟨rfl, s1, h1, Per.lb_bd (Nat.succ_pos i), fun c hc hlt => absurd (Per.lb_max hc) (by omega)⟩ ?_
    rintro b σ2 H2 ⟨rfl, s2, h2, hb, hm⟩
    have hbl : b < l.length := by have := hb.1; omega
    have hat : atI l (b : Int) = some (sg l b) := atI_nat (sg_at hbl)
    walk_at "go"
    refine rd_dec (fun e1 => ?_) (fun e1 => ?_)
    · walk_at "go"
      refine rd_ixS (by omega) hat ?_
      walk_at "go"
      refine rd_ndec (fun e2 => ?_) (fun e2 => ?_)
      · walk_at "go"
        have e3 : (b : Int) - 1 = ((b - 1 : Nat) : Int) := by omega
        refine rd_ixL (SqL.of h2) (v := .int ((Per.lb (sg l) b : Nat) : Int)) ?_ ?_
        · rw [e3]
          refine atI_nat ((bV_at l (by have := hb.1; omega)).trans ?_)
          rw [show b - 1 + 1 = b by omega]
        walk_at "go"
        have hb0 : 0 < b := by omega
        refine ⟨_, Per.lb_lt hb0, rfl, s2, h2, hb.trans (Per.lb_bd hb0), fun c hc hlt => ?_⟩
        by_cases g : b < c
        · exact hm c hc g
        · by_cases g2 : c = b
          · subst g2; exact fun z => e2 (by rw [z])
          · have := Per.lb_max (hb.sub hc (by omega))
            omega
      · walk_at "go"
        have e3 : sg l b = sg l (i + 1) := by simpa using e2
        refine rd_BM (p := p) (ys := []) ?_
        walk_at "go"
        refine ⟨tyL h2, ?_⟩
        walk_at "go"
        refine rd_ixS (by omega) hat ?_
        walk_at "go"
        refine rd_app h2 (by rw [bV_len]; omega) ?_
        walk_at "go"
        refine ⟨_, _, rfl, Same.mut s2 np, ?_⟩
        rw [upd_same, bV_succ l (i + 1), Per.lb_next (Nat.succ_pos i) hb hm (.inr e3), if_pos e3]
        simp [e3]
    · walk_at "go"
      have hb0 : b = 0 := by omega
      subst hb0
      refine rd_BM (p := p) (ys := []) ?_
      walk_at "go"
      refine ⟨tyL h2, ?_⟩
      walk_at "go"
      refine rd_ixS (by omega) hat ?_
      walk_at "go"
      refine rd_app h2 (by rw [bV_len]; omega) ?_
      walk_at "go"
      refine ⟨_, _, rfl, Same.mut s2 np, ?_⟩
      rw [upd_same, bV_succ l (i + 1), Per.lb_next (Nat.succ_pos i) hb hm (.inl rfl)]
      by_cases e3 : sg l 0 = sg l (i + 1) <;> simp [e3]
  · rintro σ1 H1 ⟨v2, v3, rfl, s1, h1⟩
    walk_at "go"
    refine k p H1 np s1 ?_
    rw [bV_all, h1, List.length_drop, show l.length - Int.toNat 1 + 1 = l.length by have : Int.toNat 1 = 1 := rfl; omega]
theorem ok_borders {f : Addr} {fd : FuncData} (F : Fun K "borders" "borders" s_borders f fd) (T : Txt K mg) (C_check_letters : Cal P w K mg base 2 "check_letters" (sp_check_letters K)) (C_border_lengths : Cal P w K mg base 1 "border_lengths" (sp_border_lengths K)) : FnOk P w K mg base CX0 3 f fd ["word"] (sp_borders K) := by
  refine F.ok sc_borders (fun vs H Q E h => by repeat (first | (obtain ⟨rfl, _⟩ := h; rfl) | obtain ⟨_, h⟩ := h)) (fun cdv A outer s H vs Q E hr h => ?_)
  refine ⟨_, (pss_cons (ps_expr (pe_c C_check_letters hr (by decide) rfl (pa_cons (pv 0) pa_nil)))
  (pss_cons (ps_if (pt_cmpR op_eq (pv 0) (pe_strS [] rfl) (nomark _)) (pss_one (ps_ret (pe_lst pa_nil))) pss_nil)
  (pss_cons (ps_par (i := 1) (j := 2) rfl sc_borders.nd rfl rfl (by decide) rfl rfl (pa_cons (pe_c C_border_lengths hr (by decide) rfl (pa_cons (pv 0) pa_nil)) (pa_cons (pe_lst pa_nil) pa_nil)) (by rfl))
  (pss_cons (ps_set (i := 3) sc_borders.nd rfl (Or.inl rfl) (pe_ix ix_list (pv 1) (pe_un un_neg pe_int) (fun _ _ => rfl)))
  (pss_cons (ps_while PassesOwn.never (pt_cmpR op_gt (pv 3) pe_int (nomark _)) (pss_cons (ps_expr (pe_bm PySem.F.plainAttrs_list PySem.F.slot_list_append PySem.F.type_list_append mt_append (pv 2) (pa_cons (pv 3) pa_nil)))
  (pss_one (ps_set (i := 3) sc_borders.nd rfl (Or.inl rfl) (pe_ix ix_list (pv 1) (pe_op op_sub (pv 3) pe_int) (fun _ _ => rfl))))))
  (pss_one (ps_ret (pe_op op_cat (pe_lst (pa_cons pe_int pa_nil)) (pe_revL (pv 2)))))))))), ?_⟩
  try dsimp only [cxOf, Cx.nox, Cx.wish]
  obtain ⟨l, rfl, hw, hl, k⟩ := h
  walk_at "go"
  refine ⟨l, rfl, hw, hl, fun H1 s1 => ?_⟩
  walk_at "go"
  refine rd_dec (fun e1 => ?_) (fun e1 => ?_)
  · subst e1
    walk_at "go"
    intro p np
    exact k p _ (s1.free np) (fun b o e => by rw [upd_ne (ne_of_none (s1 b o e) np)]; exact s1 b o e) upd_same
  walk_at "go"
  refine ⟨l, rfl, e1, hl, fun p H2 np s2 h2 => ?_⟩
  walk_at "go"
  intro q nq
  refine ⟨_, _, rfl, ?_⟩
  walk_at "go"
  have hlp : 0 < l.length := List.length_pos_iff.mpr e1
  have hpq : p ≠ q := ne_of_none h2 nq
  have h3 : upd H2 q (.lst []) p = some (.lst (bV l l.length)) := by rw [upd_ne hpq, h2, bV_all]
  obtain ⟨n, hn⟩ : ∃ n, l.length = n + 1 := ⟨l.length - 1, by omega⟩
  refine rd_ixL (SqL.of h3) (v := .int ((Per.lb (sg l) l.length : Nat) : Int)) (by rw [hn, bV_succ]; exact atI_last _ _) ?_
  walk_at "go"
  have s12 : Same H H2 := s1.trans s2
  refine rd_while (fun b σ' H' => σ' = [some (.str (S l)), some (.ref p), some (.ref q), some (.int (b : Int))] ∧ Same H H' ∧ H' p = some (.lst (bV l l.length)) ∧
    H' q = some (.lst ((Per.above (sg l) l.length b).reverse.map fun b : Nat => V.int (b : Int))) ∧ Per.Bd (sg l) l.length b) _
    ⟨rfl, fun b o e => by rw [upd_ne (ne_of_none (s12 b o e) nq)]; exact s12 b o e, h3, by rw [upd_same, Per.above_lb hlp]; rfl, Per.lb_bd hlp⟩ ?_
  rintro b σ2 H3 ⟨rfl, s3, hp3, hq3, hb⟩
  walk_at "go"
  refine rd_dec (fun e2 => ?_) (fun e2 => ?_)
  · have hb0 : 0 < b := by omega
    walk_at "go"
    refine rd_BM (p := p) (ys := []) ?_
    walk_at "go"
    refine ⟨tyL hq3, ?_⟩
    walk_at "go"
    refine rd_app hq3 ?_ ?_
    · rw [List.length_map, List.length_reverse]
      have := List.length_filter_le (fun c => decide (Per.Bd (sg l) l.length c) && decide (b < c)) (List.range l.length)
      rw [List.length_range] at this
      unfold Per.above
      omega
    walk_at "go"
    have e3 : (b : Int) - 1 = ((b - 1 : Nat) : Int) := by omega
    refine rd_ixL (SqL.of (by rw [upd_ne hpq]; exact hp3)) (v := .int ((Per.lb (sg l) b : Nat) : Int)) ?_ ?_
    · rw [e3]
      refine atI_nat ((bV_at l (by have := hb.1; omega)).trans ?_)
      rw [show b - 1 + 1 = b by omega]
    walk_at "go"
    refine ⟨_, Per.lb_lt hb0, rfl, fun c o e => ?_, by rw [upd_ne hpq]; exact hp3, ?_, hb.trans (Per.lb_bd hb0)⟩
    · rw [upd_ne (ne_of_none e ((s12.free nq)))]
      exact s3 c o e
    · rw [upd_same, Per.above_next hb hb0, List.reverse_cons, List.map_append]
      rfl
  · have hb0 : b = 0 := by omega
    subst hb0
    walk_at "go"
    intro r nr
    walk_at "go"
    refine rd_revL ?_
    walk_at "go"
    have hqr : q ≠ r := ne_of_none hq3 nr
    refine ⟨q, _, rfl, SqL.of (by rw [upd_ne hqr]; exact hq3), fun u nu => ?_⟩
    walk_at "go"
    have hru : r ≠ u := ne_of_none upd_same nu
    refine rd_catL (by rw [upd_ne hru]; exact upd_same) upd_same ?_ fun x nx => ?_
    · rw [List.length_reverse, List.length_map, List.length_reverse]
      have := List.length_filter_le (fun c => decide (Per.Bd (sg l) l.length c) && decide (0 < c)) (List.range l.length)
      rw [List.length_range] at this
      unfold Per.above
      simp only [List.length_cons, List.length_nil]
      omega
    walk_at "go"
    have hf : ∀ b o, H b = some o → upd (upd H3 r (.lst [V.int 0])) u (.lst ((Per.above (sg l) l.length 0).reverse.map fun b : Nat => V.int (b : Int)).reverse) b = some o := fun b o e => by
      rw [upd_ne (ne_of_none (by rw [upd_ne (ne_of_none (s3 b o e) nr)]; exact s3 b o e) nu), upd_ne (ne_of_none (s3 b o e) nr)]
      exact s3 b o e
    refine k x _ (Same.free hf nx) (fun b o e => by rw [upd_ne (ne_of_none (hf b o e) nx)]; exact hf b o e) ?_
    rw [upd_same]
    unfold bordL
    rw [Per.above_zero hlp, List.map_cons, List.map_cons, ← List.map_reverse, List.reverse_reverse, List.map_map]
    rfl
theorem ok_periods {f : Addr} {fd : FuncData} (F : Fun K "periods" "periods" s_periods f fd) (T : Txt K mg) (C_borders : Cal P w K mg base 3 "borders" (sp_borders K)) : FnOk P w K mg base CX0 4 f fd ["word"] (sp_periods K) := by
  refine F.ok sc_periods (fun vs H Q E h => by repeat (first | (obtain ⟨rfl, _⟩ := h; rfl) | obtain ⟨_, h⟩ := h)) (fun cdv A outer s H vs Q E hr h => ?_)
  refine ⟨_, (pss_one (ps_ret (pe_callB cr_sortedI rfl T.n_sorted boot_sorted (pa_cons (pe_lc (own := [("length", 1)]) rfl sc_periods.nd (pi_list (pe_c C_borders hr (by decide) rfl (pa_cons (pv 0) pa_nil))) (blkOk_by (N := N_periods) (sc := defScope s_periods) (by decide +kernel)) (fun _ _ _ _ _ => (pg_name (i := 1) sc_periods.nd rfl (Or.inl rfl))) (fun _ _ _ _ _ => pts_nil) (fun _ _ _ _ _ => (pe_op op_sub (pe_callB cq_lenS rfl T.n_len boot_len (pa_cons (pv 0) pa_nil)) (pv 1)))) pa_nil)))), ?_⟩
  try dsimp only [cxOf, Cx.nox, Cx.wish]
  obtain ⟨l, rfl, hw, hl, k⟩ := h
  walk_at "go"
  refine ⟨l, rfl, hw, hl, fun p H1 np s1 h1 => ?_⟩
  dsimp only
  refine rd_qIl (SqL.of h1) ?_
  have hbl : (bordL l).length ≤ 300 := by
    unfold bordL Per.bl
    rw [List.length_map]
    have := List.length_filter_le (fun b => decide (Per.Bd (sg l) l.length b)) (List.range l.length)
    rw [List.length_range] at this
    omega
  refine lcL (bordL l) V.int (SqL.of h1) (fun _ => true) (fun b => .int ((l.length : Int) - b)) (by omega) (fun _ => rfl) (fun _ _ => pt_yes) (fun y hy _ H2 s2 Q2 q2 => ?_) (fun D H2 nD s2 hD => ?_)
  · walk_at "go"
    exact q2 _ (Same.refl _)
  rw [filter_yes] at hD
  walk_at "go"
  have e : (bordL l).map (fun b => V.int ((l.length : Int) - b)) = ((bordL l).map fun b => (l.length : Int) - b).map V.int := by rw [List.map_map]; rfl
  rw [e] at hD
  have e2 : perL l = ((bordL l).map fun b => (l.length : Int) - b).reverse := by
    unfold perL Per.pl bordL
    rw [List.map_reverse, List.map_map, List.map_map]
    congr 1
    refine List.map_congr_left fun b hb => ?_
    have := (Per.mem_bl.mp hb).1
    simp only [Function.comp]
    omega
  refine rd_sortedI (ms := perL l) (SqL.of hD) ?_ ?_ fun r nr => ?_
  · rw [e2]
    exact List.reverse_perm _
  · unfold perL
    rw [List.pairwise_map]
    refine List.Pairwise.imp (fun {a b} h => ?_) Per.pl_sorted
    omega
  · have s12 : Same H H2 := s1.trans s2
    exact k r _ (s12.free nr) (fun b o e => by rw [upd_ne (ne_of_none (s12 b o e) nr)]; exact s12 b o e) upd_same
theorem ok_root_of {f : Addr} {fd : FuncData} (F : Fun K "root_of" "root_of" s_root_of f fd) (T : Txt K mg) (C_check_filled : Cal P w K mg base 3 "check_filled" (sp_check_filled K)) (C_periods : Cal P w K mg base 4 "periods" (sp_periods K)) : FnOk P w K mg base CX0 5 f fd ["word"] (sp_root_of K) := by
  refine F.ok sc_root_of (fun vs H Q E h => by repeat (first | (obtain ⟨rfl, _⟩ := h; rfl) | obtain ⟨_, h⟩ := h)) (fun cdv A outer s H vs Q E hr h => ?_)
  refine ⟨_, (pss_cons (ps_expr (pe_c C_check_filled hr (by decide) rfl (pa_cons (pv 0) pa_nil)))
  (pss_cons (ps_set (i := 1) sc_root_of.nd rfl (Or.inl rfl) (pe_ix ix_list (pe_c C_periods hr (by decide) rfl (pa_cons (pv 0) pa_nil)) pe_int (fun _ _ => rfl)))
  (pss_cons (ps_if (pt_cmpR op_ne (pe_op op_mod (pe_callTy cq_int rfl T.n_int boot_int (pa_cons (pe_callB cq_lenS rfl T.n_len boot_len (pa_cons (pv 0) pa_nil)) pa_nil)) (pv 1)) pe_int (nomark _)) (pss_one (ps_set (i := 1) sc_root_of.nd rfl (Or.inl rfl) (pe_callB cq_lenS rfl T.n_len boot_len (pa_cons (pv 0) pa_nil)))) pss_nil)
  (pss_one (ps_ret (pe_tup (pa_cons (pe_slice C8.sl_txt (pv 0) po_none (po_some (pv 1))) (pa_cons (pe_op op_fdiv (pe_callB cq_lenS rfl T.n_len boot_len (pa_cons (pv 0) pa_nil)) (pv 1)) pa_nil)))))))), ?_⟩
  try dsimp only [cxOf, Cx.nox, Cx.wish]
  obtain ⟨l, rfl, hw, hl, hne, k⟩ := h
  walk_at "go"
  refine ⟨l, rfl, hw, hl, hne, fun H1 s1 => ?_⟩
  walk_at "go"
  refine ⟨l, rfl, hw, hl, fun p H2 np s2 h2 => ?_⟩
  walk_at "go"
  have hlp : 0 < l.length := List.length_pos_iff.mpr hne
  have hlb := Per.lb_lt (s := sg l) hlp
  have s12 : Same H H2 := s1.trans s2
  obtain ⟨P, hP⟩ : ∃ P, l.length - Per.lb (sg l) l.length = P := ⟨_, rfl⟩
  refine rd_ixL (SqL.of h2) (v := .int (P : Int)) ?_ ?_
  · refine atI_nat (j := 0) ?_
    unfold perL
    rw [List.map_map, ← List.head?_eq_getElem?, List.head?_map, Per.pl_head hlp, hP]
    rfl
  have hPp : 0 < P := by omega
  have hPl : P ≤ l.length := by omega
  walk_at "go"
  have hrt : rootN l = if l.length % P = 0 then P else l.length := by unfold rootN; rw [hP]
  refine rd_ndec (fun e1 => ?_) (fun e1 => ?_)
  · walk_at "go"
    intro r nr
    refine k r _ (s12.free nr) (fun b o e => by rw [upd_ne (ne_of_none (s12 b o e) nr)]; exact s12 b o e) ?_
    have e2 : ¬ l.length % P = 0 := by omega
    rw [upd_same, hrt, if_neg e2]
    simp
  · walk_at "go"
    intro r nr
    refine k r _ (s12.free nr) (fun b o e => by rw [upd_ne (ne_of_none (s12 b o e) nr)]; exact s12 b o e) ?_
    have e2 : l.length % P = 0 := by omega
    rw [upd_same, hrt, if_pos e2]
    simp

end
end My
namespace My
open PySem PySem.Spec L2 SX
open PyProof.Rows hiding St
open Lyn (sg rootN)
local macro_rules | `(tactic| walk_at "kb") => `(tactic| first | exact kb_str_str | exact kb_str_int | exact kb_str_bool | exact kb_str_list | exact kb_str_tuple | exact kb_int_str | exact kb_int_int | exact kb_int_bool | exact kb_int_list | exact kb_int_tuple | exact kb_bool_str | exact kb_bool_int | exact kb_bool_bool | exact kb_bool_list | exact kb_bool_tuple | exact kb_list_str | exact kb_list_int | exact kb_list_bool | exact kb_list_list | exact kb_list_tuple | exact kb_tuple_str | exact kb_tuple_int | exact kb_tuple_bool | exact kb_tuple_list | exact kb_tuple_tuple | exact kb_NoneType_str | exact kb_NoneType_int | exact kb_NoneType_bool | exact kb_NoneType_list | exact kb_NoneType_tuple)
local macro_rules | `(tactic| walk_at "hp") => `(tactic| first | assumption | exact upd_same | (refine (upd_ne (by first | assumption | (apply Ne.symm; assumption))).trans ?_; walk_at "hp"))
local macro_rules | `(tactic| walk_at "sq") => `(tactic| first | assumption | exact SqL.of (by walk_at "hp"))
local macro_rules | `(tactic| walk_at "sqt") => `(tactic| first | assumption | exact SqT.of (by walk_at "hp"))
local macro_rules | `(tactic| walk_at "ar") => `(tactic| first | omega | (dsimp only; omega) | (unfold CMul; omega) | (unfold CDiv; omega) | (unfold CPow; refine ⟨?_, ?_, ?_⟩ <;> decide) | (simp only [List.length_cons, List.length_nil]; decide))
local macro_rules | `(tactic| walk_at "rd") => `(tactic| first
  | with_reducible refine rd_seq ?_
  | with_reducible refine rd_asg ?_
  | with_reducible refine rd_if ?_
  | with_reducible refine rd_ret ?_
  | with_reducible refine rd_drop ?_
  | with_reducible refine rd_name ?_
  | with_reducible refine rd_sub ?_
  | ((with_reducible refine' rd_var ?e ?_); (case e => exact rfl))
  | with_reducible refine rd_c ?_
  | with_reducible refine rd_op ?_
  | with_reducible refine rd_un ?_
  | with_reducible refine rd_I0 ?_
  | ((with_reducible refine' rd_I ?c ?_); (case c => walk_at "ar"))
  | with_reducible refine rd_U ?_
  | with_reducible refine rd_eqI ?_
  | with_reducible refine rd_neI ?_
  | with_reducible refine rd_eqS ?_
  | with_reducible refine rd_neS ?_
  | with_reducible refine rd_eqB ?_
  | with_reducible refine rd_neB ?_
  | with_reducible refine rd_test ?_
  | with_reducible refine rd_B ?_
  | with_reducible refine rd_and ?_
  | with_reducible refine rd_or ?_
  | with_reducible refine rd_not ?_
  | with_reducible refine rd_andV ?_
  | with_reducible refine rd_orV ?_
  | with_reducible refine rd_notV ?_
  | with_reducible refine rd_ifE ?_
  | with_reducible refine rd_isN ?_
  | with_reducible refine rd_notN ?_
  | with_reducible refine rd_cons ?_
  | with_reducible refine rd_nil ?_
  | with_reducible refine rd_lst ?_
  | with_reducible refine rd_tup ?_
  | with_reducible refine rd_CB ?_
  | with_reducible refine rd_call ?_
  | with_reducible refine rd_sl ?_
  | with_reducible refine rd_part ?_
  | with_reducible refine rd_nopart ?_
  | with_reducible refine rd_par ?_
  | with_reducible refine rd_two ?_
  | with_reducible refine rd_next ?_
  | with_reducible refine rd_retN ?_
  | with_reducible refine rd_bool ?_
  | with_reducible refine rd_int ?_
  | with_reducible refine rd_intI ?_
  | with_reducible refine rd_intB ?_
  | with_reducible refine rd_ltS ?_
  | with_reducible refine rd_leS ?_
  | with_reducible refine rd_gtS ?_
  | with_reducible refine rd_geS ?_
  | with_reducible refine rd_inC ?_
  | with_reducible refine rd_notInC ?_
  | with_reducible refine rd_abs ?_
  | with_reducible refine rd_max2 ?_
  | with_reducible refine rd_min2 ?_
  | with_reducible refine rd_M1 ?_
  | with_reducible refine rd_isStr ?_
  | ((with_reducible refine' rd_len ?b ?_); (case b => (simp only [List.length_cons, List.length_nil]; decide)))
  | ((with_reducible refine' rd_listS ?b ?_); (case b => first | (simp only [List.length_take, List.length_cons, List.length_nil]; omega) | omega))
  | ((with_reducible refine' rd_isi ?ty ?h ?_); (case ty => first | exact ty_str | exact ty_int | exact ty_bl | exact ty_non | exact ty_lst (by walk_at "hp") | exact ty_tup (by walk_at "hp")); (case h => walk_at "kb"))
  | with_reducible refine rd_lc ?_
  | with_reducible refine rd_for ?_
  | with_reducible refine rd_iList ?_
  | with_reducible refine rd_iTup ?_
  | with_reducible refine rd_iRng1 ?_
  | with_reducible refine rd_iRng2 ?_
  | with_reducible refine rd_iRng3 ?_
  | with_reducible refine rd_iStr ?_
  | with_reducible refine rd_qIs ?_
  | with_reducible refine rd_whb ?_
  | ((with_reducible refine' rd_qIl ?sq ?_); (case sq => walk_at "sq"))
  | ((with_reducible refine' rd_qItu ?sq ?_); (case sq => walk_at "sqt"))
  | ((with_reducible refine' rd_qIr1 ?b1 ?b2 ?_); (case b1 => walk_at "ar"); (case b2 => walk_at "ar"))
  | ((with_reducible refine' rd_qIr2 ?b1 ?b2 ?b3 ?b4 ?_); (case b1 => walk_at "ar"); (case b2 => walk_at "ar"); (case b3 => walk_at "ar"); (case b4 => walk_at "ar"))
  | ((with_reducible refine' rd_qIr3 ?b1 ?b2 ?b3 ?b4 ?_); (case b1 => walk_at "ar"); (case b2 => walk_at "ar"); (case b3 => walk_at "ar"); (case b4 => walk_at "ar"))
  | ((with_reducible refine' rd_mulS ?b1 ?b2 ?b3 ?_); (case b1 => walk_at "ar"); (case b2 => walk_at "ar"); (case b3 => walk_at "ar"))
  | ((with_reducible refine' rd_slS_to ?b1 ?b2 ?_); (case b1 => walk_at "ar"); (case b2 => walk_at "ar"))
  | ((with_reducible refine' rd_slS_from ?b1 ?b2 ?_); (case b1 => walk_at "ar"); (case b2 => walk_at "ar"))
  | ((with_reducible refine' rd_slS_mid ?b1 ?b2 ?b3 ?b4 ?_); (case b1 => walk_at "ar"); (case b2 => walk_at "ar"); (case b3 => walk_at "ar"); (case b4 => walk_at "ar"))
  | ((with_reducible refine' rd_slL ?sq ?_); (case sq => walk_at "sq"))
  | with_reducible refine rd_true ?_
  | with_reducible refine rd_false ?_
  | with_reducible refine rd_nt ?_
  | with_reducible refine rd_nf ?_
  | ((with_reducible refine' rd_decT ?h ?_); (case h => omega))
  | ((with_reducible refine' rd_decF ?h ?_); (case h => omega))
  | ((with_reducible refine' rd_ndecT ?h ?_); (case h => omega))
  | ((with_reducible refine' rd_ndecF ?h ?_); (case h => omega))
  | ((with_reducible refine' rd_evT ?h ?_); (case h => first | exact rfl | (simp; done)))
  | ((with_reducible refine' rd_evF ?h ?_); (case h => first | exact rfl | (simp; done)))
  | ((with_reducible refine' rd_ixL ?sq ?a1 ?_); (case sq => walk_at "sq"); (case a1 => first | exact rfl | exact at_of (by omega) (by assumption)))
  | ((with_reducible refine' rd_ixT ?sq ?a1 ?_); (case sq => walk_at "sqt"); (case a1 => first | exact rfl | exact at_of (by omega) (by assumption)))
  | ((with_reducible refine' rd_lenL ?sq ?_); (case sq => walk_at "sq"))
  | ((with_reducible refine' rd_lenT ?sq ?_); (case sq => walk_at "sqt"))
  | ((with_reducible refine' rd_setL ?h ?j ?_); (case h => walk_at "hp"); (case j => exact rfl); (with_reducible refine id ?_))
  | ((with_reducible refine' rd_strlen ?l ?_); (case l => walk_at "ar"))
  | ((with_reducible refine' rd_cat ?l ?_); (case l => walk_at "ar")))
local macro_rules | `(tactic| walk_at "go") => `(tactic| ((try dsimp only); (repeat (walk_at "rd"))))
local macro_rules | `(tactic| walk_at "rd") => `(tactic| first
  | with_reducible refine rd_lstRg ?_
  | with_reducible refine rd_tRg1 ?_
  | with_reducible refine rd_tRg2 ?_
  | with_reducible refine rd_rg1 ?_
  | with_reducible refine rd_rg2 ?_
  | ((with_reducible refine' rd_qRg ?b ?_); (case b => refine ⟨?_, ?_, ?_, ?_⟩ <;> omega))
  | with_reducible refine rd_tDGet ?_
  | with_reducible refine rd_sDPut ?_
  | with_reducible refine rd_dnew ?_
  | with_reducible refine rd_iZipS ?_
  | with_reducible refine rd_zipS ?_
  | ((with_reducible refine' rd_inI ?sq ?_); (case sq => walk_at "sq"))
  | ((with_reducible refine' rd_notInI ?sq ?_); (case sq => walk_at "sq"))
  | with_reducible refine rd_chain ?_)

section
variable {P : Program} {w : World} {K : PySem.W.Frag} {mg : Str → Option Value} {base : Heap}
theorem ok__law_is_leaf {f : Addr} {fd : FuncData} (F : Fun K "_law_is" "_law_is" s__law_is f fd) (T : Txt K mg) : FnOk P w K mg base CX0 1 f fd ["shown", "due"] (sp__law_is_leaf K) := by
  refine F.ok sc__law_is (fun vs H Q E h => by repeat (first | (obtain ⟨rfl, _⟩ := h; rfl) | obtain ⟨_, h⟩ := h)) (fun cdv A outer s H vs Q E hr h => ?_)
  refine ⟨_, (pss_cons (ps_if (pt_val (pe_callB call_isiT rfl T.n_isinstance boot_isinstance (pa_cons (pv 1) (pa_cons (pe_tup (pa_cons (pe_bltn (v := .ty "tuple") rfl T.n_tuple boot_tuple rfl) (pa_cons (pe_bltn (v := .ty "list") rfl T.n_list boot_list rfl) pa_nil))) pa_nil)))) pss_never pss_nil)
  (pss_cons (ps_if (PW.pt (pw_or (pt_cmp (pc_isN (pv 1))) (pw_or1 (pt_cmp (pc_isN (pv 0)))))) (pss_one (ps_ret (pe_and (pe_cmp (pc_isN (pv 1)) rfl) (pe_one (pe_cmp (pc_isN (pv 0)) rfl))))) pss_nil)
  (pss_cons (ps_if (PW.pt (pw_or (pt_cmpR op_ne (pe_callB call_isi rfl T.n_isinstance boot_isinstance (pa_cons (pv 0) (pa_cons (pe_bltn (v := .ty "bool") rfl T.n_bool boot_bool rfl) pa_nil))) (pe_callB call_isi rfl T.n_isinstance boot_isinstance (pa_cons (pv 1) (pa_cons (pe_bltn (v := .ty "bool") rfl T.n_bool boot_bool rfl) pa_nil))) (nomark _)) (pw_or1 (pt_cmpR op_ne (pe_callB call_isi rfl T.n_isinstance boot_isinstance (pa_cons (pv 0) (pa_cons (pe_bltn (v := .ty "int") rfl T.n_int boot_int rfl) pa_nil))) (pe_callB call_isi rfl T.n_isinstance boot_isinstance (pa_cons (pv 1) (pa_cons (pe_bltn (v := .ty "int") rfl T.n_int boot_int rfl) pa_nil))) (nomark _))))) (pss_one (ps_ret pe_bl)) pss_nil)
  (pss_one (ps_ret (pe_and (pe_cmpR op_eq (pe_callB call_isi rfl T.n_isinstance boot_isinstance (pa_cons (pv 0) (pa_cons (pe_bltn (v := .ty "str") rfl T.n_str boot_str rfl) pa_nil))) (pe_callB call_isi rfl T.n_isinstance boot_isinstance (pa_cons (pv 1) (pa_cons (pe_bltn (v := .ty "str") rfl T.n_str boot_str rfl) pa_nil))) (nomark _)) (pe_one (pe_cmpR op_eq (pv 0) (pv 1) (nomark _))))))))), ?_⟩
  try dsimp only [cxOf, Cx.nox, Cx.wish]
  obtain ⟨x, rfl, hx, k⟩ := h
  have sn : ∀ {p : Addr} {o : HO}, H p = none → Same H (upd H p o) := fun n => Same.new n
  rcases hx with ⟨i, rfl⟩ | ⟨b, rfl⟩ | ⟨l, rfl⟩ | rfl <;>
  · walk_at "go"
    intro tp ntp
    walk_at "go"
    refine rd_isiTL upd_same (by first | exact ty_str | exact ty_int | exact ty_bl | exact ty_non) (by walk_at "kb") (by walk_at "kb") ?_
    walk_at "go"
    first | exact k _ (sn ntp) | (simp only [decide_true, beq_self_eq_true]; exact k _ (sn ntp))
theorem ok__law_is {f : Addr} {fd : FuncData} (F : Fun K "_law_is" "_law_is" s__law_is f fd) (T : Txt K mg) (C__law_is_leaf : Cal P w K mg base 1 "_law_is" (sp__law_is_leaf K)) : FnOk P w K mg base CX0 2 f fd ["shown", "due"] (sp__law_is K) := by
  refine F.ok sc__law_is (fun vs H Q E h => by repeat (first | (obtain ⟨rfl, _⟩ := h; rfl) | obtain ⟨_, h⟩ := h)) (fun cdv A outer s H vs Q E hr h => ?_)
  refine ⟨_, (pss_cons (ps_if (pt_val (pe_callB call_isiT rfl T.n_isinstance boot_isinstance (pa_cons (pv 1) (pa_cons (pe_tup (pa_cons (pe_bltn (v := .ty "tuple") rfl T.n_tuple boot_tuple rfl) (pa_cons (pe_bltn (v := .ty "list") rfl T.n_list boot_list rfl) pa_nil))) pa_nil)))) (pss_cons (ps_if (PW.pt (pw_or (pt_cmpR op_ne (pe_callB call_isi rfl T.n_isinstance boot_isinstance (pa_cons (pv 0) (pa_cons (pe_bltn (v := .ty "tuple") rfl T.n_tuple boot_tuple rfl) pa_nil))) (pe_callB call_isi rfl T.n_isinstance boot_isinstance (pa_cons (pv 1) (pa_cons (pe_bltn (v := .ty "tuple") rfl T.n_tuple boot_tuple rfl) pa_nil))) (nomark _)) (pw_or1 (pt_cmpR op_ne (pe_callB call_isi rfl T.n_isinstance boot_isinstance (pa_cons (pv 0) (pa_cons (pe_bltn (v := .ty "list") rfl T.n_list boot_list rfl) pa_nil))) (pe_callB call_isi rfl T.n_isinstance boot_isinstance (pa_cons (pv 1) (pa_cons (pe_bltn (v := .ty "list") rfl T.n_list boot_list rfl) pa_nil))) (nomark _))))) (pss_one (ps_ret pe_bl)) pss_nil)
  (pss_one (ps_ret (pe_and (pe_cmpR op_eq (pe_callB cq_len rfl T.n_len boot_len (pa_cons (pv 0) pa_nil)) (pe_callB cq_len rfl T.n_len boot_len (pa_cons (pv 1) pa_nil)) (nomark _)) (pe_one (pe_callB (cr_all rfl) rfl T.n_all boot_all (pa_cons (pe_lc (own := [("one", 2), ("other", 3)]) rfl sc__law_is.nd (RZ.pi_zipA rfl T.n_zip (pa_cons (pv 0) (pa_cons (pv 1) pa_nil))) (blkOk_by (N := N__law_is) (sc := defScope s__law_is) (by decide +kernel)) (fun _ _ _ _ _ => (pg_two (i := 2) (j := 3) K rfl rfl sc__law_is.nd rfl (Or.inl rfl) rfl (Or.inl rfl))) (fun _ _ _ _ _ => pts_nil) (fun _ _ _ _ _ => (pe_c C__law_is_leaf hr (by decide) rfl (pa_cons (pv 2) (pa_cons (pv 3) pa_nil))))) pa_nil))))))) pss_nil)
  (pss_cons (ps_if (PW.pt (pw_or (pt_cmp (pc_isN (pv 1))) (pw_or1 (pt_cmp (pc_isN (pv 0)))))) (pss_one (ps_ret (pe_and (pe_cmp (pc_isN (pv 1)) rfl) (pe_one (pe_cmp (pc_isN (pv 0)) rfl))))) pss_nil)
  (pss_cons (ps_if (PW.pt (pw_or (pt_cmpR op_ne (pe_callB call_isi rfl T.n_isinstance boot_isinstance (pa_cons (pv 0) (pa_cons (pe_bltn (v := .ty "bool") rfl T.n_bool boot_bool rfl) pa_nil))) (pe_callB call_isi rfl T.n_isinstance boot_isinstance (pa_cons (pv 1) (pa_cons (pe_bltn (v := .ty "bool") rfl T.n_bool boot_bool rfl) pa_nil))) (nomark _)) (pw_or1 (pt_cmpR op_ne (pe_callB call_isi rfl T.n_isinstance boot_isinstance (pa_cons (pv 0) (pa_cons (pe_bltn (v := .ty "int") rfl T.n_int boot_int rfl) pa_nil))) (pe_callB call_isi rfl T.n_isinstance boot_isinstance (pa_cons (pv 1) (pa_cons (pe_bltn (v := .ty "int") rfl T.n_int boot_int rfl) pa_nil))) (nomark _))))) (pss_one (ps_ret pe_bl)) pss_nil)
  (pss_one (ps_ret (pe_and (pe_cmpR op_eq (pe_callB call_isi rfl T.n_isinstance boot_isinstance (pa_cons (pv 0) (pa_cons (pe_bltn (v := .ty "str") rfl T.n_str boot_str rfl) pa_nil))) (pe_callB call_isi rfl T.n_isinstance boot_isinstance (pa_cons (pv 1) (pa_cons (pe_bltn (v := .ty "str") rfl T.n_str boot_str rfl) pa_nil))) (nomark _)) (pe_one (pe_cmpR op_eq (pv 0) (pv 1) (nomark _))))))))), ?_⟩
  try dsimp only [cxOf, Cx.nox, Cx.wish]
  obtain ⟨x, y, rfl, hx, k⟩ := h
  have sn : ∀ {p : Addr} {o : HO}, H p = none → Same H (upd H p o) := fun n => Same.new n
  rcases hx with ⟨rfl, hx⟩ | ⟨p, q, xs, rfl, rfl, hxs, hl, hx⟩
  · rcases hx with ⟨i, rfl⟩ | ⟨b, rfl⟩ | ⟨l, rfl⟩ | rfl <;>
    · walk_at "go"
      intro tp ntp
      walk_at "go"
      refine rd_isiTL upd_same (by first | exact ty_str | exact ty_int | exact ty_bl | exact ty_non) (by walk_at "kb") (by walk_at "kb") ?_
      walk_at "go"
      first | exact k _ (sn ntp) | (simp only [decide_true, beq_self_eq_true]; exact k _ (sn ntp))
  · have fin : ∀ {H1 : Hp} {D : Addr}, Same H H1 → H1 D = some (.lst ((List.range xs.length).map fun _ => V.bl true)) → rAll K [.ref D] H1 Q := fun {H1 D} s1 hD => by
      refine rd_all (bs := (List.range xs.length).map fun _ => true) (SqL.of (by rw [hD, List.map_map]; rfl)) ?_
      rw [show ((List.range xs.length).map fun _ => true).all id = true by simp]
      exact k _ s1
    have turn : ∀ (H1 : Hp) (i : Nat) (u v : V), i < xs.length → xs[i]? = some u → xs[i]? = some v → PE0 (tCall (sp__law_is_leaf K) [] E0 (tCons (tVar 2) (tCons (tVar 3) tNil))) [some (.ref p), some (.ref q), some u, some v] H1 (.bl true) := fun H1 i u v hi hu hv => by
      intro H2 s2 Q2 q2
      have e : u = v := by rw [hu] at hv; exact Option.some.inj hv
      subst e
      walk_at "go"
      exact ⟨u, rfl, hxs u (List.mem_of_getElem? hu), fun H3 s3 => q2 _ s3⟩
    rcases hx with ⟨hp, hq⟩ | ⟨hp, hq⟩
    · walk_at "go"
      intro tp ntp
      have hp1 := ne_of_none hp ntp
      have hq1 := ne_of_none hq ntp
      walk_at "go"
      refine rd_isiTL upd_same (ty_lst (by walk_at "hp")) (by walk_at "kb") (by walk_at "kb") ?_
      walk_at "go"
      refine rd_iZip ?_
      walk_at "go"
      have hp2 : SqL K (upd H tp (HO.tup [V.ty "tuple", V.ty "list"])) p xs := .of (by walk_at "hp")
      have hq2 : SqL K (upd H tp (HO.tup [V.ty "tuple", V.ty "list"])) q xs := .of (by walk_at "hp")
      refine rd_zipL hp2 hq2 ?_
      refine lcZ (walk_zip (by omega)) (fun H' s => ⟨Same.seq s hp2, Same.seq s hq2⟩) (fun _ => .bl true) hl (fun _ _ => rfl) (fun i u v hi hu hv => turn _ i u v hi hu hv) (fun D H1 nD s1 hD => ?_)
      walk_at "go"
      exact fin ((sn ntp).trans s1) hD
    · walk_at "go"
      intro tp ntp
      have hp1 := ne_of_none hp ntp
      have hq1 := ne_of_none hq ntp
      walk_at "go"
      refine rd_isiTL upd_same (ty_tup (by walk_at "hp")) (by walk_at "kb") (by walk_at "kb") ?_
      walk_at "go"
      refine rd_iZip ?_
      walk_at "go"
      have hp2 : SqT K (upd H tp (HO.tup [V.ty "tuple", V.ty "list"])) p xs := .of (by walk_at "hp")
      have hq2 : SqT K (upd H tp (HO.tup [V.ty "tuple", V.ty "list"])) q xs := .of (by walk_at "hp")
      refine rd_zipT hp2 hq2 ?_
      refine lcZ (walk_zipT rfl) (fun H' s => ⟨Same.seqT s hp2, Same.seqT s hq2⟩) (fun _ => .bl true) hl (fun _ _ => rfl) (fun i u v hi hu hv => turn _ i u v hi hu hv) (fun D H1 nD s1 hD => ?_)
      walk_at "go"
      exact fin ((sn ntp).trans s1) hD

end
end My
namespace My
open PySem PySem.Spec L2 SX
open PyProof.Rows hiding St
open Lyn (sg rootN)
local macro_rules | `(tactic| walk_at "kb") => `(tactic| first | exact kb_str_str | exact kb_str_int | exact kb_str_bool | exact kb_str_list | exact kb_str_tuple | exact kb_int_str | exact kb_int_int | exact kb_int_bool | exact kb_int_list | exact kb_int_tuple | exact kb_bool_str | exact kb_bool_int | exact kb_bool_bool | exact kb_bool_list | exact kb_bool_tuple | exact kb_list_str | exact kb_list_int | exact kb_list_bool | exact kb_list_list | exact kb_list_tuple | exact kb_tuple_str | exact kb_tuple_int | exact kb_tuple_bool | exact kb_tuple_list | exact kb_tuple_tuple | exact kb_NoneType_str | exact kb_NoneType_int | exact kb_NoneType_bool | exact kb_NoneType_list | exact kb_NoneType_tuple)
local macro_rules | `(tactic| walk_at "hp") => `(tactic| first | assumption | exact upd_same | (refine (upd_ne (by first | assumption | (apply Ne.symm; assumption))).trans ?_; walk_at "hp"))
local macro_rules | `(tactic| walk_at "sq") => `(tactic| first | assumption | exact SqL.of (by walk_at "hp"))
local macro_rules | `(tactic| walk_at "sqt") => `(tactic| first | assumption | exact SqT.of (by walk_at "hp"))
local macro_rules | `(tactic| walk_at "ar") => `(tactic| first | omega | (dsimp only; omega) | (unfold CMul; omega) | (unfold CDiv; omega) | (unfold CPow; refine ⟨?_, ?_, ?_⟩ <;> decide) | (simp only [List.length_cons, List.length_nil]; decide))
local macro_rules | `(tactic| walk_at "rd") => `(tactic| first
  | with_reducible refine rd_seq ?_
  | with_reducible refine rd_asg ?_
  | with_reducible refine rd_if ?_
  | with_reducible refine rd_ret ?_
  | with_reducible refine rd_drop ?_
  | with_reducible refine rd_name ?_
  | with_reducible refine rd_sub ?_
  | ((with_reducible refine' rd_var ?e ?_); (case e => exact rfl))
  | with_reducible refine rd_c ?_
  | with_reducible refine rd_op ?_
  | with_reducible refine rd_un ?_
  | with_reducible refine rd_I0 ?_
  | ((with_reducible refine' rd_I ?c ?_); (case c => walk_at "ar"))
  | with_reducible refine rd_U ?_
  | with_reducible refine rd_eqI ?_
  | with_reducible refine rd_neI ?_
  | with_reducible refine rd_eqS ?_
  | with_reducible refine rd_neS ?_
  | with_reducible refine rd_eqB ?_
  | with_reducible refine rd_neB ?_
  | with_reducible refine rd_test ?_
  | with_reducible refine rd_B ?_
  | with_reducible refine rd_and ?_
  | with_reducible refine rd_or ?_
  | with_reducible refine rd_not ?_
  | with_reducible refine rd_andV ?_
  | with_reducible refine rd_orV ?_
  | with_reducible refine rd_notV ?_
  | with_reducible refine rd_ifE ?_
  | with_reducible refine rd_isN ?_
  | with_reducible refine rd_notN ?_
  | with_reducible refine rd_cons ?_
  | with_reducible refine rd_nil ?_
  | with_reducible refine rd_lst ?_
  | with_reducible refine rd_tup ?_
  | with_reducible refine rd_CB ?_
  | with_reducible refine rd_call ?_
  | with_reducible refine rd_sl ?_
  | with_reducible refine rd_part ?_
  | with_reducible refine rd_nopart ?_
  | with_reducible refine rd_par ?_
  | with_reducible refine rd_two ?_
  | with_reducible refine rd_next ?_
  | with_reducible refine rd_retN ?_
  | with_reducible refine rd_bool ?_
  | with_reducible refine rd_int ?_
  | with_reducible refine rd_intI ?_
  | with_reducible refine rd_intB ?_
  | with_reducible refine rd_ltS ?_
  | with_reducible refine rd_leS ?_
  | with_reducible refine rd_gtS ?_
  | with_reducible refine rd_geS ?_
  | with_reducible refine rd_inC ?_
  | with_reducible refine rd_notInC ?_
  | with_reducible refine rd_abs ?_
  | with_reducible refine rd_max2 ?_
  | with_reducible refine rd_min2 ?_
  | with_reducible refine rd_M1 ?_
  | with_reducible refine rd_isStr ?_
  | ((with_reducible refine' rd_len ?b ?_); (case b => (simp only [List.length_cons, List.length_nil]; decide)))
  | ((with_reducible refine' rd_listS ?b ?_); (case b => first | (simp only [List.length_take, List.length_cons, List.length_nil]; omega) | omega))
  | ((with_reducible refine' rd_isi ?ty ?h ?_); (case ty => first | exact ty_str | exact ty_int | exact ty_bl | exact ty_non | exact ty_lst (by walk_at "hp") | exact ty_tup (by walk_at "hp")); (case h => walk_at "kb"))
  | with_reducible refine rd_lc ?_
  | with_reducible refine rd_for ?_
  | with_reducible refine rd_iList ?_
  | with_reducible refine rd_iTup ?_
  | with_reducible refine rd_iRng1 ?_
  | with_reducible refine rd_iRng2 ?_
  | with_reducible refine rd_iRng3 ?_
  | with_reducible refine rd_iStr ?_
  | with_reducible refine rd_qIs ?_
  | with_reducible refine rd_whb ?_
  | ((with_reducible refine' rd_qIl ?sq ?_); (case sq => walk_at "sq"))
  | ((with_reducible refine' rd_qItu ?sq ?_); (case sq => walk_at "sqt"))
  | ((with_reducible refine' rd_qIr1 ?b1 ?b2 ?_); (case b1 => walk_at "ar"); (case b2 => walk_at "ar"))
  | ((with_reducible refine' rd_qIr2 ?b1 ?b2 ?b3 ?b4 ?_); (case b1 => walk_at "ar"); (case b2 => walk_at "ar"); (case b3 => walk_at "ar"); (case b4 => walk_at "ar"))
  | ((with_reducible refine' rd_qIr3 ?b1 ?b2 ?b3 ?b4 ?_); (case b1 => walk_at "ar"); (case b2 => walk_at "ar"); (case b3 => walk_at "ar"); (case b4 => walk_at "ar"))
  | ((with_reducible refine' rd_mulS ?b1 ?b2 ?b3 ?_); (case b1 => walk_at "ar"); (case b2 => walk_at "ar"); (case b3 => walk_at "ar"))
  | ((with_reducible refine' rd_slS_to ?b1 ?b2 ?_); (case b1 => walk_at "ar"); (case b2 => walk_at "ar"))
  | ((with_reducible refine' rd_slS_from ?b1 ?b2 ?_); (case b1 => walk_at "ar"); (case b2 => walk_at "ar"))
  | ((with_reducible refine' rd_slS_mid ?b1 ?b2 ?b3 ?b4 ?_); (case b1 => walk_at "ar"); (case b2 => walk_at "ar"); (case b3 => walk_at "ar"); (case b4 => walk_at "ar"))
  | ((with_reducible refine' rd_slL ?sq ?_); (case sq => walk_at "sq"))
  | with_reducible refine rd_true ?_
  | with_reducible refine rd_false ?_
  | with_reducible refine rd_nt ?_
  | with_reducible refine rd_nf ?_
  | ((with_reducible refine' rd_decT ?h ?_); (case h => omega))
  | ((with_reducible refine' rd_decF ?h ?_); (case h => omega))
  | ((with_reducible refine' rd_ndecT ?h ?_); (case h => omega))
  | ((with_reducible refine' rd_ndecF ?h ?_); (case h => omega))
  | ((with_reducible refine' rd_evT ?h ?_); (case h => first | exact rfl | (simp; done)))
  | ((with_reducible refine' rd_evF ?h ?_); (case h => first | exact rfl | (simp; done)))
  | ((with_reducible refine' rd_ixL ?sq ?a1 ?_); (case sq => walk_at "sq"); (case a1 => first | exact rfl | exact at_of (by omega) (by assumption)))
  | ((with_reducible refine' rd_ixT ?sq ?a1 ?_); (case sq => walk_at "sqt"); (case a1 => first | exact rfl | exact at_of (by omega) (by assumption)))
  | ((with_reducible refine' rd_lenL ?sq ?_); (case sq => walk_at "sq"))
  | ((with_reducible refine' rd_lenT ?sq ?_); (case sq => walk_at "sqt"))
  | ((with_reducible refine' rd_setL ?h ?j ?_); (case h => walk_at "hp"); (case j => exact rfl); (with_reducible refine id ?_))
  | ((with_reducible refine' rd_strlen ?l ?_); (case l => walk_at "ar"))
  | ((with_reducible refine' rd_cat ?l ?_); (case l => walk_at "ar")))
local macro_rules | `(tactic| walk_at "go") => `(tactic| ((try dsimp only); (repeat (walk_at "rd"))))
local macro_rules | `(tactic| walk_at "rd") => `(tactic| first
  | with_reducible refine rd_lstRg ?_
  | with_reducible refine rd_tRg1 ?_
  | with_reducible refine rd_tRg2 ?_
  | with_reducible refine rd_rg1 ?_
  | with_reducible refine rd_rg2 ?_
  | ((with_reducible refine' rd_qRg ?b ?_); (case b => refine ⟨?_, ?_, ?_, ?_⟩ <;> omega))
  | with_reducible refine rd_tDGet ?_
  | with_reducible refine rd_sDPut ?_
  | with_reducible refine rd_dnew ?_
  | with_reducible refine rd_iZipS ?_
  | with_reducible refine rd_zipS ?_
  | ((with_reducible refine' rd_inI ?sq ?_); (case sq => walk_at "sq"))
  | ((with_reducible refine' rd_notInI ?sq ?_); (case sq => walk_at "sq"))
  | with_reducible refine rd_chain ?_)

section
variable {P : Program} {w : World} {K : PySem.W.Frag} {mg : Str → Option Value} {base : Heap}
theorem ok_is_number {f : Addr} {fd : FuncData} (F : Fun K "is_number" "is_number" s_is_number f fd) (T : Txt K mg) : FnOk P w K mg base CX0 1 f fd ["thing"] (sp_is_number K) := by
  refine F.ok sc_is_number (fun vs H Q E h => by repeat (first | (obtain ⟨rfl, _⟩ := h; rfl) | obtain ⟨_, h⟩ := h)) (fun cdv A outer s H vs Q E hr h => ?_)
  refine ⟨_, (pss_one (ps_ret (pe_and (pe_callB call_isi rfl T.n_isinstance boot_isinstance (pa_cons (pv 0) (pa_cons (pe_bltn (v := .ty "int") rfl T.n_int boot_int rfl) pa_nil))) (pe_one (pe_not (pe_callB call_isi rfl T.n_isinstance boot_isinstance (pa_cons (pv 0) (pa_cons (pe_bltn (v := .ty "bool") rfl T.n_bool boot_bool rfl) pa_nil)))))))), ?_⟩
  try dsimp only [cxOf, Cx.nox, Cx.wish]
  obtain ⟨i, rfl, k⟩ := h
  walk_at "go"
  exact k _ (Same.refl _)
theorem ok__law_divisor {f : Addr} {fd : FuncData} (F : Fun K "_law_divisor" "_law_divisor" s__law_divisor f fd) (T : Txt K mg) : FnOk P w K mg base CX0 1 f fd ["one", "other"] (sp__law_divisor K) := by
  refine F.ok sc__law_divisor (fun vs H Q E h => by repeat (first | (obtain ⟨rfl, _⟩ := h; rfl) | obtain ⟨_, h⟩ := h)) (fun cdv A outer s H vs Q E hr h => ?_)
  refine ⟨_, (pss_cons (ps_while PassesOwn.never (pt_cmpR op_gt (pv 1) pe_int (nomark _)) (pss_one (ps_par (i := 0) (j := 1) rfl sc__law_divisor.nd rfl rfl (by decide) rfl rfl (pa_cons (pv 1) (pa_cons (pe_op op_mod (pe_callTy cq_int rfl T.n_int boot_int (pa_cons (pv 0) pa_nil)) (pv 1)) pa_nil)) (by rfl))))
  (pss_one (ps_ret (pv 0)))), ?_⟩
  try dsimp only [cxOf, Cx.nox, Cx.wish]
  obtain ⟨p, q, rfl, k⟩ := h
  walk_at "go"
  refine rd_while (fun m σ' H' => H' = H ∧ ∃ a : Nat, Nat.gcd a m = Nat.gcd p q ∧ σ' = [some (.int (a : Int)), some (.int (m : Int))]) q ⟨rfl, p, rfl, rfl⟩ ?_
  rintro m σ1 H1 ⟨rfl, a, hg, rfl⟩
  walk_at "go"
  refine rd_dec (fun e => ?_) (fun e => ?_)
  · walk_at "go"
    have e1 : ((a : Int) % (m : Int)) = ((a % m : Nat) : Int) := by rw [Int.natCast_emod]
    rw [e1]
    refine ⟨a % m, Nat.mod_lt _ (by omega), rfl, m, ?_, rfl⟩
    rw [← hg, Nat.gcd_comm a m, Nat.gcd_rec m a, Nat.gcd_comm]
  · walk_at "go"
    have : m = 0 := by omega
    subst this
    rw [Nat.gcd_zero_right] at hg
    rw [hg]
    exact k _ (Same.refl _)
theorem wpS_len {per pl : Nat} {hs : List Int} : (wpS per hs pl).length = hs.length := by unfold wpS; rw [List.length_map]
theorem wpP_succ {n per k : Nat} {hs : List Int} : wpP n hs per (k + 1) = wpS per (wpP n hs per k) (per + k) := by
  unfold wpP
  rw [List.range_succ, List.foldl_append]
  rfl
theorem wpP_len {n per : Nat} {hs : List Int} : ∀ k, (wpP n hs per k).length = hs.length
  | 0 => rfl
  | k + 1 => by rw [wpP_succ, wpS_len, wpP_len k]
/-- the heads behind some of the periods -/
def wpL (n : Nat) (ls : List Nat) : List Int := ls.foldl (fun hs per => wpP n hs per (n - per)) ((List.range n).map fun i : Nat => (i : Int))
theorem wpL_len {n : Nat} {ls : List Nat} : (wpL n ls).length = n := by
  unfold wpL
  have key : ∀ (ls : List Nat) (hs : List Int), (ls.foldl (fun hs per => wpP n hs per (n - per)) hs).length = hs.length := by
    intro ls
    induction ls with
    | nil => intro hs; rfl
    | cons p ls ih => intro hs; rw [List.foldl_cons, ih, wpP_len]
  rw [key]
  simp
theorem ok_with_periods {f : Addr} {fd : FuncData} (F : Fun K "with_periods" "with_periods" s_with_periods f fd) (T : Txt K mg) (C_is_number : Cal P w K mg base 1 "is_number" (sp_is_number K)) : FnOk P w K mg base CX0 2 f fd ["length", "first", "second"] (sp_with_periods K) := by
  refine F.ok sc_with_periods (fun vs H Q E h => by repeat (first | (obtain ⟨rfl, _⟩ := h; rfl) | obtain ⟨_, h⟩ := h)) (fun cdv A outer s H vs Q E hr h => ?_)
  refine ⟨_, (pss_cons (ps_for PassesOwn.never rfl (pi_tup (pe_tup (pa_cons (pv 0) (pa_cons (pv 1) (pa_cons (pv 2) pa_nil))))) (pg_name (i := 3) sc_with_periods.nd rfl (Or.inl rfl))
  (pss_one (ps_if (PW.pt (pw_or (pt_not (pt_val (pe_c C_is_number hr (by decide) rfl (pa_cons (pv 3) pa_nil)))) (pw_or1 (pt_not (pt_chain op_le op_le pe_int (pv 3) (C8.pe_gc rfl T.c_MOST_SIGNS)))))) (pss_one ps_never) pss_nil)))
  (pss_cons (ps_set (i := 4) sc_with_periods.nd rfl (Or.inl rfl) (pe_listRg rfl rfl T.n_list (prg_1 rfl T.n_range (pv 0))))
  (pss_cons (ps_for PassesOwn.never rfl (pi_tup (pe_tup (pa_cons (pv 1) (pa_cons (pv 2) pa_nil)))) (pg_name (i := 5) sc_with_periods.nd rfl (Or.inl rfl))
  (pss_one (ps_for PassesOwn.never rfl (pi_range2 rfl T.n_range (pa_cons (pv 5) (pa_cons (pv 0) pa_nil))) (pg_name (i := 6) sc_with_periods.nd rfl (Or.inl rfl))
  (pss_cons (ps_asg (pe_tup (pa_cons (pe_ix ix_list (pv 4) (pv 6) (fun _ _ => rfl)) (pa_cons (pe_ix ix_list (pv 4) (pe_op op_sub (pv 6) (pv 5)) (fun _ _ => rfl)) pa_nil))) (pg_two (i := 7) (j := 8) K rfl rfl sc_with_periods.nd rfl (Or.inr rfl) rfl (Or.inr rfl)))
  (pss_one (ps_setLc (i := 4) (own := [("head", 9)]) rfl sc_with_periods.nd rfl rfl (sw_true rfl rfl rfl (by decide +kernel)) (pi_list (pv 4)) (blkOk_by (N := N_with_periods) (sc := defScope s_with_periods) (by decide +kernel)) (fun _ _ _ _ _ => (pg_name (i := 9) sc_with_periods.nd rfl (Or.inl rfl))) (fun _ _ _ _ _ => pts_nil) (fun _ _ _ _ _ => (pe_ifExp (pt_cmpR op_eq (pv 9) (pv 7) (nomark _)) (pv 8) (pv 9)))))))))
  (pss_one (ps_ret (pe_callB call_lenSet rfl T.n_len boot_len (pa_cons (pe_callTy (call_setL rfl) rfl T.n_set boot_set (pa_cons (pv 4) pa_nil)) pa_nil))))))), ?_⟩
  try dsimp only [cxOf, Cx.nox, Cx.wish]
  obtain ⟨n, p, q, rfl, hn, hp, hq, k⟩ := h
  walk_at "go"
  intro t nt
  walk_at "go"
  have ht : SqT K (upd H t (HO.tup [V.int n, V.int p, V.int q])) t [V.int n, V.int p, V.int q] := SqT.of upd_same
  refine forT [n, p, q] (fun x : Nat => V.int (x : Int)) (fun i σ' H' => ∃ v, σ' = [some (.int (n : Int)), some (.int (p : Int)), some (.int (q : Int)), v, none, none, none, none, none, none] ∧ Same (upd H t (HO.tup [V.int n, V.int p, V.int q])) H') ⟨none, rfl, Same.refl _⟩ (fun i σ' H' _ ⟨v, _, s'⟩ => Same.seqT s' ht) ?_ ?_
  · rintro i y σ1 H1 hy ⟨v, rfl, s1⟩
    have hy2 : 1 ≤ y ∧ y ≤ 300 := by
      have := List.mem_of_getElem? hy
      rcases List.mem_cons.mp this with e | h2
      · subst e; exact hn
      · rcases List.mem_cons.mp h2 with e | h3
        · subst e; exact hp
        · have := List.mem_singleton.mp h3
          subst this; exact hq
    walk_at "go"
    refine ⟨_, rfl, fun H2 s2 => ?_⟩
    walk_at "go"
    exact ⟨_, rfl, s1.trans s2⟩
  · rintro σ1 H1 ⟨v, rfl, s1⟩
    have s01 : Same H H1 := (Same.new nt).trans s1
    walk_at "go"
    intro a na
    walk_at "go"
    intro u nu
    have hau := ne_of_none (upd_same (H := H1) (a := a) (o := HO.lst (rgV 0 n))) nu
    have s02 : Same H (upd (upd H1 a (HO.lst (rgV 0 n))) u (HO.tup [V.int p, V.int q])) := (s01.trans (Same.new na)).trans (Same.new nu)
    have hu : SqT K (upd (upd H1 a (HO.lst (rgV 0 n))) u (HO.tup [V.int p, V.int q])) u [V.int p, V.int q] := SqT.of upd_same
    walk_at "go"
    refine forT [p, q] (fun x : Nat => V.int (x : Int)) (fun i σ' H' => ∃ (b : Addr) (v3 v5 v6 v7 v8 v9 : Option V), σ' = [some (.int (n : Int)), some (.int (p : Int)), some (.int (q : Int)), v3, some (.ref b), v5, v6, v7, v8, v9] ∧ Same (upd (upd H1 a (HO.lst (rgV 0 n))) u (HO.tup [V.int p, V.int q])) H' ∧ H' b = some (.lst ((wpL n ([p, q].take i)).map V.int)))
      ⟨a, _, _, _, _, _, _, rfl, Same.refl _, ?_⟩ (fun i σ' H' _ ⟨b, _, _, _, _, _, _, _, s', _⟩ => Same.seqT s' hu) ?_ ?_
    · rw [upd_ne hau, upd_same]
      unfold rgV wpL
      rw [List.take_zero, List.foldl_nil, List.map_map]
      have e : ((n : Int) - 0).toNat = n := by omega
      rw [e]
      congr 2
      refine List.map_congr_left fun i _ => ?_
      simp
    · rintro i per σ2 H2 hy ⟨b, v3, v5, v6, v7, v8, v9, rfl, s2, hb⟩
      have hper : 1 ≤ per ∧ per ≤ 300 := by
        have := List.mem_of_getElem? hy
        rcases List.mem_cons.mp this with e | h3
        · subst e; exact hp
        · have := List.mem_singleton.mp h3
          subst this; exact hq
      have htk : [p, q].take (i + 1) = [p, q].take i ++ [per] := by rw [List.take_succ, hy]; rfl
      have hwl : wpL n ([p, q].take (i + 1)) = wpP n (wpL n ([p, q].take i)) per (n - per) := by
        rw [htk]
        unfold wpL
        rw [List.foldl_append]
        rfl
      have hlen0 : (wpL n ([p, q].take i)).length = n := wpL_len
      walk_at "go"
      refine forR (fun j σ' H' => ∃ (b : Addr) (v6 v7 v8 v9 : Option V), σ' = [some (.int (n : Int)), some (.int (p : Int)), some (.int (q : Int)), v3, some (.ref b), some (.int (per : Int)), v6, v7, v8, v9] ∧ Same (upd (upd H1 a (HO.lst (rgV 0 n))) u (HO.tup [V.int p, V.int q])) H' ∧ H' b = some (.lst ((wpP n (wpL n ([p, q].take i)) per j).map V.int)))
        ⟨b, _, _, _, _, rfl, s2, hb⟩ ?_ ?_
      · rintro j σ3 H3 hj ⟨b3, v6, v7, v8, v9, rfl, s3, hb3⟩
        have hl3 : (wpP n (wpL n ([p, q].take i)) per j).length = n := by rw [wpP_len, hlen0]
        have hj2 : per + j < n := by omega
        walk_at "go"
        refine rd_ixL (SqL.of hb3) (at_int (by omega) (by rw [hl3]; omega)) ?_
        walk_at "go"
        refine rd_ixL (SqL.of hb3) (at_int (by omega) (by rw [hl3]; omega)) ?_
        walk_at "go"
        intro T nT
        refine rd_g2 (SqT.of upd_same) ?_
        have s4 : Same H3 (upd H3 T (.tup [V.int ((wpP n (wpL n ([p, q].take i)) per j).getD ((per : Int) + j).toNat 0), V.int ((wpP n (wpL n ([p, q].take i)) per j).getD ((per : Int) + j - per).toNat 0)])) := Same.new nT
        walk_at "go"
        have e1 : ((per : Int) + j).toNat = per + j := by omega
        have e2 : ((per : Int) + j - per).toNat = per + j - per := by omega
        refine rd_qIl (SqL.of (s4 _ _ hb3)) ?_
        refine lcL (wpP n (wpL n ([p, q].take i)) per j) V.int (SqL.of (s4 _ _ hb3)) (fun _ => true) (fun h => .int (if h = (wpP n (wpL n ([p, q].take i)) per j).getD (per + j) 0 then (wpP n (wpL n ([p, q].take i)) per j).getD (per + j - per) 0 else h)) (by rw [hl3]; omega) (fun _ => rfl) (fun _ _ => pt_yes) (fun y hy _ H5 s5 Q5 q5 => ?_) (fun D H5 nD s5 hD => ?_)
        · rw [e1, e2]
          walk_at "go"
          refine rd_dec (fun e3 => ?_) (fun e3 => ?_)
          · walk_at "go"
            have := q5 _ (Same.refl _)
            rwa [if_pos e3] at this
          · walk_at "go"
            have := q5 _ (Same.refl _)
            rwa [if_neg e3] at this
        · walk_at "go"
          refine ⟨D, _, _, _, _, rfl, (s3.trans s4).trans s5, ?_⟩
          rw [hD, filter_yes, wpP_succ]
          unfold wpS
          rw [List.map_map]
          rfl
      · rintro σ3 H3 ⟨b3, v6, v7, v8, v9, rfl, s3, hb3⟩
        have e : ((n : Int) - per).toNat = n - per := by omega
        rw [e, ← hwl] at hb3
        exact ⟨b3, _, _, _, _, _, _, rfl, s3, hb3⟩
    · rintro σ2 H2 ⟨b, v3, v5, v6, v7, v8, v9, rfl, s2, hb⟩
      walk_at "go"
      have hl2 : (wpL n [p, q]).length = n := wpL_len
      refine ⟨b, wpL n [p, q], rfl, SqL.of hb, by omega, fun z nz => ?_⟩
      walk_at "go"
      have hle : wpC n p q ≤ n := by
        have := firstMet_length_le (fun i => (wpL n [p, q]).getD i 0) (wpL n [p, q]).length
        rw [hl2] at this
        unfold wpC
        have e : wpH n p q = wpL n [p, q] := rfl
        rw [e, hl2]
        exact this
      refine ⟨z, _, wpC n p q, rfl, upd_same, by omega, ?_⟩
      exact k _ ((s02.trans s2).trans (Same.new nz))
end
end My
namespace My
open PySem PySem.Spec L2 SX
open PyProof.Rows hiding St
open Lyn (sg rootN)
local macro_rules | `(tactic| walk_at "kb") => `(tactic| first | exact kb_str_str | exact kb_str_int | exact kb_str_bool | exact kb_str_list | exact kb_str_tuple | exact kb_int_str | exact kb_int_int | exact kb_int_bool | exact kb_int_list | exact kb_int_tuple | exact kb_bool_str | exact kb_bool_int | exact kb_bool_bool | exact kb_bool_list | exact kb_bool_tuple | exact kb_list_str | exact kb_list_int | exact kb_list_bool | exact kb_list_list | exact kb_list_tuple | exact kb_tuple_str | exact kb_tuple_int | exact kb_tuple_bool | exact kb_tuple_list | exact kb_tuple_tuple | exact kb_NoneType_str | exact kb_NoneType_int | exact kb_NoneType_bool | exact kb_NoneType_list | exact kb_NoneType_tuple)
local macro_rules | `(tactic| walk_at "hp") => `(tactic| first | assumption | exact upd_same | (refine (upd_ne (by first | assumption | (apply Ne.symm; assumption))).trans ?_; walk_at "hp"))
local macro_rules | `(tactic| walk_at "sq") => `(tactic| first | assumption | exact SqL.of (by walk_at "hp"))
local macro_rules | `(tactic| walk_at "sqt") => `(tactic| first | assumption | exact SqT.of (by walk_at "hp"))
local macro_rules | `(tactic| walk_at "ar") => `(tactic| first | omega | (dsimp only; omega) | (unfold CMul; omega) | (unfold CDiv; omega) | (unfold CPow; refine ⟨?_, ?_, ?_⟩ <;> decide) | (simp only [List.length_cons, List.length_nil]; decide))
local macro_rules | `(tactic| walk_at "rd") => `(tactic| first
  | with_reducible refine rd_seq ?_
  | with_reducible refine rd_asg ?_
  | with_reducible refine rd_if ?_
  | with_reducible refine rd_ret ?_
  | with_reducible refine rd_drop ?_
  | with_reducible refine rd_name ?_
  | with_reducible refine rd_sub ?_
  | ((with_reducible refine' rd_var ?e ?_); (case e => exact rfl))
  | with_reducible refine rd_c ?_
  | with_reducible refine rd_op ?_
  | with_reducible refine rd_un ?_
  | with_reducible refine rd_I0 ?_
  | ((with_reducible refine' rd_I ?c ?_); (case c => walk_at "ar"))
  | with_reducible refine rd_U ?_
  | with_reducible refine rd_eqI ?_
  | with_reducible refine rd_neI ?_
  | with_reducible refine rd_eqS ?_
  | with_reducible refine rd_neS ?_
  | with_reducible refine rd_eqB ?_
  | with_reducible refine rd_neB ?_
  | with_reducible refine rd_test ?_
  | with_reducible refine rd_B ?_
  | with_reducible refine rd_and ?_
  | with_reducible refine rd_or ?_
  | with_reducible refine rd_not ?_
  | with_reducible refine rd_andV ?_
  | with_reducible refine rd_orV ?_
  | with_reducible refine rd_notV ?_
  | with_reducible refine rd_ifE ?_
  | with_reducible refine rd_isN ?_
  | with_reducible refine rd_notN ?_
  | with_reducible refine rd_cons ?_
  | with_reducible refine rd_nil ?_
  | with_reducible refine rd_lst ?_
  | with_reducible refine rd_tup ?_
  | with_reducible refine rd_CB ?_
  | with_reducible refine rd_call ?_
  | with_reducible refine rd_sl ?_
  | with_reducible refine rd_part ?_
  | with_reducible refine rd_nopart ?_
  | with_reducible refine rd_par ?_
  | with_reducible refine rd_two ?_
  | with_reducible refine rd_next ?_
  | with_reducible refine rd_retN ?_
  | with_reducible refine rd_bool ?_
  | with_reducible refine rd_int ?_
  | with_reducible refine rd_intI ?_
  | with_reducible refine rd_intB ?_
  | with_reducible refine rd_ltS ?_
  | with_reducible refine rd_leS ?_
  | with_reducible refine rd_gtS ?_
  | with_reducible refine rd_geS ?_
  | with_reducible refine rd_inC ?_
  | with_reducible refine rd_notInC ?_
  | with_reducible refine rd_abs ?_
  | with_reducible refine rd_max2 ?_
  | with_reducible refine rd_min2 ?_
  | with_reducible refine rd_M1 ?_
  | with_reducible refine rd_isStr ?_
  | ((with_reducible refine' rd_len ?b ?_); (case b => (simp only [List.length_cons, List.length_nil]; decide)))
  | ((with_reducible refine' rd_listS ?b ?_); (case b => first | (simp only [List.length_take, List.length_cons, List.length_nil]; omega) | omega))
  | ((with_reducible refine' rd_isi ?ty ?h ?_); (case ty => first | exact ty_str | exact ty_int | exact ty_bl | exact ty_non | exact ty_lst (by walk_at "hp") | exact ty_tup (by walk_at "hp")); (case h => walk_at "kb"))
  | with_reducible refine rd_lc ?_
  | with_reducible refine rd_for ?_
  | with_reducible refine rd_iList ?_
  | with_reducible refine rd_iTup ?_
  | with_reducible refine rd_iRng1 ?_
  | with_reducible refine rd_iRng2 ?_
  | with_reducible refine rd_iRng3 ?_
  | with_reducible refine rd_iStr ?_
  | with_reducible refine rd_qIs ?_
  | with_reducible refine rd_whb ?_
  | ((with_reducible refine' rd_qIl ?sq ?_); (case sq => walk_at "sq"))
  | ((with_reducible refine' rd_qItu ?sq ?_); (case sq => walk_at "sqt"))
  | ((with_reducible refine' rd_qIr1 ?b1 ?b2 ?_); (case b1 => walk_at "ar"); (case b2 => walk_at "ar"))
  | ((with_reducible refine' rd_qIr2 ?b1 ?b2 ?b3 ?b4 ?_); (case b1 => walk_at "ar"); (case b2 => walk_at "ar"); (case b3 => walk_at "ar"); (case b4 => walk_at "ar"))
  | ((with_reducible refine' rd_qIr3 ?b1 ?b2 ?b3 ?b4 ?_); (case b1 => walk_at "ar"); (case b2 => walk_at "ar"); (case b3 => walk_at "ar"); (case b4 => walk_at "ar"))
  | ((with_reducible refine' rd_mulS ?b1 ?b2 ?b3 ?_); (case b1 => walk_at "ar"); (case b2 => walk_at "ar"); (case b3 => walk_at "ar"))
  | ((with_reducible refine' rd_slS_to ?b1 ?b2 ?_); (case b1 => walk_at "ar"); (case b2 => walk_at "ar"))
  | ((with_reducible refine' rd_slS_from ?b1 ?b2 ?_); (case b1 => walk_at "ar"); (case b2 => walk_at "ar"))
  | ((with_reducible refine' rd_slS_mid ?b1 ?b2 ?b3 ?b4 ?_); (case b1 => walk_at "ar"); (case b2 => walk_at "ar"); (case b3 => walk_at "ar"); (case b4 => walk_at "ar"))
  | ((with_reducible refine' rd_slL ?sq ?_); (case sq => walk_at "sq"))
  | with_reducible refine rd_true ?_
  | with_reducible refine rd_false ?_
  | with_reducible refine rd_nt ?_
  | with_reducible refine rd_nf ?_
  | ((with_reducible refine' rd_decT ?h ?_); (case h => omega))
  | ((with_reducible refine' rd_decF ?h ?_); (case h => omega))
  | ((with_reducible refine' rd_ndecT ?h ?_); (case h => omega))
  | ((with_reducible refine' rd_ndecF ?h ?_); (case h => omega))
  | ((with_reducible refine' rd_evT ?h ?_); (case h => first | exact rfl | (simp; done)))
  | ((with_reducible refine' rd_evF ?h ?_); (case h => first | exact rfl | (simp; done)))
  | ((with_reducible refine' rd_ixL ?sq ?a1 ?_); (case sq => walk_at "sq"); (case a1 => first | exact rfl | exact at_of (by omega) (by assumption)))
  | ((with_reducible refine' rd_ixT ?sq ?a1 ?_); (case sq => walk_at "sqt"); (case a1 => first | exact rfl | exact at_of (by omega) (by assumption)))
  | ((with_reducible refine' rd_lenL ?sq ?_); (case sq => walk_at "sq"))
  | ((with_reducible refine' rd_lenT ?sq ?_); (case sq => walk_at "sqt"))
  | ((with_reducible refine' rd_setL ?h ?j ?_); (case h => walk_at "hp"); (case j => exact rfl); (with_reducible refine id ?_))
  | ((with_reducible refine' rd_strlen ?l ?_); (case l => walk_at "ar"))
  | ((with_reducible refine' rd_cat ?l ?_); (case l => walk_at "ar")))
local macro_rules | `(tactic| walk_at "go") => `(tactic| ((try dsimp only); (repeat (walk_at "rd"))))
local macro_rules | `(tactic| walk_at "rd") => `(tactic| first
  | with_reducible refine rd_lstRg ?_
  | with_reducible refine rd_tRg1 ?_
  | with_reducible refine rd_tRg2 ?_
  | with_reducible refine rd_rg1 ?_
  | with_reducible refine rd_rg2 ?_
  | ((with_reducible refine' rd_qRg ?b ?_); (case b => refine ⟨?_, ?_, ?_, ?_⟩ <;> omega))
  | with_reducible refine rd_tDGet ?_
  | with_reducible refine rd_sDPut ?_
  | with_reducible refine rd_dnew ?_
  | with_reducible refine rd_iZipS ?_
  | with_reducible refine rd_zipS ?_
  | ((with_reducible refine' rd_inI ?sq ?_); (case sq => walk_at "sq"))
  | ((with_reducible refine' rd_notInI ?sq ?_); (case sq => walk_at "sq"))
  | with_reducible refine rd_chain ?_)

section
variable {P : Program} {w : World} {K : PySem.W.Frag} {mg : Str → Option Value} {base : Heap}
theorem toI_inj {a b : List Nat} : toI a = toI b ↔ a = b := by
  constructor
  · intro h
    have := congrArg (List.map Int.toNat) h
    unfold toI at this
    rw [List.map_map, List.map_map] at this
    have e : (Int.toNat ∘ fun i : Nat => (i : Int)) = id := funext fun i => rfl
    rwa [e, List.map_id, List.map_id] at this
  · intro h; rw [h]
theorem toI_mem {i : Nat} {a : List Nat} : ((i : Int) ∈ toI a) ↔ i ∈ a := by
  unfold toI
  constructor
  · intro h
    obtain ⟨j, hj, e⟩ := List.mem_map.mp h
    have : j = i := by omega
    rwa [← this]
  · intro h
    exact List.mem_map.mpr ⟨i, h, rfl⟩
theorem toI_app (a b : List Nat) : toI a ++ toI b = toI (a ++ b) := by unfold toI; rw [List.map_append]
theorem flt_len {f : List Nat → Nat} {a b : List Nat} (hab : a ≠ b) : ∀ l : List (List Nat), ((l.filter fun x => !(decide (a = x) || decide (b = x))).map f).sum + (if a ∈ l then f a else 0) + (if b ∈ l then f b else 0) ≤ (l.map f).sum
  | [] => by simp
  | x :: l => by
    have ih := flt_len (f := f) hab l
    by_cases h1 : a = x
    · subst h1
      have h2 : b ≠ a := fun z => hab z.symm
      have e1 : (if a ∈ a :: l then f a else 0) = f a := if_pos List.mem_cons_self
      have e2 : (if b ∈ a :: l then f b else 0) = if b ∈ l then f b else 0 := by simp [h2]
      rw [e1, e2, List.filter_cons, if_neg (by simp), List.map_cons, List.sum_cons]
      have : (if a ∈ l then f a else 0) ≥ 0 := Nat.zero_le _
      omega
    · by_cases h2 : b = x
      · subst h2
        have e1 : (if b ∈ b :: l then f b else 0) = f b := if_pos List.mem_cons_self
        have e2 : (if a ∈ b :: l then f a else 0) = if a ∈ l then f a else 0 := by simp [h1]
        rw [e1, e2, List.filter_cons, if_neg (by simp), List.map_cons, List.sum_cons]
        omega
      · have e1 : (if a ∈ x :: l then f a else 0) = if a ∈ l then f a else 0 := by simp [h1]
        have e2 : (if b ∈ x :: l then f b else 0) = if b ∈ l then f b else 0 := by simp [h2]
        rw [e1, e2, List.filter_cons, if_pos (by simp [h1, h2]), List.map_cons, List.map_cons, List.sum_cons, List.sum_cons]
        omega
theorem refs_ne {ls : List (Addr × List Nat)} {a : List Nat} (h : ls ≠ []) : ls.map (fun y => V.ref y.1) ≠ (toI a).map V.int := by
  intro e
  cases ls with
  | nil => exact h rfl
  | cons z ls =>
    cases a with
    | nil => cases e
    | cons i a =>
      unfold toI at e
      rw [List.map_cons, List.map_cons, List.map_cons] at e
      injection e with e _
      cases e
/-- what the joining keeps: the places covered, the lengths together at most n -/
def ClI (n : Nat) (ps : List (List Nat)) : Prop := (∀ i, i < n → ∃ part ∈ ps, i ∈ part) ∧ (ps.map List.length).sum ≤ n
theorem clF_mem {n i : Nat} {ps : List (List Nat)} (h : ClI n ps) (hi : i < n) : clF i ps ∈ ps ∧ i ∈ clF i ps := by
  obtain ⟨part, h1, h2⟩ := h.1 i hi
  unfold clF
  cases e : ps.filter fun part => decide (i ∈ part) with
  | nil =>
    rw [List.filter_eq_nil_iff] at e
    exact absurd (decide_eq_true h2) (e part h1)
  | cons y ys =>
    have : y ∈ ps.filter fun part => decide (i ∈ part) := by rw [e]; exact List.mem_cons_self
    rw [List.mem_filter] at this
    exact ⟨this.1, of_decide_eq_true this.2⟩
theorem len_le_sum {part : List Nat} : ∀ {ps : List (List Nat)}, part ∈ ps → part.length ≤ (ps.map List.length).sum
  | x :: ps, h => by
    rw [List.map_cons, List.sum_cons]
    rcases List.mem_cons.mp h with e | h
    · subst e; omega
    · have := len_le_sum h; omega
theorem ClI.step {n per i : Nat} {ps : List (List Nat)} (h : ClI n ps) (hi : i + per < n) : ClI n (clS per ps i) := by
  have h1 := clF_mem h (show i < n by omega)
  have h2 := clF_mem h hi
  unfold clS
  split
  · exact h
  · rename_i hne
    refine ⟨fun j hj => ?_, ?_⟩
    · obtain ⟨part, p1, p2⟩ := h.1 j hj
      by_cases e : clF i ps = part ∨ clF (i + per) ps = part
      · refine ⟨_, List.mem_append.mpr (.inr (List.mem_singleton.mpr rfl)), ?_⟩
        rcases e with e | e
        · rw [← e] at p2; exact List.mem_append.mpr (.inl p2)
        · rw [← e] at p2; exact List.mem_append.mpr (.inr p2)
      · refine ⟨part, List.mem_append.mpr (.inl (List.mem_filter.mpr ⟨p1, ?_⟩)), p2⟩
        simp only [Bool.not_eq_true', Bool.or_eq_false_iff, decide_eq_false_iff_not]
        exact ⟨fun z => e (.inl z), fun z => e (.inr z)⟩
    · have := flt_len (f := List.length) hne ps
      rw [if_pos h1.1, if_pos h2.1] at this
      rw [List.map_append, List.sum_append]
      simp only [List.map_cons, List.map_nil, List.sum_cons, List.sum_nil, List.length_append]
      have := h.2
      omega
theorem clP_succ {per k : Nat} {ps : List (List Nat)} : clP ps per (k + 1) = clS per (clP ps per k) k := by
  unfold clP
  rw [List.range_succ, List.foldl_append]
  rfl
theorem ClI.steps {n per : Nat} {ps : List (List Nat)} (h : ClI n ps) : ∀ k, k + per ≤ n → ClI n (clP ps per k)
  | 0, _ => h
  | k + 1, hk => by rw [clP_succ]; exact (ClI.steps h k (by omega)).step (by omega)
/-- the classes behind some of the periods -/
def clL (n : Nat) (ls : List Nat) : List (List Nat) := ls.foldl (fun ps per => clP ps per (n - per)) ((List.range n).map fun i => [i])
theorem ClI.start {n : Nat} : ClI n ((List.range n).map fun i => [i]) := by
  refine ⟨fun i hi => ⟨[i], List.mem_map.mpr ⟨i, List.mem_range.mpr hi, rfl⟩, List.mem_singleton.mpr rfl⟩, ?_⟩
  rw [List.map_map]
  have : ∀ m : Nat, ((List.range m).map (List.length ∘ fun i => [i])).sum = m := by
    intro m
    induction m with
    | zero => rfl
    | succ m ih => rw [List.range_succ, List.map_append, List.sum_append, ih]; rfl
  rw [this]
  exact Nat.le_refl _
theorem ClI.all {n : Nat} (ls : List Nat) : ∀ ps, ClI n ps → ClI n (ls.foldl (fun ps per => clP ps per (n - per)) ps) := by
  induction ls with
  | nil => intro ps h; exact h
  | cons per ls ih =>
    intro ps h
    rw [List.foldl_cons]
    refine ih _ ?_
    by_cases c : per ≤ n
    · exact h.steps _ (by omega)
    · have e : n - per = 0 := by omega
      rw [e]; exact h
theorem map_filter_snd {α : Type} (f : List Nat → Bool) : ∀ ls : List (α × List Nat), (ls.filter fun y => f y.2).map Prod.snd = (ls.map Prod.snd).filter f
  | [] => rfl
  | y :: ls => by
    rw [List.filter_cons, List.map_cons, List.filter_cons]
    by_cases h : f y.2 = true
    · rw [if_pos h, if_pos h, List.map_cons, map_filter_snd f ls]
    · rw [if_neg h, if_neg h, map_filter_snd f ls]
theorem ok__law_classes {f : Addr} {fd : FuncData} (F : Fun K "_law_classes" "_law_classes" s__law_classes f fd) (T : Txt K mg) : FnOk P w K mg base CX0 1 f fd ["length", "first", "second"] (sp__law_classes K) := by
  refine F.ok sc__law_classes (fun vs H Q E h => by repeat (first | (obtain ⟨rfl, _⟩ := h; rfl) | obtain ⟨_, h⟩ := h)) (fun cdv A outer s H vs Q E hr h => ?_)
  refine ⟨_, (pss_cons (ps_setLc (i := 3) (own := [("place", 4)]) rfl sc__law_classes.nd rfl rfl (sw_true rfl rfl rfl (by decide +kernel)) (pi_range1 rfl T.n_range (pa_cons (pv 0) pa_nil)) (blkOk_by (N := N__law_classes) (sc := defScope s__law_classes) (by decide +kernel)) (fun _ _ _ _ _ => (pg_name (i := 4) sc__law_classes.nd rfl (Or.inl rfl))) (fun _ _ _ _ _ => pts_nil) (fun _ _ _ _ _ => (pe_lst (pa_cons (pv 4) pa_nil))))
  (pss_cons (ps_for PassesOwn.never rfl (pi_tup (pe_tup (pa_cons (pv 1) (pa_cons (pv 2) pa_nil)))) (pg_name (i := 5) sc__law_classes.nd rfl (Or.inr rfl))
  (pss_one (ps_for PassesOwn.never rfl (pi_range1 rfl T.n_range (pa_cons (pe_op op_sub (pv 0) (pv 5)) pa_nil)) (pg_name (i := 4) sc__law_classes.nd rfl (Or.inr rfl))
  (pss_cons (ps_set (i := 6) sc__law_classes.nd rfl (Or.inr rfl) (pe_ix ix_list (pe_lc (own := [("part", 8)]) rfl sc__law_classes.nd (pi_list (pv 3)) (blkOk_by (N := N__law_classes) (sc := defScope s__law_classes) (by decide +kernel)) (fun _ _ _ _ _ => (pg_name (i := 8) sc__law_classes.nd rfl (Or.inl rfl))) (fun _ _ _ _ _ => (pts_one (pt_cmpR (op_inQ K rfl) (pv 4) (pv 8) rfl))) (fun _ _ _ _ _ => (pv 8))) pe_int (fun _ _ => rfl)))
  (pss_cons (ps_set (i := 7) sc__law_classes.nd rfl (Or.inr rfl) (pe_ix ix_list (pe_lc (own := [("part", 8)]) rfl sc__law_classes.nd (pi_list (pv 3)) (blkOk_by (N := N__law_classes) (sc := defScope s__law_classes) (by decide +kernel)) (fun _ _ _ _ _ => (pg_name (i := 8) sc__law_classes.nd rfl (Or.inl rfl))) (fun _ _ _ _ _ => (pts_one (pt_cmpR (op_inQ K rfl) (pe_op op_add (pv 4) (pv 5)) (pv 8) rfl))) (fun _ _ _ _ _ => (pv 8))) pe_int (fun _ _ => rfl)))
  (pss_one (ps_if (pt_cmpR (op_neD hr.units) (pv 6) (pv 7) (nomark _)) (pss_one (ps_set (i := 3) sc__law_classes.nd rfl (Or.inl rfl) (pe_op op_cat (pe_lc (own := [("part", 8)]) rfl sc__law_classes.nd (pi_list (pv 3)) (blkOk_by (N := N__law_classes) (sc := defScope s__law_classes) (by decide +kernel)) (fun _ _ _ _ _ => (pg_name (i := 8) sc__law_classes.nd rfl (Or.inl rfl))) (fun _ _ _ _ _ => (pts_one (pt_cmpR (op_notInT K rfl (Room.u65 hr)) (pv 8) (pe_tup (pa_cons (pv 6) (pa_cons (pv 7) pa_nil))) rfl))) (fun _ _ _ _ _ => (pv 8))) (pe_lst (pa_cons (pe_op op_cat (pv 6) (pv 7)) pa_nil))))) pss_nil)))))))
  (pss_one (ps_ret (pv 3))))), ?_⟩
  try dsimp only [cxOf, Cx.nox, Cx.wish]
  obtain ⟨n, p, q, rfl, hn, hp, hq, k⟩ := h
  walk_at "go"
  refine lcR_inv (fun D i acc H' => Same H H' ∧ ∃ ls : List (Addr × List Nat), acc = ls.map (fun y => V.ref y.1) ∧ ls.map Prod.snd = (List.range i).map (fun i => [i]) ∧ ∀ y ∈ ls, H' y.1 = some (.lst ((toI y.2).map V.int))) (by omega) (fun _ => rfl) (fun D nD => ⟨Same.new nD, [], rfl, rfl, fun _ h => by cases h⟩) ?_ ?_
  · rintro D i acc H1 Q1 hi nD hlen ⟨s1, ls, rfl, hls, hc⟩ hD q1
    walk_at "go"
    intro t nt
    have hDt := ne_of_none hD nt
    refine q1 _ _ (by rw [upd_ne hDt]; exact hD) ⟨Same.mut (s1.trans (Same.new nt)) nD, ls ++ [(t, [i])], ?_, ?_, fun y hy => ?_⟩
    · rw [List.map_append]; rfl
    · rw [List.map_append, hls, List.range_succ, List.map_append]; rfl
    · rcases List.mem_append.mp hy with h | h
      · have := hc y h
        have h1 : y.1 ≠ t := ne_of_none this nt
        have h2 : y.1 ≠ D := by
          intro e
          rw [e, hD] at this
          refine refs_ne (a := y.2) (List.ne_nil_of_mem h) ?_
          injection this with this
          injection this
        rw [upd_ne h2, upd_ne h1]
        exact this
      · have := List.mem_singleton.mp h
        subst this
        rw [upd_ne hDt.symm, upd_same]
        have e : (0 : Int) + i = i := by omega
        rw [e]
        rfl
  · rintro D acc H1 nD hlen ⟨s1, ls0, rfl, hls0, hc0⟩ hD
    walk_at "go"
    intro u nu
    walk_at "go"
    have e0 : ((n : Int)).toNat = n := by omega
    rw [e0] at hls0
    have hu : SqT K (upd H1 u (HO.tup [V.int p, V.int q])) u [V.int p, V.int q] := SqT.of upd_same
    have s02 : Same H (upd H1 u (HO.tup [V.int p, V.int q])) := s1.trans (Same.new nu)
    refine forT [p, q] (fun x : Nat => V.int (x : Int)) (fun i σ' H' => ∃ (fa : Addr) (ls : List (Addr × List Nat)) (v4 v5 v6 v7 v8 : Option V), σ' = [some (.int (n : Int)), some (.int (p : Int)), some (.int (q : Int)), some (.ref fa), v4, v5, v6, v7, v8] ∧ Same (upd H1 u (HO.tup [V.int p, V.int q])) H' ∧ H fa = none ∧
        H' fa = some (.lst (ls.map fun y => V.ref y.1)) ∧ ls.map Prod.snd = clL n ([p, q].take i) ∧ (∀ y ∈ ls, H' y.1 = some (.lst ((toI y.2).map V.int))) ∧ ls.length ≤ 1000 + i * 1000)
      ⟨D, ls0, _, _, _, _, _, rfl, Same.refl _, nD, (Same.new nu) _ _ hD, hls0, fun y hy => (Same.new nu) _ _ (hc0 y hy), ?_⟩ (fun i σ' H' _ ⟨_, _, _, _, _, _, _, _, s', _⟩ => Same.seqT s' hu) ?_ ?_
    · have := congrArg List.length hls0
      rw [List.length_map, List.length_map, List.length_range] at this
      omega
    · rintro i per σ2 H2 hy ⟨fa, ls, v4, v5, v6, v7, v8, rfl, s2, nfa, hfa, hls, hlc, hll⟩
      have hper : per ≤ 100 := by
        have := List.mem_of_getElem? hy
        rcases List.mem_cons.mp this with e | h3
        · subst e; exact hp
        · have := List.mem_singleton.mp h3
          subst this; exact hq
      have hi2 : i < 2 := (List.getElem?_eq_some_iff.mp hy).1
      have htk : [p, q].take (i + 1) = [p, q].take i ++ [per] := by rw [List.take_succ, hy]; rfl
      have hwl : clL n ([p, q].take (i + 1)) = clP (clL n ([p, q].take i)) per (n - per) := by
        rw [htk]
        unfold clL
        rw [List.foldl_append]
        rfl
      have hI0 : ClI n (clL n ([p, q].take i)) := ClI.all _ _ ClI.start
      walk_at "go"
      refine forR (fun j σ' H' => ∃ (fa : Addr) (ls : List (Addr × List Nat)) (v4 v6 v7 v8 : Option V), σ' = [some (.int (n : Int)), some (.int (p : Int)), some (.int (q : Int)), some (.ref fa), v4, some (.int (per : Int)), v6, v7, v8] ∧ Same (upd H1 u (HO.tup [V.int p, V.int q])) H' ∧ H fa = none ∧
        H' fa = some (.lst (ls.map fun y => V.ref y.1)) ∧ ls.map Prod.snd = clP (clL n ([p, q].take i)) per j ∧ (∀ y ∈ ls, H' y.1 = some (.lst ((toI y.2).map V.int))) ∧ ls.length ≤ 1000 + i * 1000 + j)
        ⟨fa, ls, _, _, _, _, rfl, s2, nfa, hfa, hls, hlc, hll⟩ ?_ ?_
      · rintro j σ3 H3 hj ⟨fa, ls, v4, v6, v7, v8, rfl, s3, nfa, hfa, hls, hlc, hll⟩
        have hj2 : j + per < n := by omega
        have hI := ClI.steps (per := per) hI0 j (by omega)
        have ef : ∀ (f : List Nat → Bool), (ls.filter fun y => f y.2).map Prod.snd = (clP (clL n ([p, q].take i)) per j).filter f := fun f => by rw [map_filter_snd, hls]
        -- the first part with a place
        have first : ∀ x : Nat, x < n → ∃ y ys, ls.filter (fun y => decide (x ∈ y.2)) = y :: ys ∧ y ∈ ls ∧ y.2 = clF x (clP (clL n ([p, q].take i)) per j) := fun x hx => by
          have h1 := clF_mem hI hx
          have h2 := ef fun part => decide (x ∈ part)
          cases e : ls.filter (fun y => decide (x ∈ y.2)) with
          | nil =>
            rw [e, List.map_nil] at h2
            have h3 : clF x (clP (clL n ([p, q].take i)) per j) ∈ (clP (clL n ([p, q].take i)) per j).filter fun part => decide (x ∈ part) := List.mem_filter.mpr ⟨h1.1, decide_eq_true h1.2⟩
            rw [← h2] at h3
            cases h3
          | cons y ys =>
            refine ⟨y, ys, rfl, ?_, ?_⟩
            · have : y ∈ ls.filter (fun y => decide (x ∈ y.2)) := by rw [e]; exact List.mem_cons_self
              exact (List.mem_filter.mp this).1
            · rw [e, List.map_cons] at h2
              unfold clF
              rw [← h2]
              rfl
        walk_at "go"
        refine lcL ls (fun y => V.ref y.1) (SqL.of hfa) (fun y => decide (j ∈ y.2)) (fun y => V.ref y.1) (by omega) (fun _ => rfl) (fun y hy H4 s4 Q4 q4 => ?_) (fun y hy _ H4 s4 Q4 q4 => ?_) (fun D1 H5 nD1 s5 hD1 => ?_)
        · have h4 := s4 _ _ (hlc y hy)
          walk_at "go"
          rw [show decide ((0 : Int) + j ∈ toI y.2) = decide (j ∈ y.2) from decide_eq_decide.mpr (by rw [Int.zero_add]; exact toI_mem)]
          exact q4 _ (Same.refl _)
        · walk_at "go"
          exact q4 _ (Same.refl _)
        obtain ⟨y1, ys1, f1, m1, g1⟩ := first j (by omega)
        rw [f1] at hD1
        walk_at "go"
        refine rd_ixL (SqL.of hD1) (v := .ref y1.1) (atI_nat (j := 0) rfl) ?_
        walk_at "go"
        refine rd_qIl (SqL.of (s5 _ _ hfa)) ?_
        refine lcL ls (fun y => V.ref y.1) (SqL.of (s5 _ _ hfa)) (fun y => decide (j + per ∈ y.2)) (fun y => V.ref y.1) (by omega) (fun _ => rfl) (fun y hy H4 s4 Q4 q4 => ?_) (fun y hy _ H4 s4 Q4 q4 => ?_) (fun D2 H6 nD2 s6 hD2 => ?_)
        · have h4 := s4 _ _ (s5 _ _ (hlc y hy))
          walk_at "go"
          rw [show decide ((0 : Int) + j + per ∈ toI y.2) = decide (j + per ∈ y.2) from decide_eq_decide.mpr (by rw [Int.zero_add, ← Int.natCast_add]; exact toI_mem)]
          exact q4 _ (Same.refl _)
        · walk_at "go"
          exact q4 _ (Same.refl _)
        obtain ⟨y2, ys2, f2, m2, g2⟩ := first (j + per) hj2
        rw [f2] at hD2
        walk_at "go"
        refine rd_ixL (SqL.of hD2) (v := .ref y2.1) (atI_nat (j := 0) rfl) ?_
        walk_at "go"
        have s36 : Same H3 H6 := s5.trans s6
        refine rd_neLI (SqL.of (s36 _ _ (hlc y1 m1))) (SqL.of (s36 _ _ (hlc y2 m2))) ?_
        walk_at "go"
        have hst : clP (clL n ([p, q].take i)) per (j + 1) = clS per (clP (clL n ([p, q].take i)) per j) j := clP_succ
        refine rd_ndec (fun e1 => ?_) (fun e1 => ?_)
        · have e2 : ¬ y1.2 = y2.2 := fun z => e1 (toI_inj.mpr z)
          walk_at "go"
          refine rd_qIl (SqL.of (s36 _ _ hfa)) ?_
          refine lcL ls (fun y => V.ref y.1) (SqL.of (s36 _ _ hfa)) (fun y => !(decide (y1.2 = y.2) || decide (y2.2 = y.2))) (fun y => V.ref y.1) (by omega) (fun _ => rfl) (fun y hy H4 s4 Q4 q4 => ?_) (fun y hy _ H4 s4 Q4 q4 => ?_) (fun D3 H7 nD3 s7 hD3 => ?_)
          · have h4 := s4 _ _ (s36 _ _ (hlc y hy))
            have h41 := s4 _ _ (s36 _ _ (hlc y1 m1))
            have h42 := s4 _ _ (s36 _ _ (hlc y2 m2))
            walk_at "go"
            intro z nz
            have sz4 := Same.new (o := HO.tup [V.ref y1.1, V.ref y2.1]) nz
            refine rd_notInT2 (SqL.of (sz4 _ _ h4)) (SqT.of upd_same) (SqL.of (sz4 _ _ h41)) (SqL.of (sz4 _ _ h42)) ?_
            rw [show decide (toI y1.2 = toI y.2) = decide (y1.2 = y.2) from decide_eq_decide.mpr toI_inj, show decide (toI y2.2 = toI y.2) = decide (y2.2 = y.2) from decide_eq_decide.mpr toI_inj]
            walk_at "go"
            exact q4 _ sz4
          · walk_at "go"
            exact q4 _ (Same.refl _)
          have s37 : Same H3 H7 := s36.trans s7
          have hsum := hI.2
          have hl1 : y1.2.length ≤ n := by
            have := len_le_sum (clF_mem hI (show j < n by omega)).1
            rw [← g1] at this
            omega
          have hl2 : y2.2.length ≤ n := by
            have := len_le_sum (clF_mem hI hj2).1
            rw [← g2] at this
            omega
          walk_at "go"
          refine rd_catL (s37 _ _ (hlc y1 m1)) (s37 _ _ (hlc y2 m2)) (by rw [List.length_map, List.length_map]; unfold toI; rw [List.length_map, List.length_map]; omega) fun c nc => ?_
          walk_at "go"
          intro z nz
          have hDc := ne_of_none hD3 nc
          have hDz := ne_of_none (show upd H7 c _ D3 = _ by rw [upd_ne hDc]; exact hD3) nz
          have hcz := ne_of_none (upd_same (H := H7) (a := c)) nz
          have hfl : (ls.filter fun y => !(decide (y1.2 = y.2) || decide (y2.2 = y.2))).length ≤ ls.length := List.length_filter_le _ _
          walk_at "go"
          refine rd_catL (by rw [upd_ne hDz, upd_ne hDc]; exact hD3) upd_same (by rw [List.length_map]; simp only [List.length_cons, List.length_nil]; omega) fun g ng => ?_
          have hcg := ne_of_none (show upd (upd H7 c _) z _ c = _ by rw [upd_ne hcz]; exact upd_same) ng
          have ng7 : ∀ b o, H7 b = some o → upd (upd (upd H7 c (HO.lst ((toI y1.2).map V.int ++ (toI y2.2).map V.int))) z (HO.lst [V.ref c])) g (HO.lst ((ls.filter fun y => !(decide (y1.2 = y.2) || decide (y2.2 = y.2))).map (fun y => V.ref y.1) ++ [V.ref c])) b = some o := fun b o e => by
            have h1 := ne_of_none e nc
            have h2 := ne_of_none (show upd H7 c (HO.lst ((toI y1.2).map V.int ++ (toI y2.2).map V.int)) b = some o by rw [upd_ne h1]; exact e) nz
            have h3 := ne_of_none (show upd (upd H7 c (HO.lst ((toI y1.2).map V.int ++ (toI y2.2).map V.int))) z (HO.lst [V.ref c]) b = some o by rw [upd_ne h2, upd_ne h1]; exact e) ng
            rw [upd_ne h3, upd_ne h2, upd_ne h1]
            exact e
          walk_at "go"
          refine ⟨g, (ls.filter fun y => !(decide (y1.2 = y.2) || decide (y2.2 = y.2))) ++ [(c, y1.2 ++ y2.2)], _, _, _, _, rfl, fun b o e => ng7 b o (s37 b o (s3 b o e)), ?_, ?_, ?_, fun y hy => ?_, ?_⟩
          · cases q9 : H g with
            | none => rfl
            | some o =>
              have h1 := s37 _ _ (s3 _ _ (s02 _ _ q9))
              have h2 := ne_of_none h1 nc
              have h3 := ne_of_none (show upd H7 c (HO.lst ((toI y1.2).map V.int ++ (toI y2.2).map V.int)) g = some o by rw [upd_ne h2]; exact h1) nz
              rw [upd_ne h3, upd_ne h2, h1] at ng
              cases ng
          · rw [upd_same, List.map_append]
            rfl
          · rw [List.map_append, ef (fun part => !(decide (y1.2 = part) || decide (y2.2 = part))), hst]
            unfold clS
            rw [if_neg (by rw [← g1, ← g2]; exact e2), ← g1, ← g2]
            rfl
          · rcases List.mem_append.mp hy with h | h
            · exact ng7 _ _ (s37 _ _ (hlc y (List.mem_filter.mp h).1))
            · have := List.mem_singleton.mp h
              subst this
              rw [upd_ne hcg, upd_ne hcz, upd_same, ← List.map_append, toI_app]
          · rw [List.length_append]
            simp only [List.length_cons, List.length_nil]
            omega
        · have e2 : y1.2 = y2.2 := toI_inj.mp e1
          walk_at "go"
          refine ⟨fa, ls, _, _, _, _, rfl, s3.trans s36, nfa, s36 _ _ hfa, ?_, fun y hy => s36 _ _ (hlc y hy), by omega⟩
          rw [hst, hls]
          unfold clS
          rw [if_pos (by rw [← g1, ← g2]; exact e2)]
      · rintro σ3 H3 ⟨fa, ls, v4, v6, v7, v8, rfl, s3, nfa, hfa, hls, hlc, hll⟩
        have e : ((n : Int) - per).toNat = n - per := by omega
        rw [e, ← hwl] at hls
        rw [e] at hll
        refine ⟨fa, ls, _, _, _, _, _, rfl, s3, nfa, hfa, hls, hlc, ?_⟩
        have : (i + 1) * 1000 = i * 1000 + 1000 := by omega
        omega
    · rintro σ2 H2 ⟨fa, ls, v4, v5, v6, v7, v8, rfl, s2, nfa, hfa, hls, hlc, hll⟩
      walk_at "go"
      exact k fa _ nfa (s02.trans s2) ⟨ls, hls, hfa, hlc⟩
end
end My
namespace My
open PySem PySem.Spec L2 SX
open PyProof.Rows hiding St
open Lyn (sg rootN)
local macro_rules | `(tactic| walk_at "kb") => `(tactic| first | exact kb_str_str | exact kb_str_int | exact kb_str_bool | exact kb_str_list | exact kb_str_tuple | exact kb_int_str | exact kb_int_int | exact kb_int_bool | exact kb_int_list | exact kb_int_tuple | exact kb_bool_str | exact kb_bool_int | exact kb_bool_bool | exact kb_bool_list | exact kb_bool_tuple | exact kb_list_str | exact kb_list_int | exact kb_list_bool | exact kb_list_list | exact kb_list_tuple | exact kb_tuple_str | exact kb_tuple_int | exact kb_tuple_bool | exact kb_tuple_list | exact kb_tuple_tuple | exact kb_NoneType_str | exact kb_NoneType_int | exact kb_NoneType_bool | exact kb_NoneType_list | exact kb_NoneType_tuple)
local macro_rules | `(tactic| walk_at "hp") => `(tactic| first | assumption | exact upd_same | (refine (upd_ne (by first | assumption | (apply Ne.symm; assumption))).trans ?_; walk_at "hp"))
local macro_rules | `(tactic| walk_at "sq") => `(tactic| first | assumption | exact SqL.of (by walk_at "hp"))
local macro_rules | `(tactic| walk_at "sqt") => `(tactic| first | assumption | exact SqT.of (by walk_at "hp"))
local macro_rules | `(tactic| walk_at "ar") => `(tactic| first | omega | (dsimp only; omega) | (unfold CMul; omega) | (unfold CDiv; omega) | (unfold CPow; refine ⟨?_, ?_, ?_⟩ <;> decide) | (simp only [List.length_cons, List.length_nil]; decide))
local macro_rules | `(tactic| walk_at "rd") => `(tactic| first
  | with_reducible refine rd_seq ?_
  | with_reducible refine rd_asg ?_
  | with_reducible refine rd_if ?_
  | with_reducible refine rd_ret ?_
  | with_reducible refine rd_drop ?_
  | with_reducible refine rd_name ?_
  | with_reducible refine rd_sub ?_
  | ((with_reducible refine' rd_var ?e ?_); (case e => exact rfl))
  | with_reducible refine rd_c ?_
  | with_reducible refine rd_op ?_
  | with_reducible refine rd_un ?_
  | with_reducible refine rd_I0 ?_
  | ((with_reducible refine' rd_I ?c ?_); (case c => walk_at "ar"))
  | with_reducible refine rd_U ?_
  | with_reducible refine rd_eqI ?_
  | with_reducible refine rd_neI ?_
  | with_reducible refine rd_eqS ?_
  | with_reducible refine rd_neS ?_
  | with_reducible refine rd_eqB ?_
  | with_reducible refine rd_neB ?_
  | with_reducible refine rd_test ?_
  | with_reducible refine rd_B ?_
  | with_reducible refine rd_and ?_
  | with_reducible refine rd_or ?_
  | with_reducible refine rd_not ?_
  | with_reducible refine rd_andV ?_
  | with_reducible refine rd_orV ?_
  | with_reducible refine rd_notV ?_
  | with_reducible refine rd_ifE ?_
  | with_reducible refine rd_isN ?_
  | with_reducible refine rd_notN ?_
  | with_reducible refine rd_cons ?_
  | with_reducible refine rd_nil ?_
  | with_reducible refine rd_lst ?_
  | with_reducible refine rd_tup ?_
  | with_reducible refine rd_CB ?_
  | with_reducible refine rd_call ?_
  | with_reducible refine rd_sl ?_
  | with_reducible refine rd_part ?_
  | with_reducible refine rd_nopart ?_
  | with_reducible refine rd_par ?_
  | with_reducible refine rd_two ?_
  | with_reducible refine rd_next ?_
  | with_reducible refine rd_retN ?_
  | with_reducible refine rd_bool ?_
  | with_reducible refine rd_int ?_
  | with_reducible refine rd_intI ?_
  | with_reducible refine rd_intB ?_
  | with_reducible refine rd_ltS ?_
  | with_reducible refine rd_leS ?_
  | with_reducible refine rd_gtS ?_
  | with_reducible refine rd_geS ?_
  | with_reducible refine rd_inC ?_
  | with_reducible refine rd_notInC ?_
  | with_reducible refine rd_abs ?_
  | with_reducible refine rd_max2 ?_
  | with_reducible refine rd_min2 ?_
  | with_reducible refine rd_M1 ?_
  | with_reducible refine rd_isStr ?_
  | ((with_reducible refine' rd_len ?b ?_); (case b => (simp only [List.length_cons, List.length_nil]; decide)))
  | ((with_reducible refine' rd_listS ?b ?_); (case b => first | (simp only [List.length_take, List.length_cons, List.length_nil]; omega) | omega))
  | ((with_reducible refine' rd_isi ?ty ?h ?_); (case ty => first | exact ty_str | exact ty_int | exact ty_bl | exact ty_non | exact ty_lst (by walk_at "hp") | exact ty_tup (by walk_at "hp")); (case h => walk_at "kb"))
  | with_reducible refine rd_lc ?_
  | with_reducible refine rd_for ?_
  | with_reducible refine rd_iList ?_
  | with_reducible refine rd_iTup ?_
  | with_reducible refine rd_iRng1 ?_
  | with_reducible refine rd_iRng2 ?_
  | with_reducible refine rd_iRng3 ?_
  | with_reducible refine rd_iStr ?_
  | with_reducible refine rd_qIs ?_
  | with_reducible refine rd_whb ?_
  | ((with_reducible refine' rd_qIl ?sq ?_); (case sq => walk_at "sq"))
  | ((with_reducible refine' rd_qItu ?sq ?_); (case sq => walk_at "sqt"))
  | ((with_reducible refine' rd_qIr1 ?b1 ?b2 ?_); (case b1 => walk_at "ar"); (case b2 => walk_at "ar"))
  | ((with_reducible refine' rd_qIr2 ?b1 ?b2 ?b3 ?b4 ?_); (case b1 => walk_at "ar"); (case b2 => walk_at "ar"); (case b3 => walk_at "ar"); (case b4 => walk_at "ar"))
  | ((with_reducible refine' rd_qIr3 ?b1 ?b2 ?b3 ?b4 ?_); (case b1 => walk_at "ar"); (case b2 => walk_at "ar"); (case b3 => walk_at "ar"); (case b4 => walk_at "ar"))
  | ((with_reducible refine' rd_mulS ?b1 ?b2 ?b3 ?_); (case b1 => walk_at "ar"); (case b2 => walk_at "ar"); (case b3 => walk_at "ar"))
  | ((with_reducible refine' rd_slS_to ?b1 ?b2 ?_); (case b1 => walk_at "ar"); (case b2 => walk_at "ar"))
  | ((with_reducible refine' rd_slS_from ?b1 ?b2 ?_); (case b1 => walk_at "ar"); (case b2 => walk_at "ar"))
  | ((with_reducible refine' rd_slS_mid ?b1 ?b2 ?b3 ?b4 ?_); (case b1 => walk_at "ar"); (case b2 => walk_at "ar"); (case b3 => walk_at "ar"); (case b4 => walk_at "ar"))
  | ((with_reducible refine' rd_slL ?sq ?_); (case sq => walk_at "sq"))
  | with_reducible refine rd_true ?_
  | with_reducible refine rd_false ?_
  | with_reducible refine rd_nt ?_
  | with_reducible refine rd_nf ?_
  | ((with_reducible refine' rd_decT ?h ?_); (case h => omega))
  | ((with_reducible refine' rd_decF ?h ?_); (case h => omega))
  | ((with_reducible refine' rd_ndecT ?h ?_); (case h => omega))
  | ((with_reducible refine' rd_ndecF ?h ?_); (case h => omega))
  | ((with_reducible refine' rd_evT ?h ?_); (case h => first | exact rfl | (simp; done)))
  | ((with_reducible refine' rd_evF ?h ?_); (case h => first | exact rfl | (simp; done)))
  | ((with_reducible refine' rd_ixL ?sq ?a1 ?_); (case sq => walk_at "sq"); (case a1 => first | exact rfl | exact at_of (by omega) (by assumption)))
  | ((with_reducible refine' rd_ixT ?sq ?a1 ?_); (case sq => walk_at "sqt"); (case a1 => first | exact rfl | exact at_of (by omega) (by assumption)))
  | ((with_reducible refine' rd_lenL ?sq ?_); (case sq => walk_at "sq"))
  | ((with_reducible refine' rd_lenT ?sq ?_); (case sq => walk_at "sqt"))
  | ((with_reducible refine' rd_setL ?h ?j ?_); (case h => walk_at "hp"); (case j => exact rfl); (with_reducible refine id ?_))
  | ((with_reducible refine' rd_strlen ?l ?_); (case l => walk_at "ar"))
  | ((with_reducible refine' rd_cat ?l ?_); (case l => walk_at "ar")))
local macro_rules | `(tactic| walk_at "go") => `(tactic| ((try dsimp only); (repeat (walk_at "rd"))))
local macro_rules | `(tactic| walk_at "rd") => `(tactic| first
  | with_reducible refine rd_lstRg ?_
  | with_reducible refine rd_tRg1 ?_
  | with_reducible refine rd_tRg2 ?_
  | with_reducible refine rd_rg1 ?_
  | with_reducible refine rd_rg2 ?_
  | ((with_reducible refine' rd_qRg ?b ?_); (case b => refine ⟨?_, ?_, ?_, ?_⟩ <;> omega))
  | with_reducible refine rd_tDGet ?_
  | with_reducible refine rd_sDPut ?_
  | with_reducible refine rd_dnew ?_
  | with_reducible refine rd_iZipS ?_
  | with_reducible refine rd_zipS ?_
  | ((with_reducible refine' rd_inI ?sq ?_); (case sq => walk_at "sq"))
  | ((with_reducible refine' rd_notInI ?sq ?_); (case sq => walk_at "sq"))
  | with_reducible refine rd_chain ?_)

section
variable {P : Program} {w : World} {K : PySem.W.Frag} {mg : Str → Option Value} {base : Heap}
/-- the sign that stands for a place -/
def sgOf (kvs : List (Key × V)) (i : Nat) : Nat := match valV kvs (.inl (i : Int)) with
  | some (.str z) => z.cps.getD 0 0
  | _ => 0
def KvOk (kvs : List (Key × V)) (ps : List (List Nat)) : Prop := ∀ part ∈ ps, ∃ cc, (cc = 97 ∨ cc = 98) ∧ ∀ i ∈ part, valV kvs (.inl (i : Int)) = some (.str (S [cc]))
theorem sgOf_of {kvs : List (Key × V)} {i cc : Nat} (h : valV kvs (.inl (i : Int)) = some (.str (S [cc]))) : sgOf kvs i = cc := by
  unfold sgOf
  rw [h]
  rfl
theorem ok__law_two_periods {f : Addr} {fd : FuncData} (F : Fun K "_law_two_periods" "_law_two_periods" s__law_two_periods f fd) (T : Txt K mg) (C__law_classes : Cal P w K mg base 1 "_law_classes" (sp__law_classes K)) (C__law_some : Cal P w K mg base 2 "_law_some" (sp__law_some K)) : FnOk P w K mg base CX0 3 f fd ["hand", "length", "first", "second"] (sp__law_two_periods K) := by
  refine F.ok sc__law_two_periods (fun vs H Q E h => by repeat (first | (obtain ⟨rfl, _⟩ := h; rfl) | obtain ⟨_, h⟩ := h)) (fun cdv A outer s H vs Q E hr h => ?_)
  refine ⟨_, (pss_cons (ps_set (i := 4) sc__law_two_periods.nd rfl (Or.inr rfl) pe_dnewK)
  (pss_cons (ps_for PassesOwn.never rfl (pi_list (pe_c C__law_classes hr (by decide) rfl (pa_cons (pv 1) (pa_cons (pv 2) (pa_cons (pv 3) pa_nil))))) (pg_name (i := 5) sc__law_two_periods.nd rfl (Or.inl rfl))
  (pss_cons (ps_set (i := 6) sc__law_two_periods.nd rfl (Or.inl rfl) (pe_c C__law_some hr (by decide) rfl (pa_cons (pv 0) (pa_cons (pe_lst (pa_cons (pe_strS [97] rfl) (pa_cons (pe_strS [98] rfl) pa_nil))) pa_nil))))
  (pss_one (ps_for PassesOwn.never rfl (pi_list (pv 5)) (pg_name (i := 7) sc__law_two_periods.nd rfl (Or.inl rfl))
  (pss_one (ps_dput (hu_of hr) (pv 4) (pv 7) (pv 6) rfl))))))
  (pss_one (ps_ret (pe_joinE (pe_strS [] rfl) (pe_lc (own := [("place", 7)]) rfl sc__law_two_periods.nd (pi_range1 rfl T.n_range (pa_cons (pv 1) pa_nil)) (blkOk_by (N := N__law_two_periods) (sc := defScope s__law_two_periods) (by decide +kernel)) (fun _ _ _ _ _ => (pg_name (i := 7) sc__law_two_periods.nd rfl (Or.inl rfl))) (fun _ _ _ _ _ => pts_nil) (fun _ _ _ _ _ => (pe_dget (hu_of hr) (pv 4) (pv 7) (fun _ _ => rfl))))))))), ?_⟩
  try dsimp only [cxOf, Cx.nox, Cx.wish]
  obtain ⟨h, c, n, p, q, rfl, HA, hn, hp, hq, hok, k⟩ := h
  obtain ⟨ok1, ok2, ok3, ok4⟩ := hok
  walk_at "go"
  intro d nd
  have hdh : d ≠ h := HandAt.ne HA nd
  have hdc : d ≠ c := HandAt.neC HA nd
  walk_at "go"
  refine ⟨n, p, q, rfl, hn, hp, hq, fun a H1 na s1 ⟨ls, hls, ha, hlc⟩ => ?_⟩
  have HA1 : HandAt H1 h c := HandAt.keep (HA.new nd) s1
  have hd1 : H1 d = some (.dK []) := s1 _ _ upd_same
  walk_at "go"
  have hah : a ≠ h := by
    obtain ⟨cs, i, z, m, t, g1, _⟩ := HA.new (o := HO.dK []) nd
    exact (ne_of_none g1 na).symm
  have hyh : ∀ {H2 : Hp} {b : Addr} {xs : List Nat}, HandAt H2 h c → H2 b = some (.lst ((toI xs).map V.int)) → b ≠ h := fun {H2 b xs} A1 h1 => by
    obtain ⟨cs, i, z, m, t, g1, _⟩ := A1
    refine ne_of h1 g1 ?_
    intro e
    injection e with e
    cases xs with
    | nil => cases e
    | cons x xs =>
      unfold toI at e
      rw [List.map_cons, List.map_cons] at e
      injection e with e _
      cases e
  have nod : ∀ {b : Addr} {xs : List V} {H2 : Hp} {kvs : List (Key × V)}, H2 b = some (.lst xs) → H2 d = some (.dK kvs) → b ≠ d := fun h1 h2 => ne_of h1 h2 (by intro e; cases e)
  refine forL ls (fun y => V.ref y.1) (fun t σ' H' => ∃ (kvs : List (Key × V)) (v5 v6 v7 : Option V), σ' = [some (.ref h), some (.int (n : Int)), some (.int (p : Int)), some (.int (q : Int)), some (.ref d), v5, v6, v7] ∧ HandAt H' h c ∧ (∀ b o, b ≠ h → b ≠ d → H1 b = some o → H' b = some o) ∧
      H' d = some (.dK kvs) ∧ KvOk kvs ((clA n p q).take t) ∧ kvs.length ≤ 100 * t) ⟨[], _, _, _, rfl, HA1, fun _ _ _ _ e => e, hd1, (fun part hp => by rw [List.take_zero] at hp; cases hp), Nat.zero_le _⟩
      (fun t σ' H' _ ⟨kvs, _, _, _, _, _, ke, _⟩ => SqL.of (ke _ _ hah (nod ha hd1) ha)) ?_ ?_
  · rintro t y σ2 H2 hy ⟨kvs, v5, v6, v7, rfl, HA2, ke2, hd2, hkv, hkl⟩
    have hyl : y ∈ ls := List.mem_of_getElem? hy
    have hpt : (clA n p q)[t]? = some y.2 := by rw [← hls, List.getElem?_map, hy]; rfl
    have hpm : y.2 ∈ clA n p q := List.mem_of_getElem? hpt
    have hpl := ok2 _ hpm
    have htk : (clA n p q).take (t + 1) = (clA n p q).take t ++ [y.2] := by rw [List.take_succ, hpt]; rfl
    have hdis : ∀ part ∈ (clA n p q).take t, ∀ i ∈ part, i ∉ y.2 := fun part hp2 i hi => by
      have h1 := ok4.sublist (List.take_sublist (t + 1) _)
      rw [htk] at h1
      exact (List.pairwise_append.mp h1).2.2 part hp2 y.2 (List.mem_singleton.mpr rfl) i hi
    have hyc1 := hlc y hyl
    have hyne := hyh HA1 hyc1
    have hynd : y.1 ≠ d := nod hyc1 hd1
    have htl : t < 100 := by
      have := (List.getElem?_eq_some_iff.mp hpt).1
      omega
    walk_at "go"
    intro u nu
    have huh : u ≠ h := HandAt.ne HA2 nu
    have hdu := ne_of_none hd2 nu
    walk_at "go"
    refine ⟨h, c, u, [97, 98], rfl, HA2.new nu, upd_same, huh, by decide, by decide, fun cc H3 hcc HA3 e3 => ?_⟩
    have hcc2 : cc = 97 ∨ cc = 98 := by simpa using hcc
    have hd3 : H3 d = some (.dK kvs) := e3 _ _ hdh (by rw [upd_ne hdu]; exact hd2)
    have ke3 : ∀ b o, b ≠ h → b ≠ d → H1 b = some o → H3 b = some o := fun b o b1 b2 e => by
      have h2 := ke2 b o b1 b2 e
      exact e3 _ _ b1 (by rw [upd_ne (ne_of_none h2 nu)]; exact h2)
    walk_at "go"
    refine rd_qIl (SqL.of (ke3 _ _ hyne hynd hyc1)) ?_
    refine forL (toI y.2) V.int (fun r σ' H' => ∃ (kv : List (Key × V)) (v7 : Option V), σ' = [some (.ref h), some (.int (n : Int)), some (.int (p : Int)), some (.int (q : Int)), some (.ref d), some (.ref y.1), some (.str (S [cc])), v7] ∧ HandAt H' h c ∧ (∀ b o, b ≠ h → b ≠ d → H1 b = some o → H' b = some o) ∧
      H' d = some (.dK kv) ∧ KvOk kv ((clA n p q).take t) ∧ (∀ i ∈ y.2.take r, valV kv (.inl (i : Int)) = some (.str (S [cc]))) ∧ kv.length ≤ 100 * t + r)
      ⟨kvs, _, rfl, HA3, ke3, hd3, hkv, (fun i hi => by rw [List.take_zero] at hi; cases hi), by omega⟩ (fun r σ' H' _ ⟨kv, _, _, _, ke, _⟩ => SqL.of (ke _ _ hyne hynd hyc1)) ?_ ?_
    · rintro r x σ4 H4 hx ⟨kv, v7, rfl, HA4, ke4, hd4, hkv4, hr4, hl4⟩
      obtain ⟨x2, hx2, rfl⟩ : ∃ x2 : Nat, y.2[r]? = some x2 ∧ x = (x2 : Int) := by
        unfold toI at hx
        rw [List.getElem?_map] at hx
        cases e : y.2[r]? with
        | none => rw [e] at hx; cases hx
        | some x2 => rw [e] at hx; exact ⟨x2, rfl, (Option.some.inj hx).symm⟩
      have hx2m : x2 ∈ y.2 := List.mem_of_getElem? hx2
      have hrl : r < y.2.length := (List.getElem?_eq_some_iff.mp hx2).1
      walk_at "go"
      refine rd_dput hd4 (by omega) ?_
      walk_at "go"
      refine ⟨_, _, rfl, HA4.upd hdh hdc, fun b o b1 b2 e => by rw [upd_ne b2]; exact ke4 b o b1 b2 e, upd_same, fun part hp2 => ?_, fun i hi => ?_, ?_⟩
      · obtain ⟨c2, hc2, hv2⟩ := hkv4 part hp2
        refine ⟨c2, hc2, fun i hi => ?_⟩
        have hne : ¬ ((Sum.inl (i : Int) : Key) = Sum.inl (x2 : Int)) := fun e => by
          injection e with e
          have : i = x2 := by omega
          subst this
          exact hdis part hp2 _ hi hx2m
        rw [valV_put, if_neg hne]
        exact hv2 i hi
      · rw [List.take_succ, hx2] at hi
        rw [valV_put]
        by_cases e : i = x2
        · rw [if_pos (by rw [e])]
        · have hne : ¬ ((Sum.inl (i : Int) : Key) = Sum.inl (x2 : Int)) := fun z => by
            injection z with z
            exact e (by omega)
          rw [if_neg hne]
          rcases List.mem_append.mp hi with h1 | h1
          · exact hr4 i h1
          · exact absurd (List.mem_singleton.mp h1) e
      · have := putK_len (kvs := kv) (k := Sum.inl (x2 : Int)) (v := V.str (S [cc]))
        omega
    · rintro σ4 H4 ⟨kv, v7, rfl, HA4, ke4, hd4, hkv4, hr4, hl4⟩
      have hl : (toI y.2).length = y.2.length := by unfold toI; rw [List.length_map]
      rw [hl] at hr4 hl4
      refine ⟨kv, _, _, _, rfl, HA4, ke4, hd4, fun part hp2 => ?_, by omega⟩
      rw [htk] at hp2
      rcases List.mem_append.mp hp2 with h1 | h1
      · exact hkv4 part h1
      · have := List.mem_singleton.mp h1
        subst this
        exact ⟨cc, hcc2, fun i hi => hr4 i (by rw [List.take_length]; exact hi)⟩
  · rintro σ2 H2 ⟨kvs, v5, v6, v7, rfl, HA2, ke2, hd2, hkv, hkl⟩
    have hll : ls.length = (clA n p q).length := by rw [← hls, List.length_map]
    rw [hll, List.take_length] at hkv
    have hval : ∀ i, i < n → (sgOf kvs i = 97 ∨ sgOf kvs i = 98) ∧ valV kvs (.inl (i : Int)) = some (.str (S [sgOf kvs i])) := fun i hi => by
      obtain ⟨part, hp1, hi1⟩ := ok3 i hi
      obtain ⟨cc, h1, h2⟩ := hkv part hp1
      have h3 := h2 i hi1
      rw [sgOf_of h3]
      exact ⟨h1, h3⟩
    walk_at "go"
    have en : ((n : Int)).toNat = n := by omega
    rw [en]
    refine lcR (fun _ => true) (fun i => .str (S [sgOf kvs i])) (by omega) (fun _ => rfl) (fun _ _ => pt_yes) (fun i hi _ H3 s3 Q3 q3 => ?_) (fun D H3 nD s3 hD => ?_)
    · walk_at "go"
      refine rd_dget (s3 _ _ hd2) (by rw [Int.zero_add]; exact (hval i hi).2) ?_
      exact q3 _ (Same.refl _)
    · rw [filter_yes] at hD
      walk_at "go"
      refine rd_joinC (l := (List.range n).map fun i => sgOf kvs i) (SqL.of (by rw [hD]; unfold signs; rw [List.map_map]; rfl)) (by rw [List.length_map, List.length_range]; omega) ?_
      have hsg : ∀ i, i < n → sg ((List.range n).map fun i => sgOf kvs i) i = sgOf kvs i := fun i hi => by
        unfold Lyn.sg
        simp [List.getD_eq_getElem?_getD, hi]
      refine k _ _ (by rw [List.length_map, List.length_range]) (fun x hx => ?_) (fun part hp1 i hi j hj i2 j2 => ?_) (HA2.keep s3) (fun b o b1 e => ?_)
      · obtain ⟨i, hi, rfl⟩ := List.mem_map.mp hx
        rcases (hval i (List.mem_range.mp hi)).1 with e | e <;> rw [e] <;> decide
      · obtain ⟨cc, h1, h2⟩ := hkv part hp1
        rw [hsg i i2, hsg j j2, sgOf_of (h2 i hi), sgOf_of (h2 j hj)]
      · have hbd : b ≠ d := ne_of_none e nd
        exact s3 _ _ (ke2 _ _ b1 hbd (s1 _ _ (by rw [upd_ne hbd]; exact e)))
end
end My
namespace My
open PySem PySem.Spec L2 SX
open PyProof.Rows hiding St
open Lyn (sg rootN)
/-! lengths and periods to fourteen: what is asked, over all -/
def sameB (ps : List (List Nat)) (i j : Nat) : Bool := ps.any fun part => part.elem i && part.elem j
def disB : List (List Nat) → Bool
  | [] => true
  | a :: r => (r.all fun b => a.all fun i => !(b.elem i)) && disB r
def perB (n : Nat) (ps : List (List Nat)) (p : Nat) : Bool := (List.range (n - p)).all fun i => sameB ps i (i + p)
def chkP (n p q g : Nat) (ps : List (List Nat)) (w : Nat) : Bool :=
  Nat.beq w ps.length && Nat.ble ps.length 100 && (ps.all fun part => Nat.ble part.length 100) && ((List.range n).all fun i => sameB ps i i) && disB ps && perB n ps p && perB n ps q &&
    (!(Nat.ble (p + q) (n + g)) || !(Nat.ble g n) || (Nat.beq w g && perB n ps g))
def chkB (n p q : Nat) : Bool := chkP n p q (Nat.gcd p q) (clA n p q) (wpC n p q)
theorem chk1 : ((List.range 14).all fun p => (List.range 14).all fun q => chkB 1 (p + 1) (q + 1)) = true := by decide +kernel
theorem chk2 : ((List.range 14).all fun p => (List.range 14).all fun q => chkB 2 (p + 1) (q + 1)) = true := by decide +kernel
theorem chk3 : ((List.range 14).all fun p => (List.range 14).all fun q => chkB 3 (p + 1) (q + 1)) = true := by decide +kernel
theorem chk4 : ((List.range 14).all fun p => (List.range 14).all fun q => chkB 4 (p + 1) (q + 1)) = true := by decide +kernel
theorem chk5 : ((List.range 14).all fun p => (List.range 14).all fun q => chkB 5 (p + 1) (q + 1)) = true := by decide +kernel
theorem chk6 : ((List.range 14).all fun p => (List.range 14).all fun q => chkB 6 (p + 1) (q + 1)) = true := by decide +kernel
theorem chk7 : ((List.range 14).all fun p => (List.range 14).all fun q => chkB 7 (p + 1) (q + 1)) = true := by decide +kernel
theorem chk8 : ((List.range 14).all fun p => (List.range 14).all fun q => chkB 8 (p + 1) (q + 1)) = true := by decide +kernel
theorem chk9 : ((List.range 14).all fun p => (List.range 14).all fun q => chkB 9 (p + 1) (q + 1)) = true := by decide +kernel
theorem chk10 : ((List.range 14).all fun p => (List.range 14).all fun q => chkB 10 (p + 1) (q + 1)) = true := by decide +kernel
theorem chk11 : ((List.range 14).all fun p => (List.range 14).all fun q => chkB 11 (p + 1) (q + 1)) = true := by decide +kernel
theorem chk12 : ((List.range 14).all fun p => (List.range 14).all fun q => chkB 12 (p + 1) (q + 1)) = true := by decide +kernel
theorem chk13 : ((List.range 14).all fun p => (List.range 14).all fun q => chkB 13 (p + 1) (q + 1)) = true := by decide +kernel
theorem chk14 : ((List.range 14).all fun p => (List.range 14).all fun q => chkB 14 (p + 1) (q + 1)) = true := by decide +kernel
theorem chk_all {n p q : Nat} (hn : 1 ≤ n ∧ n ≤ 14) (hp : 1 ≤ p ∧ p ≤ 14) (hq : 1 ≤ q ∧ q ≤ 14) : chkB n p q = true := by
  obtain ⟨p, rfl⟩ : ∃ p', p = p' + 1 := ⟨p - 1, by omega⟩
  obtain ⟨q, rfl⟩ : ∃ q', q = q' + 1 := ⟨q - 1, by omega⟩
  have use : ∀ {m : Nat}, ((List.range 14).all fun p => (List.range 14).all fun q => chkB m (p + 1) (q + 1)) = true → chkB m (p + 1) (q + 1) = true := fun h =>
    List.all_eq_true.mp (List.all_eq_true.mp h p (List.mem_range.mpr (by omega))) q (List.mem_range.mpr (by omega))
  have h3 : n = 1 ∨ n = 2 ∨ n = 3 ∨ n = 4 ∨ n = 5 ∨ n = 6 ∨ n = 7 ∨ n = 8 ∨ n = 9 ∨ n = 10 ∨ n = 11 ∨ n = 12 ∨ n = 13 ∨ n = 14 := by omega
  rcases h3 with h | h | h | h | h | h | h | h | h | h | h | h | h | h <;> subst h
  · exact use chk1
  · exact use chk2
  · exact use chk3
  · exact use chk4
  · exact use chk5
  · exact use chk6
  · exact use chk7
  · exact use chk8
  · exact use chk9
  · exact use chk10
  · exact use chk11
  · exact use chk12
  · exact use chk13
  · exact use chk14
theorem sameB_iff {ps : List (List Nat)} {i j : Nat} : sameB ps i j = true ↔ ∃ part ∈ ps, i ∈ part ∧ j ∈ part := by
  unfold sameB
  rw [List.any_eq_true]
  constructor
  · rintro ⟨x, h1, h2⟩
    rw [Bool.and_eq_true, List.elem_iff, List.elem_iff] at h2
    exact ⟨x, h1, h2⟩
  · rintro ⟨x, h1, h2⟩
    exact ⟨x, h1, by rw [Bool.and_eq_true, List.elem_iff, List.elem_iff]; exact h2⟩
theorem disB_iff : ∀ {ps : List (List Nat)}, disB ps = true → ps.Pairwise fun a b => ∀ i ∈ a, i ∉ b
  | [], _ => .nil
  | a :: r, h => by
    unfold disB at h
    rw [Bool.and_eq_true, List.all_eq_true] at h
    refine .cons (fun b hb i hi hib => ?_) (disB_iff h.2)
    have := List.all_eq_true.mp (h.1 b hb) i hi
    rw [Bool.not_eq_true', ← Bool.not_eq_true, List.elem_iff] at this
    exact this hib
theorem perB_iff {n p : Nat} {ps : List (List Nat)} (h : perB n ps p = true) : ∀ i, i + p < n → ∃ part ∈ ps, i ∈ part ∧ i + p ∈ part := fun i hi =>
  sameB_iff.mp (List.all_eq_true.mp h i (List.mem_range.mpr (by omega)))
/-- what the check tells -/
structure ChkOk (n p q : Nat) : Prop where
  cnt : wpC n p q = (clA n p q).length
  ok : PtsOk n (clA n p q)
  p1 : ∀ i, i + p < n → ∃ part ∈ clA n p q, i ∈ part ∧ i + p ∈ part
  p2 : ∀ i, i + q < n → ∃ part ∈ clA n p q, i ∈ part ∧ i + q ∈ part
  g : p + q ≤ n + Nat.gcd p q → Nat.gcd p q ≤ n → wpC n p q = Nat.gcd p q ∧ ∀ i, i + Nat.gcd p q < n → ∃ part ∈ clA n p q, i ∈ part ∧ i + Nat.gcd p q ∈ part
theorem chk_ok {n p q : Nat} (hn : 1 ≤ n ∧ n ≤ 14) (hp : 1 ≤ p ∧ p ≤ 14) (hq : 1 ≤ q ∧ q ≤ 14) : ChkOk n p q := by
  have h := chk_all hn hp hq
  unfold chkB chkP at h
  simp only [Bool.and_eq_true] at h
  obtain ⟨⟨⟨⟨⟨⟨⟨h1, h2⟩, h3⟩, h4⟩, h5⟩, h6⟩, h7⟩, h8⟩ := h
  refine ⟨Nat.eq_of_beq_eq_true h1, ⟨Nat.le_of_ble_eq_true h2, fun part hp => Nat.le_of_ble_eq_true (List.all_eq_true.mp h3 part hp), fun i hi => ?_, disB_iff h5⟩, perB_iff h6, perB_iff h7, fun a b => ?_⟩
  · obtain ⟨part, x1, x2, _⟩ := sameB_iff.mp (List.all_eq_true.mp h4 i (List.mem_range.mpr hi))
    exact ⟨part, x1, x2⟩
  · rw [Nat.ble_eq_true_of_le a, Nat.ble_eq_true_of_le b] at h8
    simp only [Bool.not_true, Bool.false_or, Bool.and_eq_true] at h8
    exact ⟨Nat.eq_of_beq_eq_true h8.1, perB_iff h8.2⟩
end My
namespace My
open PySem PySem.Spec L2 SX
open PyProof.Rows hiding St
open Lyn (sg rootN)
local macro_rules | `(tactic| walk_at "kb") => `(tactic| first | exact kb_str_str | exact kb_str_int | exact kb_str_bool | exact kb_str_list | exact kb_str_tuple | exact kb_int_str | exact kb_int_int | exact kb_int_bool | exact kb_int_list | exact kb_int_tuple | exact kb_bool_str | exact kb_bool_int | exact kb_bool_bool | exact kb_bool_list | exact kb_bool_tuple | exact kb_list_str | exact kb_list_int | exact kb_list_bool | exact kb_list_list | exact kb_list_tuple | exact kb_tuple_str | exact kb_tuple_int | exact kb_tuple_bool | exact kb_tuple_list | exact kb_tuple_tuple | exact kb_NoneType_str | exact kb_NoneType_int | exact kb_NoneType_bool | exact kb_NoneType_list | exact kb_NoneType_tuple)
local macro_rules | `(tactic| walk_at "hp") => `(tactic| first | assumption | exact upd_same | (refine (upd_ne (by first | assumption | (apply Ne.symm; assumption))).trans ?_; walk_at "hp"))
local macro_rules | `(tactic| walk_at "sq") => `(tactic| first | assumption | exact SqL.of (by walk_at "hp"))
local macro_rules | `(tactic| walk_at "sqt") => `(tactic| first | assumption | exact SqT.of (by walk_at "hp"))
local macro_rules | `(tactic| walk_at "ar") => `(tactic| first | omega | (dsimp only; omega) | (unfold CMul; omega) | (unfold CDiv; omega) | (unfold CPow; refine ⟨?_, ?_, ?_⟩ <;> decide) | (simp only [List.length_cons, List.length_nil]; decide))
local macro_rules | `(tactic| walk_at "rd") => `(tactic| first
  | with_reducible refine rd_seq ?_
  | with_reducible refine rd_asg ?_
  | with_reducible refine rd_if ?_
  | with_reducible refine rd_ret ?_
  | with_reducible refine rd_drop ?_
  | with_reducible refine rd_name ?_
  | with_reducible refine rd_sub ?_
  | ((with_reducible refine' rd_var ?e ?_); (case e => exact rfl))
  | with_reducible refine rd_c ?_
  | with_reducible refine rd_op ?_
  | with_reducible refine rd_un ?_
  | with_reducible refine rd_I0 ?_
  | ((with_reducible refine' rd_I ?c ?_); (case c => walk_at "ar"))
  | with_reducible refine rd_U ?_
  | with_reducible refine rd_eqI ?_
  | with_reducible refine rd_neI ?_
  | with_reducible refine rd_eqS ?_
  | with_reducible refine rd_neS ?_
  | with_reducible refine rd_eqB ?_
  | with_reducible refine rd_neB ?_
  | with_reducible refine rd_test ?_
  | with_reducible refine rd_B ?_
  | with_reducible refine rd_and ?_
  | with_reducible refine rd_or ?_
  | with_reducible refine rd_not ?_
  | with_reducible refine rd_andV ?_
  | with_reducible refine rd_orV ?_
  | with_reducible refine rd_notV ?_
  | with_reducible refine rd_ifE ?_
  | with_reducible refine rd_isN ?_
  | with_reducible refine rd_notN ?_
  | with_reducible refine rd_cons ?_
  | with_reducible refine rd_nil ?_
  | with_reducible refine rd_lst ?_
  | with_reducible refine rd_tup ?_
  | with_reducible refine rd_CB ?_
  | with_reducible refine rd_call ?_
  | with_reducible refine rd_sl ?_
  | with_reducible refine rd_part ?_
  | with_reducible refine rd_nopart ?_
  | with_reducible refine rd_par ?_
  | with_reducible refine rd_two ?_
  | with_reducible refine rd_next ?_
  | with_reducible refine rd_retN ?_
  | with_reducible refine rd_bool ?_
  | with_reducible refine rd_int ?_
  | with_reducible refine rd_intI ?_
  | with_reducible refine rd_intB ?_
  | with_reducible refine rd_ltS ?_
  | with_reducible refine rd_leS ?_
  | with_reducible refine rd_gtS ?_
  | with_reducible refine rd_geS ?_
  | with_reducible refine rd_inC ?_
  | with_reducible refine rd_notInC ?_
  | with_reducible refine rd_abs ?_
  | with_reducible refine rd_max2 ?_
  | with_reducible refine rd_min2 ?_
  | with_reducible refine rd_M1 ?_
  | with_reducible refine rd_isStr ?_
  | ((with_reducible refine' rd_len ?b ?_); (case b => (simp only [List.length_cons, List.length_nil]; decide)))
  | ((with_reducible refine' rd_listS ?b ?_); (case b => first | (simp only [List.length_take, List.length_cons, List.length_nil]; omega) | omega))
  | ((with_reducible refine' rd_isi ?ty ?h ?_); (case ty => first | exact ty_str | exact ty_int | exact ty_bl | exact ty_non | exact ty_lst (by walk_at "hp") | exact ty_tup (by walk_at "hp")); (case h => walk_at "kb"))
  | with_reducible refine rd_lc ?_
  | with_reducible refine rd_for ?_
  | with_reducible refine rd_iList ?_
  | with_reducible refine rd_iTup ?_
  | with_reducible refine rd_iRng1 ?_
  | with_reducible refine rd_iRng2 ?_
  | with_reducible refine rd_iRng3 ?_
  | with_reducible refine rd_iStr ?_
  | with_reducible refine rd_qIs ?_
  | with_reducible refine rd_whb ?_
  | ((with_reducible refine' rd_qIl ?sq ?_); (case sq => walk_at "sq"))
  | ((with_reducible refine' rd_qItu ?sq ?_); (case sq => walk_at "sqt"))
  | ((with_reducible refine' rd_qIr1 ?b1 ?b2 ?_); (case b1 => walk_at "ar"); (case b2 => walk_at "ar"))
  | ((with_reducible refine' rd_qIr2 ?b1 ?b2 ?b3 ?b4 ?_); (case b1 => walk_at "ar"); (case b2 => walk_at "ar"); (case b3 => walk_at "ar"); (case b4 => walk_at "ar"))
  | ((with_reducible refine' rd_qIr3 ?b1 ?b2 ?b3 ?b4 ?_); (case b1 => walk_at "ar"); (case b2 => walk_at "ar"); (case b3 => walk_at "ar"); (case b4 => walk_at "ar"))
  | ((with_reducible refine' rd_mulS ?b1 ?b2 ?b3 ?_); (case b1 => walk_at "ar"); (case b2 => walk_at "ar"); (case b3 => walk_at "ar"))
  | ((with_reducible refine' rd_slS_to ?b1 ?b2 ?_); (case b1 => walk_at "ar"); (case b2 => walk_at "ar"))
  | ((with_reducible refine' rd_slS_from ?b1 ?b2 ?_); (case b1 => walk_at "ar"); (case b2 => walk_at "ar"))
  | ((with_reducible refine' rd_slS_mid ?b1 ?b2 ?b3 ?b4 ?_); (case b1 => walk_at "ar"); (case b2 => walk_at "ar"); (case b3 => walk_at "ar"); (case b4 => walk_at "ar"))
  | ((with_reducible refine' rd_slL ?sq ?_); (case sq => walk_at "sq"))
  | with_reducible refine rd_true ?_
  | with_reducible refine rd_false ?_
  | with_reducible refine rd_nt ?_
  | with_reducible refine rd_nf ?_
  | ((with_reducible refine' rd_decT ?h ?_); (case h => omega))
  | ((with_reducible refine' rd_decF ?h ?_); (case h => omega))
  | ((with_reducible refine' rd_ndecT ?h ?_); (case h => omega))
  | ((with_reducible refine' rd_ndecF ?h ?_); (case h => omega))
  | ((with_reducible refine' rd_evT ?h ?_); (case h => first | exact rfl | (simp; done)))
  | ((with_reducible refine' rd_evF ?h ?_); (case h => first | exact rfl | (simp; done)))
  | ((with_reducible refine' rd_ixL ?sq ?a1 ?_); (case sq => walk_at "sq"); (case a1 => first | exact rfl | exact at_of (by omega) (by assumption)))
  | ((with_reducible refine' rd_ixT ?sq ?a1 ?_); (case sq => walk_at "sqt"); (case a1 => first | exact rfl | exact at_of (by omega) (by assumption)))
  | ((with_reducible refine' rd_lenL ?sq ?_); (case sq => walk_at "sq"))
  | ((with_reducible refine' rd_lenT ?sq ?_); (case sq => walk_at "sqt"))
  | ((with_reducible refine' rd_setL ?h ?j ?_); (case h => walk_at "hp"); (case j => exact rfl); (with_reducible refine id ?_))
  | ((with_reducible refine' rd_strlen ?l ?_); (case l => walk_at "ar"))
  | ((with_reducible refine' rd_cat ?l ?_); (case l => walk_at "ar")))
local macro_rules | `(tactic| walk_at "go") => `(tactic| ((try dsimp only); (repeat (walk_at "rd"))))
local macro_rules | `(tactic| walk_at "rd") => `(tactic| first
  | with_reducible refine rd_lstRg ?_
  | with_reducible refine rd_tRg1 ?_
  | with_reducible refine rd_tRg2 ?_
  | with_reducible refine rd_rg1 ?_
  | with_reducible refine rd_rg2 ?_
  | ((with_reducible refine' rd_qRg ?b ?_); (case b => refine ⟨?_, ?_, ?_, ?_⟩ <;> omega))
  | with_reducible refine rd_tDGet ?_
  | with_reducible refine rd_sDPut ?_
  | with_reducible refine rd_dnew ?_
  | with_reducible refine rd_iZipS ?_
  | with_reducible refine rd_zipS ?_
  | ((with_reducible refine' rd_inI ?sq ?_); (case sq => walk_at "sq"))
  | ((with_reducible refine' rd_notInI ?sq ?_); (case sq => walk_at "sq"))
  | with_reducible refine rd_chain ?_)

section
variable {P : Program} {w : World} {K : PySem.W.Frag} {mg : Str → Option Value} {base : Heap}
theorem wd_mono {n m : Int} {l : List Nat} (h : Wd n l) (nm : n ≤ m) : Wd m l := fun c hc => by have := h c hc; omega
theorem wd_rep {n : Int} {l : List Nat} (h : Wd n l) : ∀ k, Wd n (repL l k)
  | 0 => fun c hc => by cases hc
  | k + 1 => fun c hc => by
    rcases List.mem_append.mp (show c ∈ l ++ repL l k from hc) with z | z
    · exact h c z
    · exact wd_rep h k c z
theorem c1 : bordL [97, 98, 97, 97, 98] = [0, 2] := by decide +kernel
theorem c2 : perL [97, 98, 97, 97, 98] = [3, 5] := by decide +kernel
theorem c3 : rootN [97, 98, 97, 98] = 2 := by decide +kernel
theorem c4 : bordL [] = [] := by decide +kernel
theorem bord_len {l : List Nat} : (bordL l).length ≤ l.length := by
  unfold bordL Per.bl
  rw [List.length_map]
  have := List.length_filter_le (fun b => decide (Per.Bd (sg l) l.length b)) (List.range l.length)
  rwa [List.length_range] at this
theorem due_eq {l : List Nat} : ((List.range l.length).filter fun y => decide (l.take y = l.drop (l.length - y))).map (fun y : Nat => V.int (0 + (y : Int))) = (bordL l).map V.int := by
  unfold bordL Per.bl
  rw [List.map_map]
  have e : (List.range l.length).filter (fun y => decide (l.take y = l.drop (l.length - y))) = (List.range l.length).filter fun b => decide (Per.Bd (sg l) l.length b) := by
    refine List.filter_congr fun y hy => ?_
    exact decide_eq_decide.mpr (PerW.bd_take (List.mem_range.mp hy))
  rw [e]
  refine List.map_congr_left fun y _ => ?_
  show V.int (0 + (y : Int)) = V.int (y : Int)
  rw [Int.zero_add]
/-- a period, letter by letter -/
def perY (l : List Nat) (p : Nat) : Bool := ((List.range (l.length - p)).map fun k => decide (sg l k = sg l (k + p))).all id
theorem perY_iff {l : List Nat} {p : Nat} : perY l p = true ↔ ∀ i, i + p < l.length → sg l i = sg l (i + p) := by
  unfold perY
  rw [List.all_map, List.all_eq_true]
  constructor
  · intro h i hi
    exact of_decide_eq_true (h i (List.mem_range.mpr (by omega)))
  · intro h i hi
    have := List.mem_range.mp hi
    exact decide_eq_true (h i (by omega))
theorem rows_eq2 {l : List Nat} : (((List.range l.length).map fun i => 1 + i).filter fun p => perY l p).map (fun p : Nat => V.int (p : Int)) = (perL l).map V.int := by
  unfold perL
  rw [PerW.rows_eq l (fun p => perY l p) fun p _ _ => perY_iff, List.map_map]
  rfl
theorem rg_eq {n : Nat} : rgV 1 ((n : Int) + 1) = ((List.range n).map fun i => 1 + i).map fun p : Nat => V.int (p : Int) := by
  unfold rgV
  have e : ((n : Int) + 1 - 1).toNat = n := by omega
  rw [e, List.map_map]
  refine List.map_congr_left fun i _ => ?_
  show V.int (1 + (i : Int)) = V.int ((1 + i : Nat) : Int)
  rw [Int.natCast_add]
  rfl
theorem mem_per {l : List Nat} {p : Nat} (h0 : 0 < p) (hp : p ≤ l.length) (h : ∀ i, i + p < l.length → sg l i = sg l (i + p)) : ((p : Int)) ∈ perL l := by
  unfold perL
  exact List.mem_map.mpr ⟨p, PerW.mem_pl.mpr ⟨h0, hp, (PerW.bd_per h0 hp).mpr h⟩, rfl⟩
theorem ok_law {f : Addr} {fd : FuncData} (F : Fun K "law" "law" s_law f fd) (T : Txt K mg) (C__law_hand : Cal P w K mg base 1 "_law_hand" (sp__law_hand K)) (C_borders : Cal P w K mg base 3 "borders" (sp_borders K)) (C_periods : Cal P w K mg base 4 "periods" (sp_periods K)) (C_root_of : Cal P w K mg base 5 "root_of" (sp_root_of K)) (C__law_draw : Cal P w K mg base 1 "_law_draw" (sp__law_draw K)) (C__law_word : Cal P w K mg base 3 "_law_word" (sp__law_word K)) (C__law_is : Cal P w K mg base 2 "_law_is" (sp__law_is K)) (C_with_periods : Cal P w K mg base 2 "with_periods" (sp_with_periods K)) (C__law_divisor : Cal P w K mg base 1 "_law_divisor" (sp__law_divisor K)) (C__law_classes : Cal P w K mg base 1 "_law_classes" (sp__law_classes K)) (C__law_two_periods : Cal P w K mg base 3 "_law_two_periods" (sp__law_two_periods K)) : FnOk P w K mg base CX0 6 f fd ["script"] (sp_law K) := by
  refine F.ok sc_law (fun vs H Q E h => by repeat (first | (obtain ⟨rfl, _⟩ := h; rfl) | obtain ⟨_, h⟩ := h)) (fun cdv A outer s H vs Q E hr h => ?_)
  refine ⟨_, (pss_cons (ps_set (i := 1) sc_law.nd rfl (Or.inr rfl) (pe_c C__law_hand hr (by decide) rfl (pa_cons (pv 0) pa_nil)))
  (pss_cons (ps_if (PW.pt (pw_or (pt_cmpR (op_neD hr.units) (pe_c C_borders hr (by decide) rfl (pa_cons (pe_strS [97, 98, 97, 97, 98] rfl) pa_nil)) (pe_lst (pa_cons pe_int (pa_cons pe_int pa_nil))) (nomark _)) (pw_or (pt_cmpR (op_neD hr.units) (pe_c C_periods hr (by decide) rfl (pa_cons (pe_strS [97, 98, 97, 97, 98] rfl) pa_nil)) (pe_lst (pa_cons pe_int (pa_cons pe_int pa_nil))) (nomark _)) (pw_or (pt_cmpR (op_neD hr.units) (pe_c C_root_of hr (by decide) rfl (pa_cons (pe_strS [97, 98, 97, 98] rfl) pa_nil)) (pe_tup (pa_cons (pe_strS [97, 98] rfl) (pa_cons pe_int pa_nil))) (nomark _)) (pw_or1 (pt_cmpR (op_neD hr.units) (pe_c C_borders hr (by decide) rfl (pa_cons (pe_strS [] rfl) pa_nil)) (pe_lst pa_nil) (nomark _))))))) (pss_one (ps_ret pe_bl)) pss_nil)
  (pss_cons (ps_for PassesOwn.never rfl (pi_range1 rfl T.n_range (pa_cons pe_int pa_nil)) (pg_name (i := 2) sc_law.nd rfl (Or.inl rfl))
  (pss_cons (ps_set (i := 3) sc_law.nd rfl (Or.inr rfl) (pe_op op_mulS (pe_c C__law_word hr (by decide) rfl (pa_cons (pv 1) (pa_cons (pe_op op_add pe_int (pe_c C__law_draw hr (by decide) rfl (pa_cons (pv 1) (pa_cons pe_int pa_nil)))) (pa_cons pe_int pa_nil)))) (pe_op op_add pe_int (pe_c C__law_draw hr (by decide) rfl (pa_cons (pv 1) (pa_cons pe_int pa_nil))))))
  (pss_cons (ps_setLc (i := 4) (own := [("length", 5)]) rfl sc_law.nd rfl rfl (sw_true rfl rfl rfl (by decide +kernel)) (pi_range1 rfl T.n_range (pa_cons (pe_callB cq_lenS rfl T.n_len boot_len (pa_cons (pv 3) pa_nil)) pa_nil)) (blkOk_by (N := N_law) (sc := defScope s_law) (by decide +kernel)) (fun _ _ _ _ _ => (pg_name (i := 5) sc_law.nd rfl (Or.inl rfl))) (fun _ _ _ _ _ => (pts_one (pt_cmpR op_eq (pe_slice C8.sl_txt (pv 3) po_none (po_some (pv 5))) (pe_slice C8.sl_txt (pv 3) (po_some (pe_op op_sub (pe_callB cq_lenS rfl T.n_len boot_len (pa_cons (pv 3) pa_nil)) (pv 5))) po_none) (nomark _)))) (fun _ _ _ _ _ => (pv 5)))
  (pss_cons (ps_if (pt_not (pt_val (pe_c C__law_is hr (by decide) rfl (pa_cons (pe_c C_borders hr (by decide) rfl (pa_cons (pv 3) pa_nil)) (pa_cons (pv 4) pa_nil))))) (pss_one (ps_ret pe_bl)) pss_nil)
  (pss_cons (ps_set (i := 6) sc_law.nd rfl (Or.inl rfl) (pe_listRg rfl rfl T.n_list (prg_2 rfl T.n_range pe_int (pe_op op_add (pe_callB cq_lenS rfl T.n_len boot_len (pa_cons (pv 3) pa_nil)) pe_int))))
  (pss_cons (ps_setLc (i := 7) (own := [("period", 15)]) rfl sc_law.nd rfl rfl (sw_true rfl rfl rfl (by decide +kernel)) (pi_list (pv 6)) (blkOk_by (N := N_law) (sc := defScope s_law) (by decide +kernel)) (fun _ _ _ _ _ => (pg_name (i := 15) sc_law.nd rfl (Or.inl rfl))) (fun _ _ _ _ _ => (pts_one (pt_val (pe_callB (cr_allK K rfl rfl) rfl T.n_all boot_all (pa_cons (pe_lc (own := [("one", 17), ("two", 18)]) rfl sc_law.nd (pi_zipS rfl T.n_zip (pa_cons (pv 3) (pa_cons (pe_slice C8.sl_txt (pv 3) (po_some (pv 15)) po_none) pa_nil))) (blkOk_by (N := N_law)  (by kernel_rfl)) (fun _ _ _ _ _ => (pg_two (i := 17) (j := 18) K rfl rfl sc_law.nd rfl (Or.inl rfl) rfl (Or.inl rfl))) (fun _ _ _ _ _ => pts_nil) (fun _ _ _ _ _ => (pe_cmpR op_eq (pv 17) (pv 18) (nomark _)))) pa_nil))))) (fun _ _ _ _ _ => (pv 15)))
  (pss_cons (ps_if (pt_not (pt_val (pe_c C__law_is hr (by decide) rfl (pa_cons (pe_c C_periods hr (by decide) rfl (pa_cons (pv 3) pa_nil)) (pa_cons (pv 7) pa_nil))))) (pss_one (ps_ret pe_bl)) pss_nil)
  (C8.pss_cut (ps_if (pt_cmpR op_ne (pv 3) (pe_strS [] rfl) (nomark _)) (pss_cons (ps_set (i := 8) sc_law.nd rfl (Or.inl rfl) (pe_callB (cr_max rfl) rfl T.n_max boot_max (pa_cons (pe_lc (own := [("many", 9)]) rfl sc_law.nd (pi_list (pv 6)) (blkOk_by (N := N_law) (sc := defScope s_law) (by decide +kernel)) (fun _ _ _ _ _ => (pg_name (i := 9) sc_law.nd rfl (Or.inl rfl))) (fun _ _ _ _ _ => (pts_one (pt_cmpR op_eq (pe_op op_mulS (pe_slice C8.sl_txt (pv 3) po_none (po_some (pe_op op_fdiv (pe_callB cq_lenS rfl T.n_len boot_len (pa_cons (pv 3) pa_nil)) (pv 9)))) (pv 9)) (pv 3) (nomark _)))) (fun _ _ _ _ _ => (pv 9))) pa_nil)))
  (pss_one (ps_if (pt_not (pt_val (pe_c C__law_is hr (by decide) rfl (pa_cons (pe_c C_root_of hr (by decide) rfl (pa_cons (pv 3) pa_nil)) (pa_cons (pe_tup (pa_cons (pe_slice C8.sl_txt (pv 3) po_none (po_some (pe_op op_fdiv (pe_callB cq_lenS rfl T.n_len boot_len (pa_cons (pv 3) pa_nil)) (pv 8)))) (pa_cons (pv 8) pa_nil))) pa_nil))))) (pss_one (ps_ret pe_bl)) pss_nil))) pss_nil)
  (pss_cons (ps_asg (pe_lc (own := [("number", 16)]) rfl sc_law.nd (pi_range1 rfl T.n_range (pa_cons pe_int pa_nil)) (blkOk_by (N := N_law) (sc := defScope s_law) (by decide +kernel)) (fun _ _ _ _ _ => (pg_name (i := 16) sc_law.nd rfl (Or.inl rfl))) (fun _ _ _ _ _ => pts_nil) (fun _ _ _ _ _ => (pe_op op_add pe_int (pe_c C__law_draw hr (by decide) rfl (pa_cons (pv 1) (pa_cons pe_int pa_nil)))))) (pg_unl3 (i := 5) (j := 10) (l := 11) K rfl rfl sc_law.nd rfl (Or.inl rfl) rfl (Or.inl rfl) rfl (Or.inl rfl)))
  (pss_cons (ps_par (i := 9) (j := 12) rfl sc_law.nd rfl rfl (by decide) rfl rfl (pa_cons (pe_c C_with_periods hr (by decide) rfl (pa_cons (pv 5) (pa_cons (pv 10) (pa_cons (pv 11) pa_nil)))) (pa_cons (pe_c C__law_divisor hr (by decide) rfl (pa_cons (pv 10) (pa_cons (pv 11) pa_nil))) pa_nil)) (by rfl))
  (pss_cons (ps_if (pt_not (pt_val (pe_c C__law_is hr (by decide) rfl (pa_cons (pv 9) (pa_cons (pe_callB cq_len rfl T.n_len boot_len (pa_cons (pe_c C__law_classes hr (by decide) rfl (pa_cons (pv 5) (pa_cons (pv 10) (pa_cons (pv 11) pa_nil)))) pa_nil)) pa_nil))))) (pss_one (ps_ret pe_bl)) pss_nil)
  (C8.pss_cut (ps_if (PW.pt (pw_and (pt_cmpR op_ge (pv 5) (pe_op op_sub (pe_op op_add (pv 10) (pv 11)) (pv 12)) (nomark _)) (pw_and (pt_cmpR op_ge (pv 5) (pv 12) (nomark _)) (pw_and1 (pt_cmpR op_ne (pv 9) (pv 12) (nomark _)))))) (pss_one (ps_ret pe_bl)) pss_nil)
  (pss_cons (ps_set (i := 13) sc_law.nd rfl (Or.inl rfl) (pe_c C__law_two_periods hr (by decide) rfl (pa_cons (pv 1) (pa_cons (pv 5) (pa_cons (pv 10) (pa_cons (pv 11) pa_nil))))))
  (pss_cons (ps_set (i := 14) sc_law.nd rfl (Or.inl rfl) (pe_c C_periods hr (by decide) rfl (pa_cons (pv 13) pa_nil)))
  (C8.pss_cut (ps_if (PW.pt (pw_or (PW.pt (pw_and (pt_cmpR op_le (pv 10) (pv 5) (nomark _)) (pw_and1 (pt_cmpR (op_notInQ K rfl) (pv 10) (pv 14) rfl)))) (pw_or1 (PW.pt (pw_and (pt_cmpR op_le (pv 11) (pv 5) (nomark _)) (pw_and1 (pt_cmpR (op_notInQ K rfl) (pv 11) (pv 14) rfl))))))) (pss_one (ps_ret pe_bl)) pss_nil)
  (pss_one (ps_if (PW.pt (pw_and (pt_cmpR op_ge (pv 5) (pe_op op_sub (pe_op op_add (pv 10) (pv 11)) (pv 12)) (nomark _)) (pw_and (pt_cmpR op_le (pv 12) (pv 5) (nomark _)) (pw_and1 (pt_cmpR (op_notInQ K rfl) (pv 12) (pv 14) rfl))))) (pss_one (ps_ret pe_bl)) pss_nil)))))))))))))))))
  (pss_one (ps_ret pe_bl))))), ?_⟩
  try dsimp only [cxOf, Cx.nox, Cx.wish]
  obtain ⟨a, ns, rfl, hs, k⟩ := h
  walk_at "go"
  refine ⟨a, ns, rfl, hs, fun hd c H1 HA s1 => ?_⟩
  walk_at "go"
  refine ⟨[97, 98, 97, 97, 98], rfl, (by unfold Wd; decide), by decide, fun p1 H2 np1 s2 h2 => ?_⟩
  walk_at "go"
  intro q1 nq1
  refine rd_neLI (ms := [0, 2]) (SqL.of (show upd H2 q1 _ p1 = _ by rw [upd_ne (ne_of_none h2 nq1)]; exact h2)) (SqL.of upd_same) ?_
  rw [c1]
  have s3 := s2.trans (Same.new (o := HO.lst [V.int 0, V.int 2]) nq1)
  walk_at "go"
  refine ⟨[97, 98, 97, 97, 98], rfl, (by unfold Wd; decide), by decide, fun p2 H3 np2 s4 h3 => ?_⟩
  walk_at "go"
  intro q2 nq2
  refine rd_neLI (ms := [3, 5]) (SqL.of (show upd H3 q2 _ p2 = _ by rw [upd_ne (ne_of_none h3 nq2)]; exact h3)) (SqL.of upd_same) ?_
  rw [c2]
  have s5 := (s3.trans s4).trans (Same.new (o := HO.lst [V.int 3, V.int 5]) nq2)
  walk_at "go"
  refine ⟨[97, 98, 97, 98], rfl, (by unfold Wd; decide), by decide, by decide, fun p3 H4 np3 s6 h4 => ?_⟩
  rw [c3] at h4
  walk_at "go"
  intro q3 nq3
  refine rd_neTSI (SqT.of (show upd H4 q3 _ p3 = _ by rw [upd_ne (ne_of_none h4 nq3)]; exact h4)) (SqT.of upd_same) (by unfold OkW; decide) (by unfold OkW; decide) ?_
  have s7 := (s5.trans s6).trans (Same.new (o := HO.tup [V.str (S [97, 98]), V.int 2]) nq3)
  walk_at "go"
  refine ⟨[], rfl, (by unfold Wd; decide), by decide, fun p4 H5 np4 s8 h5 => ?_⟩
  walk_at "go"
  intro q4 nq4
  refine rd_neLI (ms := []) (SqL.of (show upd H5 q4 _ p4 = _ by rw [upd_ne (ne_of_none h5 nq4)]; exact h5)) (SqL.of upd_same) ?_
  rw [c4]
  have s9 := (s7.trans s8).trans (Same.new (o := HO.lst []) nq4)
  walk_at "go"
  refine forR (fun i σ' H' => ∃ v2 v3 v4 v5 v6 v7 v8 v9 v10 v11 v12 v13 v14 v15 v16 v17 v18, σ' = [some (.ref a), some (.ref hd), v2, v3, v4, v5, v6, v7, v8, v9, v10, v11, v12, v13, v14, v15, v16, v17, v18] ∧ HandAt H' hd c) ⟨_, _, _, _, _, _, _, _, _, _, _, _, _, _, _, _, _, rfl, HandAt.keep HA s9⟩ ?_ ?_
  · rintro i σ1 H6 hi ⟨v2, v3, v4, v5, v6, v7, v8, v9, v10, v11, v12, v13, v14, v15, v16, v17, v18, rfl, HA6⟩
    walk_at "go"
    refine ⟨hd, c, 3, rfl, HA6, by decide, by decide, fun d H7 d0 d3 HA7 _ => ?_⟩
    walk_at "go"
    refine ⟨hd, c, 1 + d, 8, rfl, HA7, by omega, by omega, by decide, by decide, fun w0 H8 hw0 hl0 HA8 _ => ?_⟩
    walk_at "go"
    refine ⟨hd, c, 2, rfl, HA8, by decide, by decide, fun e H9 e0 e2 HA9 _ => ?_⟩
    walk_at "go"
    obtain ⟨e, rfl⟩ := Int.eq_ofNat_of_zero_le e0
    have ee : (1 + (e : Int)).toNat = 1 + e := by omega
    rw [ee]
    have hw4 : Wd 4 (repL w0 (1 + e)) := wd_mono (wd_rep hw0 _) (by omega)
    have hl16 : (repL w0 (1 + e)).length ≤ 16 := by
      rw [repL_len]
      have : (1 + e) * w0.length ≤ 2 * 8 := Nat.mul_le_mul (by omega) (by omega)
      omega
    generalize repL w0 (1 + e) = l at hw4 hl16
    walk_at "go"
    have en : ((l.length : Int)).toNat = l.length := by omega
    rw [en]
    refine lcR (fun y => decide (l.take y = l.drop (l.length - y))) (fun y => .int (0 + (y : Int))) (by omega) (fun _ => rfl) (fun y hy H10 s10 Q1 q1 => ?_) (fun y hy _ H10 s10 Q1 q1 => ?_) (fun D H10 nD s10 hD => ?_)
    · walk_at "go"
      have e1 : (0 + (y : Int)).toNat = y := by omega
      have e3 : ((l.length : Int) - (0 + (y : Int))).toNat = l.length - y := by omega
      rw [e1, e3]
      exact q1 _ (Same.refl _)
    · walk_at "go"
      exact q1 _ (Same.refl _)
    rw [due_eq] at hD
    have HA10 := HandAt.keep HA9 s10
    walk_at "go"
    refine ⟨l, rfl, hw4, by omega, fun p5 H11 np5 s11 h11 => ?_⟩
    have HA11 := HandAt.keep HA10 s11
    have hbl := bord_len (l := l)
    walk_at "go"
    refine ⟨_, _, rfl, .inr ⟨p5, D, (bordL l).map V.int, rfl, rfl, fun z hz => ?_, by rw [List.length_map]; omega, .inl ⟨h11, s11 _ _ hD⟩⟩, fun H12 s12 => ?_⟩
    · obtain ⟨x, _, rfl⟩ := List.mem_map.mp hz
      exact .inl ⟨x, rfl⟩
    have HA12 := HandAt.keep HA11 s12
    walk_at "go"
    intro sm nsm
    rw [rg_eq]
    have HA13 := HA12.new (o := HO.lst (((List.range l.length).map fun i => 1 + i).map fun p : Nat => V.int (p : Int))) nsm
    walk_at "go"
    refine lcL ((List.range l.length).map fun i => 1 + i) (fun p : Nat => V.int (p : Int)) (SqL.of upd_same) (fun p => perY l p) (fun p : Nat => V.int (p : Int)) (by rw [List.length_map, List.length_range]; omega) (fun _ => rfl) (fun y hy H14 s14 Q1 q1 => ?_) (fun y hy _ H14 s14 Q1 q1 => ?_) (fun D2 H14 nD2 s14 hD2 => ?_)
    · obtain ⟨y0, hy0, hy1⟩ := List.mem_map.mp hy
      have hy2 := List.mem_range.mp hy0
      walk_at "go"
      have hdl : (l.drop (y : Int).toNat).length = l.length - y := by rw [List.length_drop]; omega
      refine lcZ (walk_zipS (by rw [List.length_drop]; omega)) (fun _ _ => trivial) (fun k => .bl (decide (sg l k = sg l (k + y)))) (by rw [hdl]; omega) (fun _ _ => rfl) (fun k u v hk hu hv => ?_) (fun D3 H15 nD3 s15 hD3 => ?_)
      · intro H16 s16 Q2 q2
        rw [hdl] at hk
        have hu2 : u = .str (S [sg l k]) := by
          rw [sg_at (show k < l.length by omega)] at hu
          exact (Option.some.inj hu).symm
        have hv2 : v = .str (S [sg l (k + y)]) := by
          rw [List.getElem?_drop, show (y : Int).toNat + k = k + y by omega, sg_at (show k + y < l.length by omega)] at hv
          exact (Option.some.inj hv).symm
        subst hu2 hv2
        walk_at "go"
        rw [show decide ([sg l k] = [sg l (k + y)]) = decide (sg l k = sg l (k + y)) from decide_eq_decide.mpr (by simp)]
        exact q2 _ (Same.refl _)
      · walk_at "go"
        rw [hdl] at hD3
        refine rd_all (bs := (List.range (l.length - y)).map fun k => decide (sg l k = sg l (k + y))) (SqL.of (by rw [hD3, List.map_map]; rfl)) ?_
        walk_at "go"
        exact q1 _ s15
    · walk_at "go"
      exact q1 _ (Same.refl _)
    rw [rows_eq2] at hD2
    have HA14 := HandAt.keep HA13 s14
    walk_at "go"
    refine ⟨l, rfl, hw4, by omega, fun p6 H15 np6 s15 h15 => ?_⟩
    have HA15 := HandAt.keep HA14 s15
    walk_at "go"
    have hpl : (perL l).length ≤ l.length := by
      unfold perL Per.pl
      rw [List.length_map, List.length_reverse, List.length_map]
      have := bord_len (l := l)
      unfold bordL at this
      rwa [List.length_map] at this
    refine ⟨_, _, rfl, .inr ⟨p6, D2, (perL l).map V.int, rfl, rfl, fun z hz => ?_, by rw [List.length_map]; omega, .inl ⟨h15, s15 _ _ hD2⟩⟩, fun H16 s16 => ?_⟩
    · obtain ⟨x, _, rfl⟩ := List.mem_map.mp hz
      exact .inl ⟨x, rfl⟩
    have HA16 := HandAt.keep HA15 s16
    have hsm16 : H16 sm = some (.lst (((List.range l.length).map fun i => 1 + i).map fun p : Nat => V.int (p : Int))) := s16 _ _ (s15 _ _ (s14 _ _ upd_same))
    walk_at "go"
    refine ⟨fun σ' H' => ∃ v2 v3 v4 v5 v6 v7 v8 v9 v10 v11 v12 v13 v14 v15 v16 v17 v18, σ' = [some (.ref a), some (.ref hd), v2, v3, v4, v5, v6, v7, v8, v9, v10, v11, v12, v13, v14, v15, v16, v17, v18] ∧ HandAt H' hd c, ?_, ?_⟩
    · walk_at "go"
      refine rd_ndec (fun el => ?_) (fun el => ?_)
      · have hlp : 0 < l.length := List.length_pos_iff.mpr el
        obtain ⟨m1, m2, m3, m4, m5⟩ := PerW.most_power hlp
        walk_at "go"
        refine lcL ((List.range l.length).map fun i => 1 + i) (fun p : Nat => V.int (p : Int)) (SqL.of hsm16) (fun m => decide (repL (l.take (l.length / m)) m = l)) (fun p : Nat => V.int (p : Int)) (by rw [List.length_map, List.length_range]; omega) (fun _ => rfl) (fun y hy H17 s17 Q1 q1 => ?_) (fun y hy _ H17 s17 Q1 q1 => ?_) (fun D4 H17 nD4 s17 hD4 => ?_)
        · obtain ⟨y0, hy0, hy1⟩ := List.mem_map.mp hy
          have hy2 := List.mem_range.mp hy0
          have ed : ((l.length : Int) / (y : Int)) = ((l.length / y : Nat) : Int) := by rw [Int.natCast_ediv]
          walk_at "go"
          rw [ed]
          refine rd_slS_to (by omega) (Int.natCast_nonneg _) ?_
          rw [Int.toNat_natCast]
          walk_at "go"
          refine rd_mulS (by omega) (by omega) (by rw [List.length_take]; omega) ?_
          walk_at "go"
          rw [Int.toNat_natCast]
          exact q1 _ (Same.refl _)
        · walk_at "go"
          exact q1 _ (Same.refl _)
        have HA17 := HandAt.keep HA16 s17
        walk_at "go"
        refine rd_max (ns := (((List.range l.length).map fun i => 1 + i).filter fun m => decide (repL (l.take (l.length / m)) m = l)).map fun p : Nat => (p : Int)) (m := ((l.length / rootN l : Nat) : Int)) (SqL.of (by rw [hD4, List.map_map]; rfl)) ?_ ?_ ?_
        · refine List.mem_map.mpr ⟨_, List.mem_filter.mpr ⟨List.mem_map.mpr ⟨l.length / rootN l - 1, List.mem_range.mpr (by omega), by omega⟩, decide_eq_true m1⟩, rfl⟩
        · intro y hy
          obtain ⟨y1, hy1, rfl⟩ := List.mem_map.mp hy
          rw [List.mem_filter] at hy1
          obtain ⟨z, hz, hz2⟩ := List.mem_map.mp hy1.1
          have hz3 := List.mem_range.mp hz
          have := m5 y1 (by omega) (by omega) (of_decide_eq_true hy1.2)
          omega
        walk_at "go"
        refine ⟨l, rfl, hw4, by omega, el, fun p7 H18 np7 s18 h18 => ?_⟩
        have HA18 := HandAt.keep HA17 s18
        have ed : ((l.length : Int) / ((l.length / rootN l : Nat) : Int)) = ((rootN l : Nat) : Int) := by rw [← Int.natCast_ediv, m4]
        walk_at "go"
        intro p8 np8
        rw [ed, Int.toNat_natCast]
        have h18b := ne_of_none h18 np8
        walk_at "go"
        refine ⟨_, _, rfl, .inr ⟨p7, p8, [.str (S (l.take (rootN l))), .int ((l.length / rootN l : Nat) : Int)], rfl, rfl, fun z hz => ?_, by simp, .inr ⟨by rw [upd_ne h18b]; exact h18, upd_same⟩⟩, fun H19 s19 => ?_⟩
        · rcases List.mem_cons.mp hz with e | hz
          · exact .inr (.inr (.inl ⟨_, e⟩))
          · exact .inl ⟨_, List.mem_singleton.mp hz⟩
        walk_at "go"
        exact ⟨_, _, _, _, _, _, _, _, _, _, _, _, _, _, _, _, _, rfl, HandAt.keep (HA18.new np8) s19⟩
      · walk_at "go"
        exact ⟨_, _, _, _, _, _, _, _, _, _, _, _, _, _, _, _, _, rfl, HA16⟩
    · rintro σ2 H17 ⟨v2, v3, v4, v5, v6, v7, v8, v9, v10, v11, v12, v13, v14, v15, v16, v17, v18, rfl, HA17⟩
      walk_at "go"
      refine lcR_inv (fun D i acc H' => HandAt H' hd c ∧ ∃ ns : List Nat, acc = ns.map (fun p : Nat => V.int (p : Int)) ∧ ∀ x ∈ ns, 1 ≤ x ∧ x ≤ 14) (by decide) (fun _ => rfl) (fun D nD => ⟨HA17.new nD, [], rfl, fun _ h => by cases h⟩) ?_ ?_
      · rintro D i acc H18 Q1 hi nD hlen ⟨HA18, ns, rfl, hns⟩ hD q1
        have hDh : D ≠ hd := HandAt.ne HA17 nD
        have hDc : D ≠ c := HandAt.neC HA17 nD
        walk_at "go"
        refine ⟨hd, c, 14, rfl, HA18, by decide, by decide, fun d H19 d0 d14 HA19 e19 => ?_⟩
        walk_at "go"
        obtain ⟨d, rfl⟩ := Int.eq_ofNat_of_zero_le d0
        refine q1 _ _ (e19 _ _ hDh hD) ⟨HA19.upd hDh hDc, ns ++ [1 + d], ?_, fun x hx => ?_⟩
        · rw [List.map_append]
          show _ = _ ++ [V.int ((1 + d : Nat) : Int)]
          rw [Int.natCast_add]
          rfl
        · rcases List.mem_append.mp hx with h | h
          · exact hns x h
          · have := List.mem_singleton.mp h
            omega
      · rintro D acc H18 nD hlen ⟨HA18, ns, rfl, hns⟩ hD
        obtain ⟨n, p, q, rfl⟩ : ∃ n p q, ns = [n, p, q] := by
          have hl3 : ns.length = 3 := by rw [List.length_map] at hlen; exact hlen
          match ns, hl3 with
          | [n, p, q], _ => exact ⟨n, p, q, rfl⟩
        have hn := hns n List.mem_cons_self
        have hp := hns p (List.mem_cons_of_mem _ List.mem_cons_self)
        have hq := hns q (List.mem_cons_of_mem _ (List.mem_cons_of_mem _ List.mem_cons_self))
        refine rd_unl3 (SqL.of hD) ?_
        have ck := chk_ok hn hp hq
        walk_at "go"
        refine ⟨n, p, q, rfl, by omega, by omega, by omega, fun H19 s19 => ?_⟩
        walk_at "go"
        refine ⟨p, q, rfl, fun H20 s20 => ?_⟩
        have HA20 := HandAt.keep (HandAt.keep HA18 s19) s20
        walk_at "go"
        refine ⟨n, p, q, rfl, by omega, by omega, by omega, fun f1 H21 nf1 s21 ⟨ls, hls, hf1, _⟩ => ?_⟩
        have HA21 := HandAt.keep HA20 s21
        walk_at "go"
        have hll : (ls.map fun y => V.ref y.1).length = wpC n p q := by
          rw [ck.cnt, ← hls, List.length_map, List.length_map]
        rw [hll]
        refine ⟨_, _, rfl, .inl ⟨rfl, .inl ⟨_, rfl⟩⟩, fun H22 s22 => ?_⟩
        have HA22 := HandAt.keep HA21 s22
        walk_at "go"
        refine ⟨fun σ' H' => σ' = [some (.ref a), some (.ref hd), v2, v3, v4, some (.int (n : Int)), v6, v7, v8, some (.int (wpC n p q : Nat)), some (.int (p : Int)), some (.int (q : Int)), some (.int (Nat.gcd p q : Nat)), v13, v14, v15, v16, v17, v18] ∧ HandAt H' hd c, ?_, ?_⟩
        · walk_at "go"
          refine rd_dec (fun e1 => ?_) (fun e1 => ?_)
          · walk_at "go"
            refine rd_dec (fun e2 => ?_) (fun e2 => ?_)
            · walk_at "go"
              have := (ck.g (by omega) (by omega)).1
              refine rd_evF (by rw [this]; simp) ?_
              walk_at "go"
              exact ⟨rfl, HA22⟩
            · walk_at "go"
              exact ⟨rfl, HA22⟩
          · walk_at "go"
            exact ⟨rfl, HA22⟩
        · rintro σ3 H23 ⟨rfl, HA23⟩
          walk_at "go"
          refine ⟨hd, c, n, p, q, rfl, HA23, by omega, by omega, by omega, ck.ok, fun lb H24 hlb hwb hcl HA24 _ => ?_⟩
          walk_at "go"
          refine ⟨lb, rfl, wd_mono hwb (by decide), by omega, fun pf H25 npf s25 h25 => ?_⟩
          have HA25 := HandAt.keep HA24 s25
          have key : ∀ {r : Nat}, 1 ≤ r → r ≤ n → (∀ i, i + r < n → ∃ part ∈ clA n p q, i ∈ part ∧ i + r ∈ part) → ((r : Int)) ∈ perL lb := fun {r} r1 rn hr => by
            refine mem_per r1 (by omega) fun i hi => ?_
            obtain ⟨part, h1, h2, h3⟩ := hr i (by omega)
            exact hcl part h1 i h2 (i + r) h3 (by omega) (by omega)
          have hgp : 1 ≤ Nat.gcd p q := Nat.gcd_pos_of_pos_left _ (by omega)
          walk_at "go"
          refine ⟨fun σ' H' => σ' = [some (.ref a), some (.ref hd), v2, v3, v4, some (.int (n : Int)), v6, v7, v8, some (.int (wpC n p q : Nat)), some (.int (p : Int)), some (.int (q : Int)), some (.int (Nat.gcd p q : Nat)), some (.str (S lb)), some (.ref pf), v15, v16, v17, v18] ∧ H' = H25, ?_, ?_⟩
          · walk_at "go"
            refine rd_dec (fun e1 => ?_) (fun e1 => ?_)
            · walk_at "go"
              refine rd_ndecF (key hp.1 (by omega) ck.p1) ?_
              walk_at "go"
              refine rd_dec (fun e2 => ?_) (fun e2 => ?_)
              · walk_at "go"
                refine rd_ndecF (key hq.1 (by omega) ck.p2) ?_
                walk_at "go"
                exact ⟨rfl, rfl⟩
              · walk_at "go"
                exact ⟨rfl, rfl⟩
            · walk_at "go"
              refine rd_dec (fun e2 => ?_) (fun e2 => ?_)
              · walk_at "go"
                refine rd_ndecF (key hq.1 (by omega) ck.p2) ?_
                walk_at "go"
                exact ⟨rfl, rfl⟩
              · walk_at "go"
                exact ⟨rfl, rfl⟩
          · rintro σ4 H26 ⟨rfl, rfl⟩
            walk_at "go"
            refine rd_dec (fun e1 => ?_) (fun e1 => ?_)
            · walk_at "go"
              refine rd_dec (fun e2 => ?_) (fun e2 => ?_)
              · walk_at "go"
                refine rd_ndecF (key hgp (by omega) (ck.g (by omega) (by omega)).2) ?_
                walk_at "go"
                exact ⟨_, _, _, _, _, _, _, _, _, _, _, _, _, _, _, _, _, rfl, HA25⟩
              · walk_at "go"
                exact ⟨_, _, _, _, _, _, _, _, _, _, _, _, _, _, _, _, _, rfl, HA25⟩
            · walk_at "go"
              exact ⟨_, _, _, _, _, _, _, _, _, _, _, _, _, _, _, _, _, rfl, HA25⟩
  · rintro σ1 H6 ⟨v2, v3, v4, v5, v6, v7, v8, v9, v10, v11, v12, v13, v14, v15, v16, v17, v18, rfl, HA6⟩
    walk_at "go"
    exact k _
end
end My
namespace My
open PySem PySem.Spec L2 SX
open PyProof.Rows hiding St
theorem all_mk {l : PySem.W.OpenLaw} {w : World} {K : PySem.W.Frag} {h : Heap} {mg : Str → Option Value} {fa : Addr} (X : K.In h) (G : h.Ns mainGlobals mg) (hfa : mg "law" = some (.ref fa))
    {f0 : Addr} {od0 an0 : Option Addr} {sl0 : Array (Option Value)} {oc0 kV0 dc0 pm0 cd0 ct0 : Value}
    (a0 : PySem.W.nsIn K mainGlobals "is_number" = some (some (.ref f0))) (l0 : K.lookup f0 = some ⟨oc0, od0, .func (PySem.W.fnOf "is_number" "is_number" (defArgs s_is_number) (defBody s_is_number) (defScope s_is_number) .none kV0 dc0 pm0 an0 cd0 ct0), sl0⟩) (c0 : PySem.W.codeIn K cd0 "is_number" = true) (k0 : PySem.W.keepIn K (.ref f0) = true)
    {f1 : Addr} {od1 an1 : Option Addr} {sl1 : Array (Option Value)} {oc1 kV1 dc1 pm1 cd1 ct1 : Value}
    (a1 : PySem.W.nsIn K mainGlobals "check_word" = some (some (.ref f1))) (l1 : K.lookup f1 = some ⟨oc1, od1, .func (PySem.W.fnOf "check_word" "check_word" (defArgs s_check_word) (defBody s_check_word) (defScope s_check_word) .none kV1 dc1 pm1 an1 cd1 ct1), sl1⟩) (c1 : PySem.W.codeIn K cd1 "check_word" = true) (k1 : PySem.W.keepIn K (.ref f1) = true)
    {f2 : Addr} {od2 an2 : Option Addr} {sl2 : Array (Option Value)} {oc2 kV2 dc2 pm2 cd2 ct2 : Value}
    (a2 : PySem.W.nsIn K mainGlobals "border_lengths" = some (some (.ref f2))) (l2 : K.lookup f2 = some ⟨oc2, od2, .func (PySem.W.fnOf "border_lengths" "border_lengths" (defArgs s_border_lengths) (defBody s_border_lengths) (defScope s_border_lengths) .none kV2 dc2 pm2 an2 cd2 ct2), sl2⟩) (c2 : PySem.W.codeIn K cd2 "border_lengths" = true) (k2 : PySem.W.keepIn K (.ref f2) = true)
    {f3 : Addr} {od3 an3 : Option Addr} {sl3 : Array (Option Value)} {oc3 kV3 dc3 pm3 cd3 ct3 : Value}
    (a3 : PySem.W.nsIn K mainGlobals "_law_draw" = some (some (.ref f3))) (l3 : K.lookup f3 = some ⟨oc3, od3, .func (PySem.W.fnOf "_law_draw" "_law_draw" (defArgs s__law_draw) (defBody s__law_draw) (defScope s__law_draw) .none kV3 dc3 pm3 an3 cd3 ct3), sl3⟩) (c3 : PySem.W.codeIn K cd3 "_law_draw" = true) (k3 : PySem.W.keepIn K (.ref f3) = true)
    {f4 : Addr} {od4 an4 : Option Addr} {sl4 : Array (Option Value)} {oc4 kV4 dc4 pm4 cd4 ct4 : Value}
    (a4 : PySem.W.nsIn K mainGlobals "_law_hand" = some (some (.ref f4))) (l4 : K.lookup f4 = some ⟨oc4, od4, .func (PySem.W.fnOf "_law_hand" "_law_hand" (defArgs s__law_hand) (defBody s__law_hand) (defScope s__law_hand) .none kV4 dc4 pm4 an4 cd4 ct4), sl4⟩) (c4 : PySem.W.codeIn K cd4 "_law_hand" = true) (k4 : PySem.W.keepIn K (.ref f4) = true)
    {f5 : Addr} {od5 an5 : Option Addr} {sl5 : Array (Option Value)} {oc5 kV5 dc5 pm5 cd5 ct5 : Value}
    (a5 : PySem.W.nsIn K mainGlobals "_law_divisor" = some (some (.ref f5))) (l5 : K.lookup f5 = some ⟨oc5, od5, .func (PySem.W.fnOf "_law_divisor" "_law_divisor" (defArgs s__law_divisor) (defBody s__law_divisor) (defScope s__law_divisor) .none kV5 dc5 pm5 an5 cd5 ct5), sl5⟩) (c5 : PySem.W.codeIn K cd5 "_law_divisor" = true) (k5 : PySem.W.keepIn K (.ref f5) = true)
    {f6 : Addr} {od6 an6 : Option Addr} {sl6 : Array (Option Value)} {oc6 kV6 dc6 pm6 cd6 ct6 : Value}
    (a6 : PySem.W.nsIn K mainGlobals "_law_classes" = some (some (.ref f6))) (l6 : K.lookup f6 = some ⟨oc6, od6, .func (PySem.W.fnOf "_law_classes" "_law_classes" (defArgs s__law_classes) (defBody s__law_classes) (defScope s__law_classes) .none kV6 dc6 pm6 an6 cd6 ct6), sl6⟩) (c6 : PySem.W.codeIn K cd6 "_law_classes" = true) (k6 : PySem.W.keepIn K (.ref f6) = true)
    {f7 : Addr} {od7 an7 : Option Addr} {sl7 : Array (Option Value)} {oc7 kV7 dc7 pm7 cd7 ct7 : Value}
    (a7 : PySem.W.nsIn K mainGlobals "_law_is" = some (some (.ref f7))) (l7 : K.lookup f7 = some ⟨oc7, od7, .func (PySem.W.fnOf "_law_is" "_law_is" (defArgs s__law_is) (defBody s__law_is) (defScope s__law_is) .none kV7 dc7 pm7 an7 cd7 ct7), sl7⟩) (c7 : PySem.W.codeIn K cd7 "_law_is" = true) (k7 : PySem.W.keepIn K (.ref f7) = true)
    {f8 : Addr} {od8 an8 : Option Addr} {sl8 : Array (Option Value)} {oc8 kV8 dc8 pm8 cd8 ct8 : Value}
    (a8 : PySem.W.nsIn K mainGlobals "check_letters" = some (some (.ref f8))) (l8 : K.lookup f8 = some ⟨oc8, od8, .func (PySem.W.fnOf "check_letters" "check_letters" (defArgs s_check_letters) (defBody s_check_letters) (defScope s_check_letters) .none kV8 dc8 pm8 an8 cd8 ct8), sl8⟩) (c8 : PySem.W.codeIn K cd8 "check_letters" = true) (k8 : PySem.W.keepIn K (.ref f8) = true)
    {f9 : Addr} {od9 an9 : Option Addr} {sl9 : Array (Option Value)} {oc9 kV9 dc9 pm9 cd9 ct9 : Value}
    (a9 : PySem.W.nsIn K mainGlobals "with_periods" = some (some (.ref f9))) (l9 : K.lookup f9 = some ⟨oc9, od9, .func (PySem.W.fnOf "with_periods" "with_periods" (defArgs s_with_periods) (defBody s_with_periods) (defScope s_with_periods) .none kV9 dc9 pm9 an9 cd9 ct9), sl9⟩) (c9 : PySem.W.codeIn K cd9 "with_periods" = true) (k9 : PySem.W.keepIn K (.ref f9) = true)
    {f10 : Addr} {od10 an10 : Option Addr} {sl10 : Array (Option Value)} {oc10 kV10 dc10 pm10 cd10 ct10 : Value}
    (a10 : PySem.W.nsIn K mainGlobals "_law_some" = some (some (.ref f10))) (l10 : K.lookup f10 = some ⟨oc10, od10, .func (PySem.W.fnOf "_law_some" "_law_some" (defArgs s__law_some) (defBody s__law_some) (defScope s__law_some) .none kV10 dc10 pm10 an10 cd10 ct10), sl10⟩) (c10 : PySem.W.codeIn K cd10 "_law_some" = true) (k10 : PySem.W.keepIn K (.ref f10) = true)
    {f11 : Addr} {od11 an11 : Option Addr} {sl11 : Array (Option Value)} {oc11 kV11 dc11 pm11 cd11 ct11 : Value}
    (a11 : PySem.W.nsIn K mainGlobals "check_filled" = some (some (.ref f11))) (l11 : K.lookup f11 = some ⟨oc11, od11, .func (PySem.W.fnOf "check_filled" "check_filled" (defArgs s_check_filled) (defBody s_check_filled) (defScope s_check_filled) .none kV11 dc11 pm11 an11 cd11 ct11), sl11⟩) (c11 : PySem.W.codeIn K cd11 "check_filled" = true) (k11 : PySem.W.keepIn K (.ref f11) = true)
    {f12 : Addr} {od12 an12 : Option Addr} {sl12 : Array (Option Value)} {oc12 kV12 dc12 pm12 cd12 ct12 : Value}
    (a12 : PySem.W.nsIn K mainGlobals "borders" = some (some (.ref f12))) (l12 : K.lookup f12 = some ⟨oc12, od12, .func (PySem.W.fnOf "borders" "borders" (defArgs s_borders) (defBody s_borders) (defScope s_borders) .none kV12 dc12 pm12 an12 cd12 ct12), sl12⟩) (c12 : PySem.W.codeIn K cd12 "borders" = true) (k12 : PySem.W.keepIn K (.ref f12) = true)
    {f13 : Addr} {od13 an13 : Option Addr} {sl13 : Array (Option Value)} {oc13 kV13 dc13 pm13 cd13 ct13 : Value}
    (a13 : PySem.W.nsIn K mainGlobals "_law_word" = some (some (.ref f13))) (l13 : K.lookup f13 = some ⟨oc13, od13, .func (PySem.W.fnOf "_law_word" "_law_word" (defArgs s__law_word) (defBody s__law_word) (defScope s__law_word) .none kV13 dc13 pm13 an13 cd13 ct13), sl13⟩) (c13 : PySem.W.codeIn K cd13 "_law_word" = true) (k13 : PySem.W.keepIn K (.ref f13) = true)
    {f14 : Addr} {od14 an14 : Option Addr} {sl14 : Array (Option Value)} {oc14 kV14 dc14 pm14 cd14 ct14 : Value}
    (a14 : PySem.W.nsIn K mainGlobals "_law_two_periods" = some (some (.ref f14))) (l14 : K.lookup f14 = some ⟨oc14, od14, .func (PySem.W.fnOf "_law_two_periods" "_law_two_periods" (defArgs s__law_two_periods) (defBody s__law_two_periods) (defScope s__law_two_periods) .none kV14 dc14 pm14 an14 cd14 ct14), sl14⟩) (c14 : PySem.W.codeIn K cd14 "_law_two_periods" = true) (k14 : PySem.W.keepIn K (.ref f14) = true)
    {f15 : Addr} {od15 an15 : Option Addr} {sl15 : Array (Option Value)} {oc15 kV15 dc15 pm15 cd15 ct15 : Value}
    (a15 : PySem.W.nsIn K mainGlobals "periods" = some (some (.ref f15))) (l15 : K.lookup f15 = some ⟨oc15, od15, .func (PySem.W.fnOf "periods" "periods" (defArgs s_periods) (defBody s_periods) (defScope s_periods) .none kV15 dc15 pm15 an15 cd15 ct15), sl15⟩) (c15 : PySem.W.codeIn K cd15 "periods" = true) (k15 : PySem.W.keepIn K (.ref f15) = true)
    {f16 : Addr} {od16 an16 : Option Addr} {sl16 : Array (Option Value)} {oc16 kV16 dc16 pm16 cd16 ct16 : Value}
    (a16 : PySem.W.nsIn K mainGlobals "root_of" = some (some (.ref f16))) (l16 : K.lookup f16 = some ⟨oc16, od16, .func (PySem.W.fnOf "root_of" "root_of" (defArgs s_root_of) (defBody s_root_of) (defScope s_root_of) .none kV16 dc16 pm16 an16 cd16 ct16), sl16⟩) (c16 : PySem.W.codeIn K cd16 "root_of" = true) (k16 : PySem.W.keepIn K (.ref f16) = true)
    {f17 : Addr} {od17 an17 : Option Addr} {sl17 : Array (Option Value)} {oc17 kV17 dc17 pm17 cd17 ct17 : Value}
    (a17 : PySem.W.nsIn K mainGlobals "law" = some (some (.ref f17))) (l17 : K.lookup f17 = some ⟨oc17, od17, .func (PySem.W.fnOf "law" "law" (defArgs s_law) (defBody s_law) (defScope s_law) .none kV17 dc17 pm17 an17 cd17 ct17), sl17⟩) (c17 : PySem.W.codeIn K cd17 "law" = true) (k17 : PySem.W.keepIn K (.ref f17) = true)
    (z_int : PySem.W.nsIn K mainGlobals "int" = some none)
    (z_isinstance : PySem.W.nsIn K mainGlobals "isinstance" = some none)
    (z_bool : PySem.W.nsIn K mainGlobals "bool" = some none)
    (z_str : PySem.W.nsIn K mainGlobals "str" = some none)
    (z_len : PySem.W.nsIn K mainGlobals "len" = some none)
    (z_sorted : PySem.W.nsIn K mainGlobals "sorted" = some none)
    (z_list : PySem.W.nsIn K mainGlobals "list" = some none)
    (z_range : PySem.W.nsIn K mainGlobals "range" = some none)
    (z_set : PySem.W.nsIn K mainGlobals "set" = some none)
    (z_abs : PySem.W.nsIn K mainGlobals "abs" = some none)
    (z_tuple : PySem.W.nsIn K mainGlobals "tuple" = some none)
    (z_zip : PySem.W.nsIn K mainGlobals "zip" = some none)
    (z_all : PySem.W.nsIn K mainGlobals "all" = some none)
    (z_max : PySem.W.nsIn K mainGlobals "max" = some none)
    {u_SIGNS : Value} (q_SIGNS : PySem.W.nsIn K mainGlobals "SIGNS" = some (some u_SIGNS)) (r_SIGNS : RelV (.str (S [97, 98, 99, 100])) u_SIGNS)
    {u_MOST_SIGNS : Value} (q_MOST_SIGNS : PySem.W.nsIn K mainGlobals "MOST_SIGNS" = some (some u_MOST_SIGNS)) (r_MOST_SIGNS : RelV (.int 300) u_MOST_SIGNS)
    : ∃ fd : FuncData, (∀ (s : Shared) (v : Value), BindsTo s fd ⟨[v], []⟩ [("script", v)]) ∧ ∀ base : Heap, K.In base → base.Ns mainGlobals mg → FnOk l.prog w K mg base CX0 6 fa fd ["script"] (sp_law K) := by
  have e := hfa.symm.trans (PySem.W.mg_of X G a17)
  cases e
  have T : Txt K mg := ⟨PySem.W.mg_none_of X G z_int, PySem.W.mg_none_of X G z_isinstance, PySem.W.mg_none_of X G z_bool, PySem.W.mg_none_of X G z_str, PySem.W.mg_none_of X G z_len, PySem.W.mg_none_of X G z_sorted, PySem.W.mg_none_of X G z_list, PySem.W.mg_none_of X G z_range, PySem.W.mg_none_of X G z_set, PySem.W.mg_none_of X G z_abs, PySem.W.mg_none_of X G z_tuple, PySem.W.mg_none_of X G z_zip, PySem.W.mg_none_of X G z_all, PySem.W.mg_none_of X G z_max, ⟨u_SIGNS, PySem.W.mg_of X G q_SIGNS, r_SIGNS⟩, ⟨u_MOST_SIGNS, PySem.W.mg_of X G q_MOST_SIGNS, r_MOST_SIGNS⟩⟩
  have F0 := fun_mk (st := s_is_number) l0 c0 k0
  have b0 := F0.binds (ps := ["thing"]) fun _ _ _ _ _ _ us hl => match us, hl with | [_], _ => rfl
  have F1 := fun_mk (st := s_check_word) l1 c1 k1
  have b1 := F1.binds (ps := ["word", "letters", "most"]) fun _ _ _ _ _ _ us hl => match us, hl with | [_, _, _], _ => rfl
  have F2 := fun_mk (st := s_border_lengths) l2 c2 k2
  have b2 := F2.binds (ps := ["word"]) fun _ _ _ _ _ _ us hl => match us, hl with | [_], _ => rfl
  have F3 := fun_mk (st := s__law_draw) l3 c3 k3
  have b3 := F3.binds (ps := ["hand", "limit"]) fun _ _ _ _ _ _ us hl => match us, hl with | [_, _], _ => rfl
  have F4 := fun_mk (st := s__law_hand) l4 c4 k4
  have b4 := F4.binds (ps := ["script"]) fun _ _ _ _ _ _ us hl => match us, hl with | [_], _ => rfl
  have F5 := fun_mk (st := s__law_divisor) l5 c5 k5
  have b5 := F5.binds (ps := ["one", "other"]) fun _ _ _ _ _ _ us hl => match us, hl with | [_, _], _ => rfl
  have F6 := fun_mk (st := s__law_classes) l6 c6 k6
  have b6 := F6.binds (ps := ["length", "first", "second"]) fun _ _ _ _ _ _ us hl => match us, hl with | [_, _, _], _ => rfl
  have F7 := fun_mk (st := s__law_is) l7 c7 k7
  have b7 := F7.binds (ps := ["shown", "due"]) fun _ _ _ _ _ _ us hl => match us, hl with | [_, _], _ => rfl
  have F8 := fun_mk (st := s_check_letters) l8 c8 k8
  have b8 := F8.binds (ps := ["word"]) fun _ _ _ _ _ _ us hl => match us, hl with | [_], _ => rfl
  have F9 := fun_mk (st := s_with_periods) l9 c9 k9
  have b9 := F9.binds (ps := ["length", "first", "second"]) fun _ _ _ _ _ _ us hl => match us, hl with | [_, _, _], _ => rfl
  have F10 := fun_mk (st := s__law_some) l10 c10 k10
  have b10 := F10.binds (ps := ["hand", "things"]) fun _ _ _ _ _ _ us hl => match us, hl with | [_, _], _ => rfl
  have F11 := fun_mk (st := s_check_filled) l11 c11 k11
  have b11 := F11.binds (ps := ["word"]) fun _ _ _ _ _ _ us hl => match us, hl with | [_], _ => rfl
  have F12 := fun_mk (st := s_borders) l12 c12 k12
  have b12 := F12.binds (ps := ["word"]) fun _ _ _ _ _ _ us hl => match us, hl with | [_], _ => rfl
  have F13 := fun_mk (st := s__law_word) l13 c13 k13
  have b13 := F13.binds (ps := ["hand", "letters", "most"]) fun _ _ _ _ _ _ us hl => match us, hl with | [_, _, _], _ => rfl
  have F14 := fun_mk (st := s__law_two_periods) l14 c14 k14
  have b14 := F14.binds (ps := ["hand", "length", "first", "second"]) fun _ _ _ _ _ _ us hl => match us, hl with | [_, _, _, _], _ => rfl
  have F15 := fun_mk (st := s_periods) l15 c15 k15
  have b15 := F15.binds (ps := ["word"]) fun _ _ _ _ _ _ us hl => match us, hl with | [_], _ => rfl
  have F16 := fun_mk (st := s_root_of) l16 c16 k16
  have b16 := F16.binds (ps := ["word"]) fun _ _ _ _ _ _ us hl => match us, hl with | [_], _ => rfl
  have F17 := fun_mk (st := s_law) l17 c17 k17
  have b17 := F17.binds (ps := ["script"]) fun _ _ _ _ _ _ us hl => match us, hl with | [_], _ => rfl
  refine ⟨PySem.W.fnOf "law" "law" (defArgs s_law) (defBody s_law) (defScope s_law) .none kV17 dc17 pm17 an17 cd17 ct17, fun s v => .of_eq rfl, fun base _ _ => ?_⟩
  have C_is_number : Cal l.prog w K mg base 1 "is_number" (sp_is_number K) := ⟨_, _, _, ok_is_number F0 T, PySem.W.mg_of X G a0, k0, b0⟩
  have C_check_word : Cal l.prog w K mg base 1 "check_word" (sp_check_word K) := ⟨_, _, _, ok_check_word F1 T, PySem.W.mg_of X G a1, k1, b1⟩
  have C_border_lengths : Cal l.prog w K mg base 1 "border_lengths" (sp_border_lengths K) := ⟨_, _, _, ok_border_lengths F2 T, PySem.W.mg_of X G a2, k2, b2⟩
  have C__law_draw : Cal l.prog w K mg base 1 "_law_draw" (sp__law_draw K) := ⟨_, _, _, ok__law_draw F3 T, PySem.W.mg_of X G a3, k3, b3⟩
  have C__law_hand : Cal l.prog w K mg base 1 "_law_hand" (sp__law_hand K) := ⟨_, _, _, ok__law_hand F4 T, PySem.W.mg_of X G a4, k4, b4⟩
  have C__law_divisor : Cal l.prog w K mg base 1 "_law_divisor" (sp__law_divisor K) := ⟨_, _, _, ok__law_divisor F5 T, PySem.W.mg_of X G a5, k5, b5⟩
  have C__law_classes : Cal l.prog w K mg base 1 "_law_classes" (sp__law_classes K) := ⟨_, _, _, ok__law_classes F6 T, PySem.W.mg_of X G a6, k6, b6⟩
  have C__law_is_leaf : Cal l.prog w K mg base 1 "_law_is" (sp__law_is_leaf K) := ⟨_, _, _, ok__law_is_leaf F7 T, PySem.W.mg_of X G a7, k7, b7⟩
  have C_check_letters : Cal l.prog w K mg base 2 "check_letters" (sp_check_letters K) := ⟨_, _, _, ok_check_letters F8 T C_check_word, PySem.W.mg_of X G a8, k8, b8⟩
  have C_with_periods : Cal l.prog w K mg base 2 "with_periods" (sp_with_periods K) := ⟨_, _, _, ok_with_periods F9 T C_is_number, PySem.W.mg_of X G a9, k9, b9⟩
  have C__law_some : Cal l.prog w K mg base 2 "_law_some" (sp__law_some K) := ⟨_, _, _, ok__law_some F10 T C__law_draw, PySem.W.mg_of X G a10, k10, b10⟩
  have C__law_is : Cal l.prog w K mg base 2 "_law_is" (sp__law_is K) := ⟨_, _, _, ok__law_is F7 T C__law_is_leaf, PySem.W.mg_of X G a7, k7, b7⟩
  have C_check_filled : Cal l.prog w K mg base 3 "check_filled" (sp_check_filled K) := ⟨_, _, _, ok_check_filled F11 T C_check_letters, PySem.W.mg_of X G a11, k11, b11⟩
  have C_borders : Cal l.prog w K mg base 3 "borders" (sp_borders K) := ⟨_, _, _, ok_borders F12 T C_check_letters C_border_lengths, PySem.W.mg_of X G a12, k12, b12⟩
  have C__law_word : Cal l.prog w K mg base 3 "_law_word" (sp__law_word K) := ⟨_, _, _, ok__law_word F13 T C__law_draw C__law_some, PySem.W.mg_of X G a13, k13, b13⟩
  have C__law_two_periods : Cal l.prog w K mg base 3 "_law_two_periods" (sp__law_two_periods K) := ⟨_, _, _, ok__law_two_periods F14 T C__law_classes C__law_some, PySem.W.mg_of X G a14, k14, b14⟩
  have C_periods : Cal l.prog w K mg base 4 "periods" (sp_periods K) := ⟨_, _, _, ok_periods F15 T C_borders, PySem.W.mg_of X G a15, k15, b15⟩
  have C_root_of : Cal l.prog w K mg base 5 "root_of" (sp_root_of K) := ⟨_, _, _, ok_root_of F16 T C_check_filled C_periods, PySem.W.mg_of X G a16, k16, b16⟩
  exact ok_law F17 T C__law_hand C_borders C_periods C_root_of C__law_draw C__law_word C__law_is C_with_periods C__law_divisor C__law_classes C__law_two_periods
theorem walk {l : PySem.W.OpenLaw} {q : Program} {loose : List Str} {XP : (Str → Option Value) → Heap → Prop} {YP : World → Heap → Prop} {d : DefRec} {K : Params → PySem.W.Frag} (hn : l.most = some 63) (hdf : d.params.defaults = [])
    (hY : ∀ (w : World) (h : Heap), YP w h → (K w.params).In h)
    (F : ∀ (w : World) (mg : Str → Option Value) (fa : Addr) (h : Heap), (K w.params).In h → h.Ns mainGlobals mg → mg d.name = some (.ref fa) →
      ∃ fd : FuncData, (∀ (s : Shared) (u : Value), BindsTo s fd ⟨[u], []⟩ [("script", u)]) ∧ ∀ base : Heap, (K w.params).In base → base.Ns mainGlobals mg → FnOk l.prog w (K w.params) mg base CX0 6 fa fd ["script"] (sp_law (K w.params))) :
    PySem.W.WalkO q loose XP YP l.row.toRowW d [] (fun f vs => PySem.call f vs) :=
  L2.walk_of (n := 63) (k := 6) (x := "script") (CX := fun _ => CX0) (sp := fun w => sp_law (K w.params)) hn (by decide) hdf ⟨rfl, by decide, by decide⟩ hY F (fun _ _ a ns hl _ hS => ⟨a, ns, rfl, hS, fun _ => rfl⟩) fun _ _ _ _ _ z => z
end My
open PySem PySem.W PyProof.Rows
set_option maxRecDepth 100000 in
set_option maxHeartbeats 0 in
theorem PySem.Challenge.cw_wordfolds_k45_whole_periods_and_borders_holds : PySem.Challenge.rw_wordfolds_k45_whole_periods_and_borders.Holds := by
  w_on; o_law; k_head; (case hw => w_witness2)
  k_fill
  refine My.walk (l := PySem.Challenge.rw_wordfolds_k45_whole_periods_and_borders) rfl rfl (fun w h Y => PySem.W.kIn_of Y) ?F
  case F =>
    intro w mg fa h KX G hmg
    refine' My.all_mk KX G hmg ?a0 ?l0 ?c0 ?k0 ?a1 ?l1 ?c1 ?k1 ?a2 ?l2 ?c2 ?k2 ?a3 ?l3 ?c3 ?k3 ?a4 ?l4 ?c4 ?k4 ?a5 ?l5 ?c5 ?k5 ?a6 ?l6 ?c6 ?k6 ?a7 ?l7 ?c7 ?k7 ?a8 ?l8 ?c8 ?k8 ?a9 ?l9 ?c9 ?k9 ?a10 ?l10 ?c10 ?k10 ?a11 ?l11 ?c11 ?k11 ?a12 ?l12 ?c12 ?k12 ?a13 ?l13 ?c13 ?k13 ?a14 ?l14 ?c14 ?k14 ?a15 ?l15 ?c15 ?k15 ?a16 ?l16 ?c16 ?k16 ?a17 ?l17 ?c17 ?k17 ?z_int ?z_isinstance ?z_bool ?z_str ?z_len ?z_sorted ?z_list ?z_range ?z_set ?z_abs ?z_tuple ?z_zip ?z_all ?z_max ?q_SIGNS ?r_SIGNS ?q_MOST_SIGNS ?r_MOST_SIGNS
    (case a0 => k_is)
    (case l0 => k_is)
    (case c0 => k_is)
    (case k0 => k_is)
    (case a1 => k_is)
    (case l1 => k_is)
    (case c1 => k_is)
    (case k1 => k_is)
    (case a2 => k_is)
    (case l2 => k_is)
    (case c2 => k_is)
    (case k2 => k_is)
    (case a3 => k_is)
    (case l3 => k_is)
    (case c3 => k_is)
    (case k3 => k_is)
    (case a4 => k_is)
    (case l4 => k_is)
    (case c4 => k_is)
    (case k4 => k_is)
    (case a5 => k_is)
    (case l5 => k_is)
    (case c5 => k_is)
    (case k5 => k_is)
    (case a6 => k_is)
    (case l6 => k_is)
    (case c6 => k_is)
    (case k6 => k_is)
    (case a7 => k_is)
    (case l7 => k_is)
    (case c7 => k_is)
    (case k7 => k_is)
    (case a8 => k_is)
    (case l8 => k_is)
    (case c8 => k_is)
    (case k8 => k_is)
    (case a9 => k_is)
    (case l9 => k_is)
    (case c9 => k_is)
    (case k9 => k_is)
    (case a10 => k_is)
    (case l10 => k_is)
    (case c10 => k_is)
    (case k10 => k_is)
    (case a11 => k_is)
    (case l11 => k_is)
    (case c11 => k_is)
    (case k11 => k_is)
    (case a12 => k_is)
    (case l12 => k_is)
    (case c12 => k_is)
    (case k12 => k_is)
    (case a13 => k_is)
    (case l13 => k_is)
    (case c13 => k_is)
    (case k13 => k_is)
    (case a14 => k_is)
    (case l14 => k_is)
    (case c14 => k_is)
    (case k14 => k_is)
    (case a15 => k_is)
    (case l15 => k_is)
    (case c15 => k_is)
    (case k15 => k_is)
    (case a16 => k_is)
    (case l16 => k_is)
    (case c16 => k_is)
    (case k16 => k_is)
    (case a17 => k_is)
    (case l17 => k_is)
    (case c17 => k_is)
    (case k17 => k_is)
    (case z_int => k_is)
    (case z_isinstance => k_is)
    (case z_bool => k_is)
    (case z_str => k_is)
    (case z_len => k_is)
    (case z_sorted => k_is)
    (case z_list => k_is)
    (case z_range => k_is)
    (case z_set => k_is)
    (case z_abs => k_is)
    (case z_tuple => k_is)
    (case z_zip => k_is)
    (case z_all => k_is)
    (case z_max => k_is)
    (case q_SIGNS => k_is)
    (case r_SIGNS => exact ⟨_, rfl⟩)
    (case q_MOST_SIGNS => k_is)
    (case r_MOST_SIGNS => exact ⟨_, rfl⟩)
#print axioms PySem.Challenge.cw_wordfolds_k45_whole_periods_and_borders_holds
