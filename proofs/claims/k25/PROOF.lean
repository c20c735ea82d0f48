import PyProof.Rows.All
import Wide.All
import OpenK.AllK
import Wide.FinOn
import HandS.ForMost
import HandS.Codes
import HandS.IsInst
import HandS.SortInts
import HandS.Zip
import HandS.NoneIn
import HandS.Wide
import HandS.Walk
import HandS.Style
import KE.DataMinMax
import KE.SortData
import HandS.ReplaceLit
import HandS.Deep
import KE.GoesMore
import KE.GoesZip
import HandS.Conv
import HandS.Set
import HandS.SetFor
import HandS.Strs
import PySem.Challenge.RW_wordfolds_k25_whole_roots_and_turns_coun
set_option Elab.async false
set_option linter.all false
set_option maxRecDepth 100000
set_option maxHeartbeats 4000000
/-! My rules beside the layer's: list(text), text * int, set(list of ints), len(set). -/
namespace My
open PySem PySem.Spec PyProof.Rows L2 SX

theorem sz {n : Nat} (h : n ≤ 100000) : n ≤ sizeLine := Nat.le_trans h (by decide)
theorem szlt {n : Nat} (h : n < 100000) : n < sizeLine := Nat.lt_of_lt_of_le h (by decide)

/-- the one-sign texts of a word -/
def signs (l : List Nat) : List V := l.map fun c => V.str (S [c])

section
variable {X : Cx}
/-- list(text) -/
def rListS : List V → Hp → VK → Prop := fun xs H Q => ∃ l : List Nat, xs = [.str (S l)] ∧ l.length ≤ 100000 ∧ ∀ p, H p = none → Q (.ref p) (upd H p (.lst (signs l)))
theorem vals_items {l : List Nat} : ∀ {acc : Array Value}, ItemsOf (SignAt (S l)) acc l.length → Vals (signs l) acc.toList := by
  intro acc h
  obtain ⟨h1, h2⟩ := h
  have go : ∀ (m : List Nat) (us : List Value), us.length = m.length → (∀ (j : Nat) (v : Value), us[j]? = some v → ∃ (c : Nat) (u : Tok), m[j]? = some c ∧ v = Value.str ⟨#[c]⟩ u) → Vals (signs m) us := by
    intro m
    induction m with
    | nil =>
      intro us hl _
      cases us with
      | nil => exact .nil
      | cons a r => simp at hl
    | cons c m ih =>
      intro us hl hv
      cases us with
      | nil => simp at hl
      | cons a r =>
        obtain ⟨c', u, e1, e2⟩ := hv 0 a rfl
        have e3 : c = c' := Option.some.inj e1
        subst e3
        refine .cons ⟨u, e2⟩ (ih r (by simpa using hl) fun j v e => ?_)
        obtain ⟨c2, u2, e4, e5⟩ := hv (j + 1) v (by simpa using e)
        exact ⟨c2, u2, by simpa using e4, e5⟩
  refine go l acc.toList (by simpa using h1) fun j v e => ?_
  obtain ⟨c, u, e1, e2⟩ := h2 j v (by simpa using e)
  exact ⟨c, u, by simpa using e1, e2⟩
theorem call_listS (hc : X.calm = true) : CallR X (.type "list") rListS := by
  intro pins s σ H xs us Q I r h
  obtain ⟨l, rfl, hl, q⟩ := h
  obtain ⟨u, rfl, rx⟩ := vals1 r
  obtain ⟨t, rfl⟩ := rx
  have hsz : (S l).cps.size = l.length := by simp
  refine call_list_str (I.ok.hd hc) (S l) t (fun h' tk acc c kp e hi => ?_) (by rw [hsz]; exact sz hl)
  rw [hsz] at hi
  have hv := vals_items hi
  refine ⟨.ref s.heap.objs.size, _, I.laid (t' := tk) kp (Nat.le_refl _) (show ObjOk X.prog X.w _ h' _ (.lst (signs l)) from ⟨?_, acc.toList, c, hv, by simpa using e⟩), rfl, q _ (I.hok.fresh (Nat.le_refl _))⟩
  show (l.map _).length ≤ sizeLine
  rw [List.length_map]
  exact sz hl

/-- text * int -/
def repL (l : List Nat) : Nat → List Nat
  | 0 => []
  | n + 1 => l ++ repL l n
theorem repL_len (l : List Nat) : ∀ n, (repL l n).length = n * l.length
  | 0 => by simp [repL]
  | n + 1 => by simp [repL, repL_len l n, Nat.succ_mul, Nat.add_comm]
theorem fold_rep (l : List Nat) : ∀ (n : Nat) (acc : Array Nat), ((List.replicate n l.toArray).foldl (· ++ ·) acc).toList = acc.toList ++ repL l n
  | 0, acc => by simp [repL]
  | n + 1, acc => by
    rw [List.replicate_succ, List.foldl_cons, fold_rep l n]
    simp [repL]
theorem repL_one (l : List Nat) : repL l 1 = l := by simp [repL]
theorem repL_nil : ∀ n, repL [] n = []
  | 0 => rfl
  | n + 1 => by simp [repL, repL_nil n]
theorem mul_S (l : List Nat) (k : Int) : Txt.mul (S l) k = S (repL l k.toNat) := by
  unfold Txt.mul
  by_cases h1 : k < 1
  · rw [if_pos h1]
    have e : k.toNat = 0 := by omega
    rw [e]
    rfl
  · rw [if_neg h1]
    by_cases h2 : (k == 1 || (S l).length == 0) = true
    · rw [if_pos h2]
      rcases (Bool.or_eq_true _ _).mp h2 with h | h
      · have e : k = 1 := by simpa using h
        subst e
        show S l = S (repL l 1)
        rw [repL_one]
      · have e : l = [] := by
          have := S_len l
          simp at h
          rw [this] at h
          exact List.length_eq_zero_iff.mp h
        subst e
        rw [repL_nil]
    · rw [if_neg h2]
      have e := fold_rep l k.toNat #[]
      have e2 : (List.replicate k.toNat l.toArray).foldl (· ++ ·) #[] = (repL l k.toNat).toArray := by
        have e3 := congrArg List.toArray e
        simpa using e3
      exact congrArg (fun z => (⟨z⟩ : Str)) e2
def rMulS : R2 := fun x y H Q => ∃ (l : List Nat) (k : Int), x = .str (S l) ∧ y = .int k ∧ k ≤ 1000 ∧ -1000 ≤ k ∧ l.length ≤ 1000 ∧ Q (.str (S (repL l k.toNat))) H
theorem op_mulS : OpR X (binaryOp .Mult) rMulS := by
  intro pins s σ H x y v u Q I rx ry h
  obtain ⟨l, k, rfl, rfl, hk, hk2, hl, q⟩ := h
  obtain ⟨t, rfl⟩ := rx
  obtain ⟨t', rfl⟩ := ry
  refine SB.mul ⟨?_, fun h1 h2 => ?_, fun h1 h2 => ?_⟩ fun tt kk => ?_
  · have a : ¬ k < -(2 ^ 63 : Int) := by omega
    have b : ¬ k ≥ 2 ^ 63 := by omega
    simp [a, b]
    omega
  · rw [S_len]
    have h3 : (1000 : Int) ≤ (2 ^ 63 - 1) / k := by
      refine (Int.le_ediv_iff_mul_le (by omega)).mpr ?_
      omega
    omega
  · rw [S_len]
    unfold Builtin.Str.tooLong
    have e : l.length * k.toNat ≤ 1000 * 1000 := Nat.mul_le_mul hl (by omega)
    have e2 : (1000 * 1000 : Nat) ≤ sizeLine := by decide
    simp
    omega
  · rw [mul_S]
    exact ⟨.str _, H, I.tok _, ⟨_, rfl⟩, q⟩

/-- set(xs), xs a list of ints -/
def rSetL (K : PySem.W.Frag) : List V → Hp → VK → Prop := fun xs H Q => ∃ (l : Addr) (ns : List Int), xs = [.ref l] ∧ SqL K H l (ns.map V.int) ∧ ns.length ≤ 4000 ∧
  ∀ p, H p = none → Q (.ref p) (upd H p (.set (fun k => (firstMet (fun i => ns.getD i 0) ns.length).any (· == k)) (firstMet (fun i => ns.getD i 0) ns.length).length))
theorem call_setL (hc : X.calm = true) : CallR X (.type "set") (rSetL X.K) := by
  intro pins s σ H xs us Q I r h
  obtain ⟨l, ns, rfl, hq, hl, q⟩ := h
  obtain ⟨u, rfl, rx⟩ := vals1 r
  cases rx
  obtain ⟨its, r, pl, hz⟩ := I.list hq
  have hlen : its.toArray.size = ns.length := by rw [List.size_toArray, ← r.length, List.length_map]
  refine call_set_list (I.ok.hd hc) pl.isList (by simpa using RZ.intsAre_vals r) (by rw [hlen]; unfold scanBound; omega) fun h' tk hS hk => ?_
  rw [hlen] at hS
  exact ⟨.ref s.heap.objs.size, _, I.laid (t' := tk) (fun b o e => hk b o (Heap.lt_size e) e) (Nat.le_refl _) (show ObjOk X.prog X.w _ h' _ (.set _ _) from hS), rfl, q _ (I.hok.fresh (Nat.le_refl _))⟩
def rLenSet : List V → Hp → VK → Prop := fun xs H Q => ∃ (a : Addr) (T : Int → Bool) (n : Nat), xs = [.ref a] ∧ H a = some (.set T n) ∧ n ≤ 100000 ∧ Q (.int n) H
theorem call_lenSet : CallR X (.builtin "len") rLenSet := by
  intro pins s σ H xs us Q I r h
  obtain ⟨a, T, n, rfl, ha, hn, q⟩ := h
  obtain ⟨u, rfl, rx⟩ := vals1 r
  cases rx
  obtain ⟨o, es, ep, t, ho, hex, hd, _, _, _, hf, hn'⟩ := show s.heap.SetOf (intKind X.prog X.w) a T n from I.hok a _ ha
  exact call_len_set ho hex hd hf (by omega) ⟨.int n, H, I.tok _, ⟨_, by rw [hn']⟩, q⟩
end
end My
/-! How a reading is gone through, step by step: each row is one transformer of the layer. -/
namespace My
open PySem PySem.Spec L2 SX
open PyProof.Rows hiding St

/-! ### defs that may be called by name -/
structure Cal (P : Program) (w : World) (K : PySem.W.Frag) (mg : Str → Option Value) (base : Heap) (k : Nat) (x : Str) (sp : Sp) : Prop where
  ex : ∃ (f : Addr) (fd : FuncData) (ps : List Str), FnOk P w K mg base L2.CX0 k f fd ps sp ∧ mg x = some (.ref f) ∧ PySem.W.keepIn K (.ref f) = true ∧ Binds K fd ps []
theorem Cal.mono {P : Program} {w : World} {K : PySem.W.Frag} {mg : Str → Option Value} {base : Heap} {j k : Nat} {x : Str} {sp : Sp} (c : Cal P w K mg base j x sp) (h : j ≤ k) : Cal P w K mg base k x sp := by
  obtain ⟨f, fd, ps, F, a, b, d⟩ := c.ex
  exact ⟨f, fd, ps, F.mono h, a, b, d⟩
section
variable {X : Cx} {k j : Nat} {x : Str} {sp : Sp} {p pos : Pos} {e : Expr} {es : List Expr} {t : TA}
theorem pe_c (c : Cal X.prog X.w X.K X.mg X.base k x sp) (hr : Room j X.A) (hk : k ≤ j) (hg : Gl X x) (ha : PA X (e :: es) t)
    (hdb : (x == ("__debug__" : Str)) = false := by decide) (he : starEach (e :: es) X.env = (false, eval e X.env) :: starEach es X.env := by rfl) (hpl : (backTo pos (starEach es X.env)).any (·.1) = false := by rfl) :
    PE X (.Call (.Name x p) (e :: es) [] pos) (tCall sp [] L2.E0 t) := by
  obtain ⟨f, fd, ps, F, hm, kp, b⟩ := c.ex
  exact pe_call F (hr.mono hk) hg hm kp b .nil L2.pass0 ha hdb he hpl
theorem pe_c0 (c : Cal X.prog X.w X.K X.mg X.base k x sp) (hr : Room j X.A) (hk : k ≤ j) (hg : Gl X x) (hdb : (x == ("__debug__" : Str)) = false := by decide) :
    PE X (.Call (.Name x p) [] [] pos) (tCall sp [] L2.E0 tNil) := by
  obtain ⟨f, fd, ps, F, hm, kp, b⟩ := c.ex
  exact pe_call0 F (hr.mono hk) hg hm kp b .nil L2.pass0 hdb
theorem pe_strS {x : Str} {j} {pos : Pos} (l : List Nat) (h : x = S l) : PE X (.Constant (.str x) j pos) (tC (.str (S l))) := by
  subst h
  exact pe_str
end

/-! ### the layer's rules under names -/
section
variable {X : Cx}
def qLen (K : PySem.W.Frag) : List V → Hp → VK → Prop := fun xs H Q => ∃ p ys, xs = [.ref p] ∧ (SqL K H p ys ∨ SqT K H p ys) ∧ Q (.int (ys.length : Nat)) H
theorem cq_len : CallR X (.builtin "len") (qLen X.K) := call_len_seq
def qLenS : List V → Hp → VK → Prop := fun xs H Q => ∃ l : List Nat, xs = [.str (S l)] ∧ l.length ≤ 100000 ∧ Q (.int (l.length : Nat)) H
theorem cq_lenS : CallR X (.builtin "len") qLenS := fun pins s σ H xs us Q I r ⟨l, e, hl, q⟩ => call_len_str pins s σ H xs us Q I r ⟨S l, e, by rw [S_len]; exact sz hl, by rw [S_len]; exact q⟩
def qInt : List V → Hp → VK → Prop := fun xs H Q => (∃ i, xs = [.int i] ∧ Q (.int i) H) ∨ ∃ k, xs = [.bl k] ∧ Q (.int (if k then 1 else 0)) H
theorem cq_int : CallR X (.type "int") qInt := call_int1
def qAbs : List V → Hp → VK → Prop := fun xs H Q => ∃ i, xs = [.int i] ∧ Q (.int (if i < 0 then -i else i)) H
theorem cq_abs : CallR X (.builtin "abs") qAbs := call_abs
def qMax2 : List V → Hp → VK → Prop := fun xs H Q => ∃ i j, xs = [.int i, .int j] ∧ Q (.int (if j > i then j else i)) H
theorem cq_max2 (hc : X.calm = true) : CallR X (.builtin "max") qMax2 := call_max2 hc
def qMin2 : List V → Hp → VK → Prop := fun xs H Q => ∃ i j, xs = [.int i, .int j] ∧ Q (.int (if j < i then j else i)) H
theorem cq_min2 (hc : X.calm = true) : CallR X (.builtin "min") qMin2 := call_min2 hc
def qAddS : R2 := fun x y H Q => ∃ l m : List Nat, x = .str (S l) ∧ y = .str (S m) ∧ l.length + m.length ≤ 100000 ∧ Q (.str (S (l ++ m))) H
theorem oq_addS : OpR X (binaryOp .Add) qAddS := fun pins s σ H x y v u Q I rx ry ⟨l, m, e1, e2, hl, q⟩ => op_add_str pins s σ H x y v u Q I rx ry ⟨S l, S m, e1, e2, by rw [S_len, S_len]; exact sz hl, by rw [S_cat]; exact q⟩
def qLtS : R2 := fun x y H Q => ∃ l m : List Nat, x = .str (S l) ∧ y = .str (S m) ∧ Q (.bl (decide (l < m))) H
theorem oq_ltS : OpR X (compareOp .Lt) qLtS := fun pins s σ H x y v u Q I rx ry ⟨l, m, e1, e2, q⟩ => op_lt_str pins s σ H x y v u Q I rx ry ⟨S l, S m, e1, e2, q⟩
def qLeS : R2 := fun x y H Q => ∃ l m : List Nat, x = .str (S l) ∧ y = .str (S m) ∧ Q (.bl (!decide (m < l))) H
theorem oq_leS : OpR X (compareOp .LtE) qLeS := fun pins s σ H x y v u Q I rx ry ⟨l, m, e1, e2, q⟩ => op_le_str pins s σ H x y v u Q I rx ry ⟨S l, S m, e1, e2, q⟩
def qGtS : R2 := fun x y H Q => ∃ l m : List Nat, x = .str (S l) ∧ y = .str (S m) ∧ Q (.bl (decide (m < l))) H
theorem oq_gtS : OpR X (compareOp .Gt) qGtS := fun pins s σ H x y v u Q I rx ry ⟨l, m, e1, e2, q⟩ => op_gt_str pins s σ H x y v u Q I rx ry ⟨S l, S m, e1, e2, q⟩
def qGeS : R2 := fun x y H Q => ∃ l m : List Nat, x = .str (S l) ∧ y = .str (S m) ∧ Q (.bl (!decide (l < m))) H
theorem oq_geS : OpR X (compareOp .GtE) qGeS := fun pins s σ H x y v u Q I rx ry ⟨l, m, e1, e2, q⟩ => op_ge_str pins s σ H x y v u Q I rx ry ⟨S l, S m, e1, e2, q⟩
def qInC : R2 := fun x y H Q => ∃ (c : Nat) (l : List Nat), x = .str (S [c]) ∧ y = .str (S l) ∧ Q (.bl (decide (c ∈ l))) H
theorem oq_inC : OpR X (compareOp .In) qInC := fun pins s σ H x y v u Q I rx ry ⟨c, l, e1, e2, q⟩ => op_in_sign pins s σ H x y v u Q I rx ry ⟨c, S l, e1, e2, q⟩
def qNotInC : R2 := fun x y H Q => ∃ (c : Nat) (l : List Nat), x = .str (S [c]) ∧ y = .str (S l) ∧ Q (.bl (!decide (c ∈ l))) H
theorem oq_notInC : OpR X (compareOp .NotIn) qNotInC := fun pins s σ H x y v u Q I rx ry ⟨c, l, e1, e2, q⟩ => op_notIn_sign pins s σ H x y v u Q I rx ry ⟨c, S l, e1, e2, q⟩
def qListOf (K : PySem.W.Frag) : List V → Hp → VK → Prop := fun xs H Q => ∃ p ys, xs = [.ref p] ∧ (SqL K H p ys ∨ SqT K H p ys) ∧ ∀ l, H l = none → Q (.ref l) (upd H l (.lst ys))
theorem cq_listOf : CallR X (.type "list") (qListOf X.K) := call_list_of
/-- "".join(a list of texts) -/
def qJoin (K : PySem.W.Frag) : V → List V → Hp → VK → Prop := fun x xs H Q => ∃ (p : Addr) (ws : List (List Nat)), x = .str (S []) ∧ xs = [.ref p] ∧ SqL K H p (ws.map fun w => V.str (S w)) ∧ ws.flatten.length ≤ 100000 ∧ Q (.str (S ws.flatten)) H
theorem joinL_nil : ∀ ws : List (List Nat), TL.joinL [] ws = ws.flatten
  | [] => rfl
  | [w] => by simp [TL.joinL]
  | w :: v :: ws => by
    have ih := joinL_nil (v :: ws)
    simp only [TL.joinL, ih, List.flatten_cons, List.append_nil, List.nil_append]
theorem oq_join : MtR X "str.join" (qJoin X.K) := by
  intro pins s σ H x xs v us Q I rx rxs h
  obtain ⟨p, ws, rfl, rfl, hq, hl, q⟩ := h
  refine mt_join pins s σ H _ _ v us Q I rx rxs ⟨S [], p, ws.map S, rfl, rfl, .inl ?_, ?_, ?_⟩
  · rw [List.map_map]
    exact hq
  · rw [lens, S_len]
    have e : (ws.map (·.length)).sum = ws.flatten.length := by rw [List.length_flatten]
    have e2 : (ws.map fun x => x.length).sum = ws.flatten.length := e
    rw [e2]
    simp
    simp at hl
    omega
  · rw [join_S, joinL_nil]
    exact q
theorem pe_joinE {o e : Expr} {to te : TE} {apos pos : Pos} (ho : PE X o to) (he : PE X e te) (hs : starEach [e] X.env = [(false, eval e X.env)] := by rfl) (hbase : attributeBase o "join" X.env (eval o X.env) = eval o X.env := by rfl) (hline : (apos.endLine == pos.line) = true := by rfl) :
    PE X (.Call (.Attribute o "join" apos) [e] [] pos) (tM1 (qJoin X.K) to te) :=
  pe_m1 PySem.F.slot_str_join PySem.F.type_str_join oq_join ho he hs hbase hline
end

/-! ### heaps -/
/-- all but what stands at h is kept -/
def ExB (h : Addr) (H H' : Hp) : Prop := ∀ a o, a ≠ h → H a = some o → H' a = some o
theorem ExB.refl (h : Addr) (H : Hp) : ExB h H H := fun _ _ _ e => e
theorem ExB.trans {h : Addr} {H H1 H2 : Hp} (a : ExB h H H1) (b : ExB h H1 H2) : ExB h H H2 := fun c o n e => b c o n (a c o n e)
theorem ExB.of {h : Addr} {H H' : Hp} (e : Same H H') : ExB h H H' := fun a o _ q => e a o q
theorem ExB.upd {h : Addr} {H : Hp} {o : HO} : ExB h H (upd H h o) := fun a u n e => by rw [upd_ne n]; exact e
theorem ExB.new {h p : Addr} {H : Hp} {o : HO} (n : H p = none) : ExB h H (L2.upd H p o) := fun a u _ e => by rw [upd_ne (ne_of_none e n)]; exact e
theorem Same.new {p : Addr} {H : Hp} {o : HO} (n : H p = none) : Same H (L2.upd H p o) := fun a u e => by rw [upd_ne (ne_of_none e n)]; exact e
/-- an object that was not there may change -/
theorem Same.mut {p : Addr} {H H' : Hp} {o : HO} (e : Same H H') (n : H p = none) : Same H (L2.upd H' p o) := fun a u q => by rw [upd_ne (ne_of_none q n)]; exact e a u q
theorem ExB.mut {h p : Addr} {H H' : Hp} {o : HO} (e : ExB h H H') (n : H p = none) : ExB h H (L2.upd H' p o) := fun a u m q => by rw [upd_ne (ne_of_none q n)]; exact e a u m q
theorem Same.seqT {K : PySem.W.Frag} {H H' : Hp} {a : Addr} {xs : List V} (e : Same H H') (h : SqT K H a xs) : SqT K H' a xs := by
  rcases h with (h | ⟨o, h⟩) | h
  · exact .inl (.inl (e _ _ h))
  · exact .inl (.inr ⟨o, e _ _ h⟩)
  · exact .inr h
theorem ExB.seq {h : Addr} {K : PySem.W.Frag} {H H' : Hp} {a : Addr} {xs : List V} (e : ExB h H H') (n : a ≠ h) (q : SqL K H a xs) : SqL K H' a xs := by
  rcases q with (q | ⟨o, q⟩) | q
  · exact .inl (.inl (e _ _ n q))
  · exact .inl (.inr ⟨o, e _ _ n q⟩)
  · exact .inr q

/-! ### the steps -/
section
variable {σ : St} {H : Hp} {Q : VK} {D : Ends} {t u : TS} {te ta tb : TE} {g : TG} {v x y : V} {i j : Int} {K : PySem.W.Frag} {tt tu : TT}
theorem rd_seq (h : t ⟨u D, D.rt, D.bk, D.ct⟩ σ H) : tSeq t u D σ H := h
theorem rd_next {nx : St → Hp → Prop} {rt : VK} {bk ct : St → Hp → Prop} (h : nx σ H) : tNext ⟨nx, rt, bk, ct⟩ σ H := h
theorem rd_asg {nx : St → Hp → Prop} {rt : VK} {bk ct : St → Hp → Prop} (h : te σ H fun x H1 => g x σ H1 nx) : tAsg te g ⟨nx, rt, bk, ct⟩ σ H := h
theorem rd_par {i j : Nat} {ta : TA} {nx : St → Hp → Prop} {rt : VK} {bk ct : St → Hp → Prop} (h : ta σ H fun vs H1 => ∃ v w, vs = [v, w] ∧ nx ((σ.set i (some v)).set j (some w)) H1) : tPar i j ta ⟨nx, rt, bk, ct⟩ σ H := h
theorem rd_if (h : tt σ H fun b H1 => if b = true then t D σ H1 else u D σ H1) : tIfS tt t u D σ H := h
theorem rd_ret {nx : St → Hp → Prop} {rt : VK} {bk ct : St → Hp → Prop} (h : te σ H rt) : tRet te ⟨nx, rt, bk, ct⟩ σ H := h
theorem rd_retN {nx : St → Hp → Prop} {rt : VK} {bk ct : St → Hp → Prop} (h : rt .non H) : tRetN ⟨nx, rt, bk, ct⟩ σ H := h
theorem rd_drop {nx : St → Hp → Prop} {rt : VK} {bk ct : St → Hp → Prop} (h : te σ H fun _ H1 => nx σ H1) : tDrop te ⟨nx, rt, bk, ct⟩ σ H := h
theorem rd_name {i : Nat} {P : St → Hp → Prop} (h : P (σ.set i (some v)) H) : gName i v σ H P := h
theorem rd_sub {to ti : TE} {ts : TSet} {P : St → Hp → Prop} (h : to σ H fun o H1 => ti σ H1 fun i H2 => ts o i v H2 fun H3 => P σ H3) : gSub to ti ts v σ H P := h
theorem rd_var {n : Nat} (e : σ[n]? = some (some v)) (q : Q v H) : tVar n σ H Q := ⟨v, e, q⟩
theorem rd_c (q : Q v H) : tC v σ H Q := q
theorem rd_op {r : R2} (h : ta σ H fun x H1 => tb σ H1 fun y H2 => r x y H2 Q) : tOp r ta tb σ H Q := h
theorem rd_un {r : V → Hp → VK → Prop} (h : ta σ H fun x H1 => r x H1 Q) : tUn r ta σ H Q := h
theorem rd_I0 {g : Int → Int → V} (q : Q (g i j) H) : rI0 g (.int i) (.int j) H Q := ⟨i, j, rfl, rfl, q⟩
theorem rd_I {C : Int → Int → Prop} {g : Int → Int → V} (c : C i j) (q : Q (g i j) H) : rI C g (.int i) (.int j) H Q := ⟨i, j, rfl, rfl, c, q⟩
theorem rd_U {g : Int → V} (q : Q (g i) H) : rU g (.int i) H Q := ⟨i, rfl, q⟩
theorem rd_eq (s : scal x y = true) (q : Q (.bl (decide (x = y))) H) : rEq x y H Q := ⟨s, q⟩
theorem rd_ne (s : scal x y = true) (q : Q (.bl (!decide (x = y))) H) : rNe x y H Q := ⟨s, q⟩
theorem rd_eqI (q : Q (.bl (decide (i = j))) H) : rEq (.int i) (.int j) H Q := ⟨rfl, by
  have e : decide (V.int i = V.int j) = decide (i = j) := by
    by_cases h : i = j
    · subst h; simp
    · rw [decide_eq_false h, decide_eq_false fun z => h (V.int.inj z)]
  rw [e]; exact q⟩
theorem rd_neI (q : Q (.bl (!decide (i = j))) H) : rNe (.int i) (.int j) H Q := ⟨rfl, by
  have e : decide (V.int i = V.int j) = decide (i = j) := by
    by_cases h : i = j
    · subst h; simp
    · rw [decide_eq_false h, decide_eq_false fun z => h (V.int.inj z)]
  rw [e]; exact q⟩
theorem dec_S (a b : List Nat) : decide (V.str (S a) = V.str (S b)) = decide (a = b) := by
  by_cases h : a = b
  · subst h; simp
  · rw [decide_eq_false h, decide_eq_false fun z => h (S_inj (V.str.inj z))]
theorem rd_eqS {a b : List Nat} (q : Q (.bl (decide (a = b))) H) : rEq (.str (S a)) (.str (S b)) H Q := ⟨rfl, by rw [dec_S]; exact q⟩
theorem rd_neS {a b : List Nat} (q : Q (.bl (!decide (a = b))) H) : rNe (.str (S a)) (.str (S b)) H Q := ⟨rfl, by rw [dec_S]; exact q⟩
theorem dec_bl (a b : Bool) : decide (V.bl a = V.bl b) = (a == b) := by cases a <;> cases b <;> rfl
theorem rd_eqB {a b : Bool} (q : Q (.bl (a == b)) H) : rEq (.bl a) (.bl b) H Q := ⟨rfl, by rw [dec_bl]; exact q⟩
theorem rd_neB {a b : Bool} (q : Q (.bl (!(a == b))) H) : rNe (.bl a) (.bl b) H Q := ⟨rfl, by rw [dec_bl]; exact q⟩
theorem rd_test {Q : Bool → Hp → Prop} (h : te σ H fun x H' => ∃ k, x = .bl k ∧ Q k H') : tTest te σ H Q := h
theorem rd_B {Q : Bool → Hp → Prop} (h : te σ H fun x H' => ∃ k, x = .bl k ∧ Q k H') : tB te σ H Q := h
theorem rd_and {Q : Bool → Hp → Prop} (h : tt σ H fun c H1 => if c = true then tu σ H1 Q else Q false H1) : tAnd tt tu σ H Q := h
theorem rd_or {Q : Bool → Hp → Prop} (h : tt σ H fun c H1 => if c = true then Q true H1 else tu σ H1 Q) : tOr tt tu σ H Q := h
theorem rd_not {Q : Bool → Hp → Prop} (h : tt σ H fun c H1 => Q (!c) H1) : tNot tt σ H Q := h
theorem rd_andV (h : ta σ H fun x H1 => ∃ c, x = .bl c ∧ if c = true then tb σ H1 Q else Q (.bl false) H1) : tAndV ta tb σ H Q := h
theorem rd_orV (h : ta σ H fun x H1 => ∃ c, x = .bl c ∧ if c = true then Q (.bl true) H1 else tb σ H1 Q) : tOrV ta tb σ H Q := h
theorem rd_notV (h : ta σ H fun x H1 => ∃ c, x = .bl c ∧ Q (.bl (!c)) H1) : tNotV ta σ H Q := h
theorem rd_ifE (h : tt σ H fun c H1 => if c = true then ta σ H1 Q else tb σ H1 Q) : tIf tt ta tb σ H Q := h
theorem rd_cons {ta : TE} {tr : TA} {Q : List V → Hp → Prop} (h : ta σ H fun x H1 => tr σ H1 fun xs H2 => Q (x :: xs) H2) : tCons ta tr σ H Q := h
theorem rd_nil {Q : List V → Hp → Prop} (h : Q [] H) : tNil σ H Q := h
theorem rd_lst {t : TA} (h : t σ H fun xs H1 => xs.length ≤ sizeLine ∧ ∀ p, H1 p = none → Q (.ref p) (upd H1 p (.lst xs))) : tLst t σ H Q := h
theorem rd_tup {t : TA} (h : t σ H fun xs H1 => xs.length ≤ sizeLine ∧ ∀ p, H1 p = none → Q (.ref p) (upd H1 p (.tup xs))) : tTup t σ H Q := h
theorem rd_len {α : Type} {xs : List α} {A : Prop} (h : xs.length ≤ sizeLine) (q : A) : xs.length ≤ sizeLine ∧ A := ⟨h, q⟩
theorem rd_CB {r : List V → Hp → VK → Prop} {t : TA} (h : t σ H fun vs H1 => r vs H1 Q) : tCB r t σ H Q := h
theorem rd_call {sp : Sp} {E : XK} {t : TA} (h : t σ H fun vs H1 => sp vs H1 Q E) : tCall sp [] E t σ H Q := by
  show t σ H fun vs H1 => sp (vs ++ []) H1 Q E
  have e : (fun (vs : List V) (H1 : Hp) => sp (vs ++ []) H1 Q E) = fun vs H1 => sp vs H1 Q E := by
    funext vs H1
    rw [List.append_nil]
  rw [e]
  exact h
theorem rd_sl {r : V → Option Int → Option Int → Hp → VK → Prop} {tl th : TO} (h : te σ H fun x H1 => tl σ H1 fun l H2 => th σ H2 fun u H3 => r x l u H3 Q) : L2.tSl r te tl th σ H Q := h
theorem rd_part {Q : Option Int → Hp → Prop} (h : te σ H fun x H1 => ∃ i, x = .int i ∧ Q (some i) H1) : tPart te σ H Q := h
theorem rd_nopart {Q : Option Int → Hp → Prop} (h : Q none H) : tNoPart σ H Q := h
theorem rd_isN (h : te σ H fun x H1 => Q (.bl (decide (x = .non))) H1) : tIsN te σ H Q := h
theorem rd_notN (h : te σ H fun x H1 => Q (.bl (!decide (x = .non))) H1) : tNotN te σ H Q := h
theorem rd_bool {b : Bool} {Q : Bool → Prop} (q : Q b) : ∃ k, V.bl b = .bl k ∧ Q k := ⟨b, rfl, q⟩
theorem rd_int {Q : Int → Prop} (q : Q i) : ∃ k, V.int i = .int k ∧ Q k := ⟨i, rfl, q⟩
theorem rd_true {A B : Prop} (h : A) : if true = true then A else B := by rw [if_pos rfl]; exact h
theorem rd_false {A B : Prop} (h : B) : if false = true then A else B := by rw [if_neg Bool.false_ne_true]; exact h
theorem rd_nt {A B : Prop} (h : B) : if (!true) = true then A else B := rd_false h
theorem rd_nf {A B : Prop} (h : A) : if (!false) = true then A else B := rd_true h
theorem rd_decT {p : Prop} [Decidable p] {A B : Prop} (hp : p) (h : A) : if decide p = true then A else B := by rw [decide_eq_true hp, if_pos rfl]; exact h
theorem rd_decF {p : Prop} [Decidable p] {A B : Prop} (hp : ¬ p) (h : B) : if decide p = true then A else B := by rw [decide_eq_false hp, if_neg Bool.false_ne_true]; exact h
theorem rd_ndecT {p : Prop} [Decidable p] {A B : Prop} (hp : ¬ p) (h : A) : if (!decide p) = true then A else B := by rw [decide_eq_false hp]; exact rd_true h
theorem rd_ndecF {p : Prop} [Decidable p] {A B : Prop} (hp : p) (h : B) : if (!decide p) = true then A else B := by rw [decide_eq_true hp]; exact rd_false h
theorem rd_ite {b : Bool} {A B : Prop} (h1 : b = true → A) (h2 : b = false → B) : if b = true then A else B := by
  cases b
  · rw [if_neg Bool.false_ne_true]; exact h2 rfl
  · rw [if_pos rfl]; exact h1 rfl
theorem rd_dec {p : Prop} [Decidable p] {A B : Prop} (h1 : p → A) (h2 : ¬ p → B) : if decide p = true then A else B := by
  by_cases h : p
  · rw [decide_eq_true h, if_pos rfl]; exact h1 h
  · rw [decide_eq_false h, if_neg Bool.false_ne_true]; exact h2 h
theorem rd_ndec {p : Prop} [Decidable p] {A B : Prop} (h1 : ¬ p → A) (h2 : p → B) : if (!decide p) = true then A else B := by
  by_cases h : p
  · rw [decide_eq_true h]; exact rd_false (h2 h)
  · rw [decide_eq_false h]; exact rd_true (h1 h)
theorem rd_strlen {l : List Nat} (hl : l.length ≤ 100000) (q : Q (.int (l.length : Nat)) H) : qLenS [.str (S l)] H Q := ⟨l, rfl, hl, q⟩
theorem rd_cat {l m : List Nat} (hl : l.length + m.length ≤ 100000) (q : Q (.str (S (l ++ m))) H) : qAddS (.str (S l)) (.str (S m)) H Q := ⟨l, m, rfl, rfl, hl, q⟩
theorem rd_ltS {l m : List Nat} (q : Q (.bl (decide (l < m))) H) : qLtS (.str (S l)) (.str (S m)) H Q := ⟨l, m, rfl, rfl, q⟩
theorem rd_leS {l m : List Nat} (q : Q (.bl (!decide (m < l))) H) : qLeS (.str (S l)) (.str (S m)) H Q := ⟨l, m, rfl, rfl, q⟩
theorem rd_gtS {l m : List Nat} (q : Q (.bl (decide (m < l))) H) : qGtS (.str (S l)) (.str (S m)) H Q := ⟨l, m, rfl, rfl, q⟩
theorem rd_geS {l m : List Nat} (q : Q (.bl (!decide (l < m))) H) : qGeS (.str (S l)) (.str (S m)) H Q := ⟨l, m, rfl, rfl, q⟩
theorem rd_inC {c : Nat} {l : List Nat} (q : Q (.bl (decide (c ∈ l))) H) : qInC (.str (S [c])) (.str (S l)) H Q := ⟨c, l, rfl, rfl, q⟩
theorem rd_notInC {c : Nat} {l : List Nat} (q : Q (.bl (!decide (c ∈ l))) H) : qNotInC (.str (S [c])) (.str (S l)) H Q := ⟨c, l, rfl, rfl, q⟩
theorem rd_abs (q : Q (.int (if i < 0 then -i else i)) H) : qAbs [.int i] H Q := ⟨i, rfl, q⟩
theorem rd_max2 (q : Q (.int (if j > i then j else i)) H) : qMax2 [.int i, .int j] H Q := ⟨i, j, rfl, q⟩
theorem rd_min2 (q : Q (.int (if j < i then j else i)) H) : qMin2 [.int i, .int j] H Q := ⟨i, j, rfl, q⟩
theorem rd_listS {l : List Nat} (hl : l.length ≤ 100000) (q : ∀ p, H p = none → Q (.ref p) (upd H p (.lst (signs l)))) : rListS [.str (S l)] H Q := ⟨l, rfl, hl, q⟩
theorem rd_join {p : Addr} {ws : List (List Nat)} (s : SqL K H p (ws.map fun w => V.str (S w))) (hl : ws.flatten.length ≤ 100000) (q : Q (.str (S ws.flatten)) H) : qJoin K (.str (S [])) [.ref p] H Q := ⟨p, ws, rfl, rfl, s, hl, q⟩
theorem rd_joinC {p : Addr} {l : List Nat} (s : SqL K H p (signs l)) (hl : l.length ≤ 100000) (q : Q (.str (S l)) H) : qJoin K (.str (S [])) [.ref p] H Q := by
  have e : ∀ l : List Nat, (l.map fun c => [c]).flatten = l := fun l => by
    induction l with
    | nil => rfl
    | cons a l ih => simp [ih]
  refine ⟨p, l.map fun c => [c], rfl, rfl, ?_, by rw [e]; exact hl, by rw [e]; exact q⟩
  rw [List.map_map]
  exact s
theorem rd_M1 {r : V → List V → Hp → VK → Prop} {to te : TE} (h : to σ H fun x H1 => (∃ a, x = .str a) ∧ te σ H1 fun y H2 => r x [y] H2 Q) : tM1 r to te σ H Q := h
theorem rd_isStr {a : Str} {A : Prop} (h : A) : (∃ b, V.str a = .str b) ∧ A := ⟨⟨a, rfl⟩, h⟩
theorem rd_mulS {l : List Nat} (h1 : -1000 ≤ i) (h2 : i ≤ 1000) (hl : l.length ≤ 1000) (q : Q (.str (S (repL l i.toNat))) H) : rMulS (.str (S l)) (.int i) H Q := ⟨l, i, rfl, rfl, h2, h1, hl, q⟩
theorem rd_ixL {p : Addr} {xs : List V} (s : SqL K H p xs) (a : atI xs i = some v) (q : Q v H) : L2.rIxL K (.ref p) (.int i) H Q := ⟨p, xs, i, v, rfl, rfl, s, a, q⟩
theorem rd_ixT {p : Addr} {xs : List V} (s : SqT K H p xs) (a : atI xs i = some v) (q : Q v H) : L2.rIxT K (.ref p) (.int i) H Q := ⟨p, xs, i, v, rfl, rfl, s, a, q⟩
theorem rd_ixS {l : List Nat} {c : Nat} (hl : l.length ≤ 100000) (a : atI l i = some c) (q : Q (.str (S [c])) H) : L2.rIxS (.str (S l)) (.int i) H Q := ⟨S l, i, c, rfl, rfl, by rw [S_len]; exact sz hl, a, q⟩
theorem rd_lenL {p : Addr} {xs : List V} (s : SqL K H p xs) (q : Q (.int (xs.length : Nat)) H) : qLen K [V.ref p] H Q := ⟨p, xs, rfl, .inl s, q⟩
theorem rd_lenT {p : Addr} {xs : List V} (s : SqT K H p xs) (q : Q (.int (xs.length : Nat)) H) : qLen K [V.ref p] H Q := ⟨p, xs, rfl, .inr s, q⟩
theorem rd_intI (q : Q (.int i) H) : qInt [V.int i] H Q := .inl ⟨i, rfl, q⟩
theorem rd_intB {k : Bool} (q : Q (.int (if k then 1 else 0)) H) : qInt [V.bl k] H Q := .inr ⟨k, rfl, q⟩
theorem rd_setL {p : Addr} {xs : List V} {n : Nat} {R : Hp → Prop} (h : H p = some (.lst xs)) (hj : ixN xs.length i = some n) (q : R (upd H p (.lst (xs.set n v)))) : L2.rSetL (.ref p) (.int i) v H R := ⟨p, xs, i, n, rfl, rfl, h, hj, q⟩
theorem rd_app {l : Addr} {xs : List V} (h : H l = some (.lst xs)) (hl : xs.length < 100000) (q : Q .non (upd H l (.lst (xs ++ [v])))) : rAppend (.ref l) [v] H Q := ⟨l, xs, v, rfl, rfl, h, szlt hl, q⟩
theorem rd_BM {r : V → List V → Hp → VK → Prop} {t : TA} {p : Addr} {ys : List V} {to : TE} (h : to σ H fun x H1 => tyV K "list" x H1 ∧ t σ H1 fun xs H2 => r x xs H2 Q) : tBM K "list" r to t σ H Q := h
theorem tyL {p : Addr} {xs : List V} (h : H p = some (.lst xs)) : tyV K "list" (.ref p) H := .inl ⟨rfl, _, SqL.of h⟩
theorem rd_slL {p : Addr} {xs : List V} {lo hi : Option Int} (s : SqL K H p xs) (q : ∀ p', H p' = none → Q (.ref p') (upd H p' (.lst (cutV xs lo hi)))) : L2.rSlL K (.ref p) lo hi H Q := ⟨p, xs, rfl, s, q⟩
theorem rd_slS_to {l : List Nat} (hl : l.length ≤ 100000) (h0 : 0 ≤ i) (q : Q (.str (S (l.take i.toNat))) H) : C8.rSlX (.str (S l)) none (some i) H Q := ⟨S l, rfl, by rw [S_len]; exact sz hl, by rw [slice_to h0]; exact q⟩
theorem rd_slS_from {l : List Nat} (hl : l.length ≤ 100000) (h0 : 0 ≤ i) (q : Q (.str (S (l.drop i.toNat))) H) : C8.rSlX (.str (S l)) (some i) none H Q := ⟨S l, rfl, by rw [S_len]; exact sz hl, by rw [slice_from h0]; exact q⟩
end
/-- a place in a list by a number that is not negative -/
theorem at_of {α : Type} {xs : List α} {i : Int} {v : α} (h0 : 0 ≤ i) (h : xs[i.toNat]? = some v) : atI xs i = some v := by
  obtain ⟨n, rfl⟩ := Int.eq_ofNat_of_zero_le h0
  exact atI_nat (by simpa using h)
end My
/-! Loops and comprehensions: what is walked, then one lemma each. -/
namespace My
open PySem PySem.Spec L2 SX
open PyProof.Rows hiding St

/-- what a comprehension over J asks -/
def LcG (J : It) (g : TG) (tt : TT) (te : TE) (vs : List Nat) (σ : St) (Q : VK) (H1 : Hp) : Prop := ∀ D, H1 D = none → ∃ W : Nat → Nat → Hp → Prop, (∃ m, W 0 m (upd H1 D (.lst []))) ∧ ∀ i m H, W i m H →
  (J.stop i H ∧ Q (.ref D) H) ∨ (J.go i H ∧ ∃ Nx : Hp → Prop, (∀ H', Nx H' → ∃ m', m' < m ∧ W (i + 1) m' H') ∧ ∀ x H', J.yld i H x H' → g x (wipe σ vs) H' fun σ2 H2 => wipe σ2 vs = wipe σ vs ∧ tt σ2 H2 fun b H3 =>
    if b = true then te σ2 H3 fun y H4 => ∃ acc, H4 D = some (.lst acc) ∧ acc.length < sizeLine ∧ Nx (upd H4 D (.lst (acc ++ [y]))) else Nx H3)
/-- what a for over J asks -/
def ForG (J : It) (g : TG) (tb : TS) (D : Ends) (σ : St) (H1 : Hp) : Prop := ∃ W : Nat → Nat → St → Hp → Prop, (∃ m, W 0 m σ H1) ∧ ∀ i m σ H, W i m σ H →
  (J.stop i H ∧ D.nx σ H) ∨ (J.go i H ∧ ∃ N : St → Hp → Prop, (∀ σ' H', N σ' H' → ∃ m', m' < m ∧ W (i + 1) m' σ' H') ∧ ∀ x H', J.yld i H x H' → g x σ H' fun σ2 H2 => tb { D with nx := N, ct := N, bk := D.nx } σ2 H2)
section
variable {σ : St} {H : Hp} {Q : VK} {D : Ends} {te tl : TE} {ta : TA} {g : TG} {tt : TT} {vs : List Nat} {K : PySem.W.Frag} {wi : TI} {tb : TS} {R : It → Hp → Prop} {i j c : Int}
theorem rd_lc (h : wi σ H fun J H1 => LcG J g tt te vs σ Q H1) : tLc wi g tt te vs σ H Q := h
theorem rd_for (h : wi σ H fun J H1 => ForG J g tb D σ H1) : tFor wi g tb D σ H := h
def qIl (K : PySem.W.Frag) (x : V) (H1 : Hp) (R : It → Hp → Prop) : Prop := ∃ a, x = .ref a ∧ (∃ xs, SqL K H1 a xs) ∧ R (Itl K a) H1
def qItu (K : PySem.W.Frag) (x : V) (H1 : Hp) (R : It → Hp → Prop) : Prop := ∃ a, x = .ref a ∧ (∃ xs, SqT K H1 a xs) ∧ R (Itt K a) H1
def qIr1 (vs : List V) (H1 : Hp) (R : It → Hp → Prop) : Prop := ∃ j : Int, vs = [.int j] ∧ -(2 ^ 62) ≤ j ∧ j < 2 ^ 62 ∧ R (Itr 0 j.toNat) H1
def qIr2 (vs : List V) (H1 : Hp) (R : It → Hp → Prop) : Prop := ∃ i j : Int, vs = [.int i, .int j] ∧ (-(2 ^ 62) ≤ i ∧ i < 2 ^ 62 ∧ -(2 ^ 62) ≤ j ∧ j < 2 ^ 62) ∧ R (Itr i (j - i).toNat) H1
def qIr3 (vs : List V) (H1 : Hp) (R : It → Hp → Prop) : Prop := ∃ (i j c : Int) (n : Nat), vs = [.int i, .int j, .int c] ∧ RgC i j c n ∧ R (Itc i c n) H1
def qIs (v : V) (H1 : Hp) (R : It → Hp → Prop) : Prop := ∃ x, v = .str x ∧ R (Its x) H1
theorem rd_iList (h : tl σ H fun x H1 => qIl K x H1 R) : iList K tl σ H R := h
theorem rd_iTup (h : tl σ H fun x H1 => qItu K x H1 R) : iTup K tl σ H R := h
theorem rd_iRng1 (h : ta σ H fun vs H1 => qIr1 vs H1 R) : iRng1 ta σ H R := h
theorem rd_iRng2 (h : ta σ H fun vs H1 => qIr2 vs H1 R) : iRng2 ta σ H R := h
theorem rd_iRng3 (h : ta σ H fun vs H1 => qIr3 vs H1 R) : iRng3 ta σ H R := h
theorem rd_iStr (h : tl σ H fun v H1 => qIs v H1 R) : iStr tl σ H R := h
theorem rd_qIl {p : Addr} {xs : List V} (s : SqL K H p xs) (q : R (Itl K p) H) : qIl K (.ref p) H R := ⟨p, rfl, ⟨xs, s⟩, q⟩
theorem rd_qItu {p : Addr} {xs : List V} (s : SqT K H p xs) (q : R (Itt K p) H) : qItu K (.ref p) H R := ⟨p, rfl, ⟨xs, s⟩, q⟩
theorem rd_qIr1 (h1 : -100000 ≤ i) (h2 : i ≤ 100000) (q : R (Itr 0 i.toNat) H) : qIr1 [.int i] H R := ⟨i, rfl, by omega, by omega, q⟩
theorem rd_qIr2 (h1 : -100000 ≤ i) (h2 : i ≤ 100000) (h3 : -100000 ≤ j) (h4 : j ≤ 100000) (q : R (Itr i (j - i).toNat) H) : qIr2 [.int i, .int j] H R := ⟨i, j, rfl, by omega, q⟩
theorem rd_qIr3 (h1 : -100000 ≤ i) (h2 : i ≤ 100000) (h3 : -100000 ≤ j) (h4 : j ≤ 100000) (q : R (Itc i (-1) (i - j).toNat) H) : qIr3 [.int i, .int j, .int (-1)] H R := ⟨i, j, -1, _, rfl, RgC.neg (by omega) (by omega) (by omega) (by omega), q⟩
theorem rd_qIs {l : List Nat} (q : R (Its (S l)) H) : qIs (.str (S l)) H R := ⟨S l, rfl, q⟩

/-- a pure test, a pure element -/
def PT0 (tt : TT) (σ : St) (H : Hp) (b : Bool) : Prop := ∀ H1, Same H H1 → ∀ Q : Bool → Hp → Prop, (∀ H2, Same H1 H2 → Q b H2) → tt σ H1 Q
def PE0 (te : TE) (σ : St) (H : Hp) (v : V) : Prop := ∀ H1, Same H H1 → ∀ Q : VK, (∀ H2, Same H1 H2 → Q v H2) → te σ H1 Q
theorem pt_yes : PT0 tYes σ H true := fun H1 _ Q q => q H1 (Same.refl _)

theorem lc_map {α : Type} (ls : List α) (e : α → V) {J : It} {G : Hp → Prop} {Y : Nat → Hp → V → Hp → Prop} (w : Walk J ls.length G Y) (hG : ∀ H', Same H H' → G H')
    (hY : ∀ i H x H', i < ls.length → Y i H x H' → H' = H ∧ ∃ y, ls[i]? = some y ∧ x = e y) {j : Nat} (hn : ls.length ≤ 50000)
    (hw : ∀ x, wipe ((wipe σ vs).set j (some x)) vs = wipe σ vs) (yes : α → Bool) (f : α → V)
    (ht : ∀ y ∈ ls, PT0 tt ((wipe σ vs).set j (some (e y))) H (yes y)) (he : ∀ y ∈ ls, yes y = true → PE0 te ((wipe σ vs).set j (some (e y))) H (f y))
    (q : ∀ D H', H D = none → Same H H' → H' D = some (.lst ((ls.filter yes).map f)) → Q (.ref D) H') : LcG J (gName j) tt te vs σ Q H := by
  intro D hD
  refine lc_it w (fun i H' => Same H H' ∧ H' D = some (.lst (((ls.take i).filter yes).map f))) ⟨Same.new hD, upd_same⟩ (fun i H' _ p => hG H' p.1) ?_ ?_
  · rintro i x H1 H1' hi ⟨s1, hd⟩ yy
    obtain ⟨rfl, y, hy, rfl⟩ := hY i _ _ _ hi yy
    have hm : y ∈ ls := List.mem_of_getElem? hy
    have htk : ls.take (i + 1) = ls.take i ++ [y] := by rw [List.take_succ, hy]; rfl
    refine ⟨hw _, ?_⟩
    refine ht y hm _ s1 _ fun H3 s3 => ?_
    refine rd_ite (fun hb => ?_) (fun hb => ?_)
    · refine he y hm hb _ (s1.trans s3) _ fun H4 s4 => ?_
      refine ⟨_, s4 _ _ (s3 _ _ hd), ?_, Same.mut ((s1.trans s3).trans s4) hD, ?_⟩
      · rw [List.length_map]
        have h1 := List.length_filter_le yes (ls.take i)
        have h2 : (ls.take i).length ≤ ls.length := by rw [List.length_take]; omega
        exact szlt (by omega)
      · rw [upd_same, htk, List.filter_append, List.map_append, List.filter_cons, if_pos hb]
        rfl
    · refine ⟨s1.trans s3, ?_⟩
      rw [htk, List.filter_append, List.map_append, List.filter_cons, if_neg (by rw [hb]; exact Bool.false_ne_true)]
      simp only [List.filter_nil, List.map_nil, List.append_nil]
      exact s3 _ _ hd
  · rintro H1 ⟨s1, hd⟩
    rw [List.take_length] at hd
    exact q D H1 hD s1 hd
theorem filter_yes {α : Type} (l : List α) : l.filter (fun _ => true) = l := List.filter_eq_self.mpr fun _ _ => rfl
/-- over a list -/
theorem lcL {α : Type} (ls : List α) (e : α → V) {p : Addr} (hs : SqL K H p (ls.map e)) {j : Nat} (yes : α → Bool) (f : α → V) (hn : ls.length ≤ 50000)
    (hw : ∀ x, wipe ((wipe σ vs).set j (some x)) vs = wipe σ vs)
    (ht : ∀ y ∈ ls, PT0 tt ((wipe σ vs).set j (some (e y))) H (yes y)) (he : ∀ y ∈ ls, yes y = true → PE0 te ((wipe σ vs).set j (some (e y))) H (f y))
    (q : ∀ D H', H D = none → Same H H' → H' D = some (.lst ((ls.filter yes).map f)) → Q (.ref D) H') : LcG (Itl K p) (gName j) tt te vs σ Q H := by
  have w := walk_list (K := K) (a := p) (xs := ls.map e)
  rw [List.length_map] at w
  refine lc_map ls e w (fun H' s => s.seq hs) (fun i H x H' hi y => ⟨y.1, ?_⟩) hn hw yes f ht he q
  have h2 := y.2
  rw [List.getElem?_map] at h2
  cases h3 : ls[i]? with
  | none => rw [h3] at h2; cases h2
  | some z =>
    rw [h3] at h2
    exact ⟨z, rfl, (Option.some.inj h2).symm⟩
/-- over a range -/
theorem lcR {lo : Int} {n : Nat} {j : Nat} (yes : Nat → Bool) (f : Nat → V) (hn : n ≤ 50000)
    (hw : ∀ x, wipe ((wipe σ vs).set j (some x)) vs = wipe σ vs)
    (ht : ∀ y, y < n → PT0 tt ((wipe σ vs).set j (some (.int (lo + y)))) H (yes y)) (he : ∀ y, y < n → yes y = true → PE0 te ((wipe σ vs).set j (some (.int (lo + y)))) H (f y))
    (q : ∀ D H', H D = none → Same H H' → H' D = some (.lst (((List.range n).filter yes).map f)) → Q (.ref D) H') : LcG (Itr lo n) (gName j) tt te vs σ Q H := by
  have w := walk_range (lo := lo) (n := n)
  refine lc_map (List.range n) (fun y => .int (lo + y)) (by rw [List.length_range]; exact w) (fun _ _ => trivial) (fun i H x H' hi (yy : YFn _ i H x H') => ⟨yy.1, i, ?_, yy.2⟩) (by rw [List.length_range]; exact hn) hw yes f
    (fun y hy => ht y (List.mem_range.mp hy)) (fun y hy => he y (List.mem_range.mp hy)) q
  rw [List.length_range] at hi
  simp [hi]
/-- over a text -/
theorem lcS {l : List Nat} {j : Nat} (yes : Nat → Bool) (f : Nat → V) (hn : l.length ≤ 50000)
    (hw : ∀ x, wipe ((wipe σ vs).set j (some x)) vs = wipe σ vs)
    (ht : ∀ y ∈ l, PT0 tt ((wipe σ vs).set j (some (.str (S [y])))) H (yes y)) (he : ∀ y ∈ l, yes y = true → PE0 te ((wipe σ vs).set j (some (.str (S [y])))) H (f y))
    (q : ∀ D H', H D = none → Same H H' → H' D = some (.lst ((l.filter yes).map f)) → Q (.ref D) H') : LcG (Its (S l)) (gName j) tt te vs σ Q H := by
  have w := walk_str (z := S l)
  have hz : (S l).cps.size = l.length := by simp
  rw [hz] at w
  refine lc_map l (fun y => .str (S [y])) w (fun _ _ => trivial) (fun i H x H' hi y => ⟨y.1, ?_⟩) hn hw yes f ht he q
  obtain ⟨c, h1, h2⟩ := y.2
  exact ⟨c, by simpa using h1, h2⟩

/-- over a range, the element's call may change what stands: acc what is made so far -/
theorem lcR_inv {lo : Int} {n : Nat} {j : Nat} (Pv : Addr → Nat → List V → Hp → Prop) (hn : n ≤ 50000) (hw : ∀ x, wipe ((wipe σ vs).set j (some x)) vs = wipe σ vs)
    (h0 : ∀ D, H D = none → Pv D 0 [] (upd H D (.lst [])))
    (hs : ∀ (D : Addr) (i : Nat) (acc : List V) (H' : Hp) (Q : VK), i < n → H D = none → acc.length = i → Pv D i acc H' → H' D = some (.lst acc) →
      (∀ y H2, H2 D = some (.lst acc) → Pv D (i + 1) (acc ++ [y]) (upd H2 D (.lst (acc ++ [y]))) → Q y H2) → te ((wipe σ vs).set j (some (.int (lo + (i : Nat))))) H' Q)
    (q : ∀ (D : Addr) (acc : List V) (H' : Hp), H D = none → acc.length = n → Pv D n acc H' → H' D = some (.lst acc) → Q (.ref D) H') : LcG (Itr lo n) (gName j) tYes te vs σ Q H := by
  intro D hD
  refine lc_it (walk_range (lo := lo) (n := n)) (fun i H' => ∃ acc : List V, H' D = some (.lst acc) ∧ acc.length = i ∧ Pv D i acc H') ⟨[], upd_same, rfl, h0 D hD⟩ (fun _ _ _ _ => trivial) ?_ ?_
  · rintro i x H1 H1' hi ⟨acc, ha, hl, p⟩ ⟨rfl, rfl⟩
    refine ⟨hw _, ?_⟩
    unfold tYes
    dsimp only
    rw [if_pos rfl]
    refine hs D i acc _ _ hi hD hl p ha fun y H2 h2 p2 => ⟨acc, h2, szlt (by omega), acc ++ [y], upd_same, ?_, p2⟩
    rw [List.length_append, hl]
    rfl
  · rintro H1 ⟨acc, ha, hl, p⟩
    exact q D acc H1 hD hl p ha
theorem cutV_to {xs : List V} {i : Int} (h : 0 ≤ i) : cutV xs none (some i) = xs.take i.toNat := by
  obtain ⟨n, rfl⟩ := Int.eq_ofNat_of_zero_le h
  unfold cutV
  rw [HT.sIx_none, HT.sIx_nat, List.drop_zero, Nat.sub_zero, Int.toNat_natCast]
  rw [Nat.min_def]
  split
  · rfl
  · rw [List.take_of_length_le (Nat.le_refl _), List.take_of_length_le (by omega)]
/-! ### for -/
variable {nx : St → Hp → Prop} {rt : VK} {bk ct : St → Hp → Prop}
theorem for_map {α : Type} (ls : List α) (e : α → V) {J : It} {G : Hp → Prop} {Y : Nat → Hp → V → Hp → Prop} (w : Walk J ls.length G Y)
    (hY : ∀ i H x H', i < ls.length → Y i H x H' → H' = H ∧ ∃ y, ls[i]? = some y ∧ x = e y) {j : Nat} (Pv : Nat → St → Hp → Prop) (h0 : Pv 0 σ H) (hG : ∀ i σ H, i ≤ ls.length → Pv i σ H → G H)
    (hs : ∀ i y σ H, ls[i]? = some y → Pv i σ H → tb ⟨Pv (i + 1), rt, nx, Pv (i + 1)⟩ (σ.set j (some (e y))) H) (hd : ∀ σ H, Pv ls.length σ H → nx σ H) : ForG J (gName j) tb ⟨nx, rt, bk, ct⟩ σ H :=
  for_it w Pv h0 hG (fun i x σ H H' hi p yy => by
    obtain ⟨rfl, y, hy, rfl⟩ := hY i _ _ _ hi yy
    exact hs i y σ _ hy p) hd
theorem forL {α : Type} (ls : List α) (e : α → V) {p : Addr} {j : Nat} (Pv : Nat → St → Hp → Prop) (h0 : Pv 0 σ H) (hG : ∀ i σ H, i ≤ ls.length → Pv i σ H → SqL K H p (ls.map e))
    (hs : ∀ i y σ H, ls[i]? = some y → Pv i σ H → tb ⟨Pv (i + 1), rt, nx, Pv (i + 1)⟩ (σ.set j (some (e y))) H) (hd : ∀ σ H, Pv ls.length σ H → nx σ H) : ForG (Itl K p) (gName j) tb ⟨nx, rt, bk, ct⟩ σ H := by
  have w := walk_list (K := K) (a := p) (xs := ls.map e)
  rw [List.length_map] at w
  refine for_map ls e w (fun i H x H' hi y => ⟨y.1, ?_⟩) Pv h0 hG hs hd
  have h2 := y.2
  rw [List.getElem?_map] at h2
  cases h3 : ls[i]? with
  | none => rw [h3] at h2; cases h2
  | some z =>
    rw [h3] at h2
    exact ⟨z, rfl, (Option.some.inj h2).symm⟩
theorem forR {lo : Int} {n : Nat} {j : Nat} (Pv : Nat → St → Hp → Prop) (h0 : Pv 0 σ H)
    (hs : ∀ i σ H, i < n → Pv i σ H → tb ⟨Pv (i + 1), rt, nx, Pv (i + 1)⟩ (σ.set j (some (.int (lo + (i : Nat))))) H) (hd : ∀ σ H, Pv n σ H → nx σ H) : ForG (Itr lo n) (gName j) tb ⟨nx, rt, bk, ct⟩ σ H :=
  for_it (walk_range (lo := lo) (n := n)) Pv h0 (fun _ _ _ _ _ => trivial) (fun i x σ H H' hi p y => by
    obtain ⟨rfl, rfl⟩ := y
    exact hs i σ _ hi p) hd
theorem forRC {lo c : Int} {n : Nat} {j : Nat} (Pv : Nat → St → Hp → Prop) (h0 : Pv 0 σ H)
    (hs : ∀ i σ H, i < n → Pv i σ H → tb ⟨Pv (i + 1), rt, nx, Pv (i + 1)⟩ (σ.set j (some (.int (lo + (i : Nat) * c)))) H) (hd : ∀ σ H, Pv n σ H → nx σ H) : ForG (Itc lo c n) (gName j) tb ⟨nx, rt, bk, ct⟩ σ H :=
  for_it (walk_rangeC (lo := lo) (n := n)) Pv h0 (fun _ _ _ _ _ => trivial) (fun i x σ H H' hi p y => by
    obtain ⟨rfl, rfl⟩ := y
    exact hs i σ _ hi p) hd
theorem forS {l : List Nat} {j : Nat} (Pv : Nat → St → Hp → Prop) (h0 : Pv 0 σ H)
    (hs : ∀ i y σ H, l[i]? = some y → Pv i σ H → tb ⟨Pv (i + 1), rt, nx, Pv (i + 1)⟩ (σ.set j (some (.str (S [y])))) H) (hd : ∀ σ H, Pv l.length σ H → nx σ H) : ForG (Its (S l)) (gName j) tb ⟨nx, rt, bk, ct⟩ σ H := by
  have w := walk_str (z := S l)
  have hz : (S l).cps.size = l.length := by simp
  rw [hz] at w
  refine for_map l (fun y => .str (S [y])) w (fun i H x H' hi y => ⟨y.1, ?_⟩) Pv h0 (fun _ _ _ _ _ => trivial) hs hd
  obtain ⟨c, h1, h2⟩ := y.2
  exact ⟨c, by simpa using h1, h2⟩
/-- while, by a word with its measure -/
def WhB (W : Nat → St → Hp → Prop) (m : Nat) (tb : TS) (rt : VK) (nx : St → Hp → Prop) (σ : St) (H1 : Hp) : Prop :=
  ∃ N : St → Hp → Prop, (∀ σ' H', N σ' H' → ∃ m', m' < m ∧ W m' σ' H') ∧ tb ⟨N, rt, nx, N⟩ σ H1
theorem rd_while (W : Nat → St → Hp → Prop) (m0 : Nat) (h0 : W m0 σ H)
    (hs : ∀ m σ H, W m σ H → tt σ H fun b H1 => if b = true then WhB W m tb rt nx σ H1 else nx σ H1) : tWhile tt tb ⟨nx, rt, bk, ct⟩ σ H :=
  ⟨W, ⟨m0, h0⟩, hs⟩
theorem rd_whb {W : Nat → St → Hp → Prop} {m : Nat} (h : tb ⟨fun σ' H' => ∃ m', m' < m ∧ W m' σ' H', rt, nx, fun σ' H' => ∃ m', m' < m ∧ W m' σ' H'⟩ σ H) : WhB W m tb rt nx σ H :=
  ⟨_, fun _ _ h => h, h⟩
end
end My
/-! isinstance, deep equality of plain data, sorted. -/
namespace My
open PySem PySem.Spec L2 SX
open PyProof.Rows hiding St
section
variable {H : Hp} {Q : VK} {K : PySem.W.Frag} {x y : V}
theorem rd_isi {a b : String} {r : Bool} (ty : TyX K H x (.type a)) (h : kitB a b = some r) (q : Q (.bl r) H) : rIsi K [x, .ty b] H Q := ⟨x, .ty b, .type a, .type b, r, rfl, .ty b, ty, kit_ty h, q⟩
theorem ty_str {z : Str} : TyX K H (.str z) (.type "str") := .base (.str z)
theorem ty_int {i : Int} : TyX K H (.int i) (.type "int") := .base (.int i)
theorem ty_bl {b : Bool} : TyX K H (.bl b) (.type "bool") := .base (.bl b)
theorem ty_lst {a : Addr} {xs : List V} (h : H a = some (.lst xs)) : TyX K H (.ref a) (.type "list") := .base (.lst h)
theorem ty_tup {a : Addr} {xs : List V} (h : H a = some (.tup xs)) : TyX K H (.ref a) (.type "tuple") := .base (.tup h)
theorem ty_non : TyX K H .non (.type "NoneType") := .base .non

theorem kb_str_str : kitB "str" "str" = some true := by decide +kernel
theorem kb_str_int : kitB "str" "int" = some false := by decide +kernel
theorem kb_str_bool : kitB "str" "bool" = some false := by decide +kernel
theorem kb_str_list : kitB "str" "list" = some false := by decide +kernel
theorem kb_str_tuple : kitB "str" "tuple" = some false := by decide +kernel
theorem kb_int_str : kitB "int" "str" = some false := by decide +kernel
theorem kb_int_int : kitB "int" "int" = some true := by decide +kernel
theorem kb_int_bool : kitB "int" "bool" = some false := by decide +kernel
theorem kb_int_list : kitB "int" "list" = some false := by decide +kernel
theorem kb_int_tuple : kitB "int" "tuple" = some false := by decide +kernel
theorem kb_bool_str : kitB "bool" "str" = some false := by decide +kernel
theorem kb_bool_int : kitB "bool" "int" = some true := by decide +kernel
theorem kb_bool_bool : kitB "bool" "bool" = some true := by decide +kernel
theorem kb_bool_list : kitB "bool" "list" = some false := by decide +kernel
theorem kb_bool_tuple : kitB "bool" "tuple" = some false := by decide +kernel
theorem kb_list_str : kitB "list" "str" = some false := by decide +kernel
theorem kb_list_int : kitB "list" "int" = some false := by decide +kernel
theorem kb_list_bool : kitB "list" "bool" = some false := by decide +kernel
theorem kb_list_list : kitB "list" "list" = some true := by decide +kernel
theorem kb_list_tuple : kitB "list" "tuple" = some false := by decide +kernel
theorem kb_tuple_str : kitB "tuple" "str" = some false := by decide +kernel
theorem kb_tuple_int : kitB "tuple" "int" = some false := by decide +kernel
theorem kb_tuple_bool : kitB "tuple" "bool" = some false := by decide +kernel
theorem kb_tuple_list : kitB "tuple" "list" = some false := by decide +kernel
theorem kb_tuple_tuple : kitB "tuple" "tuple" = some true := by decide +kernel
theorem kb_NoneType_str : kitB "NoneType" "str" = some false := by decide +kernel
theorem kb_NoneType_int : kitB "NoneType" "int" = some false := by decide +kernel
theorem kb_NoneType_bool : kitB "NoneType" "bool" = some false := by decide +kernel
theorem kb_NoneType_list : kitB "NoneType" "list" = some false := by decide +kernel
theorem kb_NoneType_tuple : kitB "NoneType" "tuple" = some false := by decide +kernel
/-! ### data -/
def dI (ns : List Int) : PyData := .list (ns.map PyData.int)
def dS (ws : List (List Nat)) : PyData := .list (ws.map fun w => PyData.str (S w))
def dSI (w : List Nat) (k : Int) : PyData := .tuple [.str (S w), .int k]
theorem canI : ∀ ns : List Int, PyData.canLayAll0 (ns.map PyData.int) = true
  | [] => rfl
  | n :: ns => by
    show (PyData.canLay0 (.int n) && PyData.canLayAll0 (ns.map PyData.int)) = true
    rw [canI ns]; rfl
theorem depI : ∀ ns : List Int, PyData.depthAll (ns.map PyData.int) = 0
  | [] => rfl
  | n :: ns => by
    show max (PyData.depth (.int n)) (PyData.depthAll (ns.map PyData.int)) = 0
    rw [depI ns]; rfl
theorem shI (ns : List Int) : SeqAt.shaped (dI ns) = true := by
  unfold SeqAt.shaped dI
  have h1 : PyData.canLay0 (.list (ns.map PyData.int)) = true := canI ns
  have h2 : PyData.depth (.list (ns.map PyData.int)) = 1 := by show PyData.depthAll _ + 1 = 1; rw [depI]
  rw [h1, h2]; rfl
theorem eqAllI : ∀ ns ms : List Int, PyData.eqvAll (ns.map PyData.int) (ms.map PyData.int) = decide (ns = ms)
  | [], [] => rfl
  | [], _ :: _ => rfl
  | _ :: _, [] => rfl
  | n :: ns, m :: ms => by
    show (PyData.eqv (.int n) (.int m) && PyData.eqvAll (ns.map PyData.int) (ms.map PyData.int)) = _
    rw [eqAllI ns ms]
    have h : PyData.eqv (.int n) (.int m) = decide (n = m) := by simp only [PyData.eqv]; by_cases e : n = m <;> simp [e]
    rw [h]
    by_cases e : n = m <;> by_cases e2 : ns = ms <;> simp [e, e2]
theorem eqI (ns ms : List Int) : PyData.eqv (dI ns) (dI ms) = decide (ns = ms) := by
  show PyData.eqvAll _ _ = _
  exact eqAllI ns ms
theorem dpAllI : ∀ ns : List Int, DpAll K H (ns.map V.int) (ns.map PyData.int)
  | [] => .nil
  | n :: ns => .cons (.int n) (dpAllI ns)
theorem dpI {a : Addr} {ns : List Int} (h : SqL K H a (ns.map V.int)) : Dp K H (.ref a) (dI ns) := .lst h (dpAllI ns)
/-- its code points are code points -/
def OkW (w : List Nat) : Prop := ∀ c ∈ w, c < 1114112
theorem canStr {w : List Nat} (h : OkW w) : PyData.canLay0 (.str (S w)) = true := by
  show PyData.strOk (S w) = true
  unfold PyData.strOk
  rw [← Array.all_toList]
  exact List.all_eq_true.mpr fun c hc => decide_eq_true (h c (by simpa using hc))
theorem canS : ∀ ws : List (List Nat), (∀ w ∈ ws, OkW w) → PyData.canLayAll0 (ws.map fun w => PyData.str (S w)) = true
  | [], _ => rfl
  | w :: ws, h => by
    show (PyData.canLay0 (.str (S w)) && PyData.canLayAll0 (ws.map fun w => PyData.str (S w))) = true
    rw [canS ws fun v hv => h v (List.mem_cons_of_mem _ hv), canStr (h w List.mem_cons_self)]; rfl
theorem depS : ∀ ws : List (List Nat), PyData.depthAll (ws.map fun w => PyData.str (S w)) = 0
  | [] => rfl
  | w :: ws => by
    show max (PyData.depth (.str (S w))) (PyData.depthAll (ws.map fun w => PyData.str (S w))) = 0
    rw [depS ws]; rfl
theorem shS (ws : List (List Nat)) (h : ∀ w ∈ ws, OkW w) : SeqAt.shaped (dS ws) = true := by
  unfold SeqAt.shaped dS
  have h1 : PyData.canLay0 (.list (ws.map fun w => PyData.str (S w))) = true := canS ws h
  have h2 : PyData.depth (.list (ws.map fun w => PyData.str (S w))) = 1 := by show PyData.depthAll _ + 1 = 1; rw [depS]
  rw [h1, h2]; rfl
theorem eqStr (v w : List Nat) : PyData.eqv (.str (S v)) (.str (S w)) = decide (v = w) := by
  simp only [PyData.eqv]
  exact S_beq_eq
theorem eqAllS : ∀ vs ws : List (List Nat), PyData.eqvAll (vs.map fun w => PyData.str (S w)) (ws.map fun w => PyData.str (S w)) = decide (vs = ws)
  | [], [] => rfl
  | [], _ :: _ => rfl
  | _ :: _, [] => rfl
  | v :: vs, w :: ws => by
    show (PyData.eqv (.str (S v)) (.str (S w)) && PyData.eqvAll (vs.map fun w => PyData.str (S w)) (ws.map fun w => PyData.str (S w))) = _
    rw [eqAllS vs ws, eqStr]
    by_cases e : v = w <;> by_cases e2 : vs = ws <;> simp [e, e2]
theorem eqS (vs ws : List (List Nat)) : PyData.eqv (dS vs) (dS ws) = decide (vs = ws) := eqAllS vs ws
theorem dpAllS : ∀ ws : List (List Nat), DpAll K H (ws.map fun w => V.str (S w)) (ws.map fun w => PyData.str (S w))
  | [] => .nil
  | w :: ws => .cons (.str (S w)) (dpAllS ws)
theorem dpS {a : Addr} {ws : List (List Nat)} (h : SqL K H a (ws.map fun w => V.str (S w))) : Dp K H (.ref a) (dS ws) := .lst h (dpAllS ws)
theorem dpSI {a : Addr} {w : List Nat} {k : Int} (h : SqT K H a [.str (S w), .int k]) : Dp K H (.ref a) (dSI w k) := .tup h (.cons (.str _) (.cons (.int _) .nil))
theorem shSI {w : List Nat} {k : Int} (h : OkW w) : SeqAt.shaped (dSI w k) = true := by
  unfold SeqAt.shaped dSI
  have h1 : PyData.canLay0 (.tuple [.str (S w), .int k]) = true := by
    show (PyData.canLay0 (.str (S w)) && (PyData.canLay0 (.int k) && true)) = true
    rw [canStr h]; rfl
  rw [h1]; rfl
theorem eqSI (v w : List Nat) (j k : Int) : PyData.eqv (dSI v j) (dSI w k) = decide (v = w ∧ j = k) := by
  show (PyData.eqv (.str (S v)) (.str (S w)) && (PyData.eqv (.int j) (.int k) && true)) = _
  have h : PyData.eqv (.int j) (.int k) = decide (j = k) := by simp only [PyData.eqv]; by_cases e : j = k <;> simp [e]
  rw [eqStr, h]
  by_cases e : v = w <;> by_cases e2 : j = k <;> simp [e, e2]
theorem rd_eqD {d e : PyData} (hd : Dp K H x d) (he : Dp K H y e) (sd : SeqAt.shaped d = true) (se : SeqAt.shaped e = true) (q : Q (.bl (PyData.eqv d e)) H) : rEqD K x y H Q := ⟨d, e, hd, he, sd, se, q⟩
theorem rd_neD {d e : PyData} (hd : Dp K H x d) (he : Dp K H y e) (sd : SeqAt.shaped d = true) (se : SeqAt.shaped e = true) (q : Q (.bl (!PyData.eqv d e)) H) : rNeD K x y H Q := ⟨d, e, hd, he, sd, se, q⟩
theorem rd_eqLI {p r : Addr} {ns ms : List Int} (h1 : SqL K H p (ns.map V.int)) (h2 : SqL K H r (ms.map V.int)) (q : Q (.bl (decide (ns = ms))) H) : rEqD K (.ref p) (.ref r) H Q := rd_eqD (dpI h1) (dpI h2) (shI _) (shI _) (by rw [eqI]; exact q)
theorem rd_neLI {p r : Addr} {ns ms : List Int} (h1 : SqL K H p (ns.map V.int)) (h2 : SqL K H r (ms.map V.int)) (q : Q (.bl (!decide (ns = ms))) H) : rNeD K (.ref p) (.ref r) H Q := rd_neD (dpI h1) (dpI h2) (shI _) (shI _) (by rw [eqI]; exact q)
theorem rd_eqLS {p r : Addr} {ns ms : List (List Nat)} (h1 : SqL K H p (ns.map fun w => V.str (S w))) (h2 : SqL K H r (ms.map fun w => V.str (S w))) (o1 : ∀ w ∈ ns, OkW w) (o2 : ∀ w ∈ ms, OkW w) (q : Q (.bl (decide (ns = ms))) H) : rEqD K (.ref p) (.ref r) H Q := rd_eqD (dpS h1) (dpS h2) (shS _ o1) (shS _ o2) (by rw [eqS]; exact q)
theorem rd_neLS {p r : Addr} {ns ms : List (List Nat)} (h1 : SqL K H p (ns.map fun w => V.str (S w))) (h2 : SqL K H r (ms.map fun w => V.str (S w))) (o1 : ∀ w ∈ ns, OkW w) (o2 : ∀ w ∈ ms, OkW w) (q : Q (.bl (!decide (ns = ms))) H) : rNeD K (.ref p) (.ref r) H Q := rd_neD (dpS h1) (dpS h2) (shS _ o1) (shS _ o2) (by rw [eqS]; exact q)
theorem rd_eqTSI {p r : Addr} {v w : List Nat} {j k : Int} (h1 : SqT K H p [.str (S v), .int j]) (h2 : SqT K H r [.str (S w), .int k]) (o1 : OkW v) (o2 : OkW w) (q : Q (.bl (decide (v = w ∧ j = k))) H) : rEqD K (.ref p) (.ref r) H Q := rd_eqD (dpSI h1) (dpSI h2) (shSI o1) (shSI o2) (by rw [eqSI]; exact q)
theorem rd_neTSI {p r : Addr} {v w : List Nat} {j k : Int} (h1 : SqT K H p [.str (S v), .int j]) (h2 : SqT K H r [.str (S w), .int k]) (o1 : OkW v) (o2 : OkW w) (q : Q (.bl (!decide (v = w ∧ j = k))) H) : rNeD K (.ref p) (.ref r) H Q := rd_neD (dpSI h1) (dpSI h2) (shSI o1) (shSI o2) (by rw [eqSI]; exact q)
/-- two sorted lists of the same ints are one -/
theorem sorted_one : ∀ {as bs : List Int}, as.Perm bs → as.Pairwise (· ≤ ·) → bs.Pairwise (· ≤ ·) → as = bs
  | [], bs, p, _, _ => (List.nil_perm.mp p).symm
  | a :: as, [], p, _, _ => absurd (List.perm_nil.mp p) (by simp)
  | a :: as, b :: bs, p, h1, h2 => by
    rw [List.pairwise_cons] at h1 h2
    have hab : a = b := by
      have h3 : a ∈ b :: bs := p.subset List.mem_cons_self
      have h4 : b ∈ a :: as := p.symm.subset List.mem_cons_self
      rcases List.mem_cons.mp h3 with h3 | h3
      · exact h3
      · rcases List.mem_cons.mp h4 with h4 | h4
        · exact h4.symm
        · have := h1.1 b h4
          have := h2.1 a h3
          omega
    subst hab
    rw [sorted_one ((List.perm_cons a).mp p) h1.2 h2.2]
theorem rd_sortedI {p : Addr} {ns ms : List Int} (h : SqL K H p (ns.map V.int)) (pm : ms.Perm ns) (srt : ms.Pairwise (· ≤ ·)) (q : ∀ r, H r = none → Q (.ref r) (upd H r (.lst (ms.map V.int)))) : rSortedI K [.ref p] H Q :=
  ⟨p, ns, rfl, h, fun ns' r p2 s2 nr => by
    have e : ns' = ms := sorted_one (p2.trans pm.symm) s2 srt
    rw [e]
    exact q r nr⟩
/-- a new list from two -/
theorem rd_catL {l b : Addr} {xs zs : List V} (h1 : H l = some (.lst xs)) (h2 : H b = some (.lst zs)) (hl : xs.length + zs.length ≤ 100000) (q : ∀ p, H p = none → Q (.ref p) (upd H p (.lst (xs ++ zs)))) : rCat (.ref l) (.ref b) H Q :=
  ⟨l, b, xs, zs, rfl, rfl, h1, h2, sz hl, q⟩
theorem rd_revL {σ : St} {te : TE} (h : te σ H fun x H1 => ∃ a xs, x = .ref a ∧ SqL K H1 a xs ∧ ∀ p, H1 p = none → Q (.ref p) (upd H1 p (.lst xs.reverse))) : tRevL K te σ H Q := h
end
end My
/-! Borders and periods of a word, plain. -/
namespace Per
/-- b is a border's length of the first n signs -/
def Bd (s : Nat → Nat) (n b : Nat) : Prop := b < n ∧ ∀ i, i < b → s i = s (n - b + i)
instance (s : Nat → Nat) (n b : Nat) : Decidable (Bd s n b) := by unfold Bd; exact inferInstance
variable {s : Nat → Nat} {n b c : Nat}
theorem Bd.zero (h : 0 < n) : Bd s n 0 := ⟨h, fun i hi => absurd hi (Nat.not_lt_zero i)⟩
theorem Bd.trans (h : Bd s n b) (k : Bd s b c) : Bd s n c := by
  obtain ⟨h1, h2⟩ := h
  obtain ⟨k1, k2⟩ := k
  refine ⟨by omega, fun i hi => ?_⟩
  rw [k2 i hi, h2 (b - c + i) (by omega)]
  congr 1; omega
theorem Bd.sub (h : Bd s n b) (k : Bd s n c) (l : c < b) : Bd s b c := by
  obtain ⟨h1, h2⟩ := h
  obtain ⟨k1, k2⟩ := k
  refine ⟨l, fun i hi => ?_⟩
  rw [k2 i hi, h2 (b - c + i) (by omega)]
  congr 1; omega
theorem Bd.succ (h : Bd s n b) (e : s b = s n) : Bd s (n + 1) (b + 1) := by
  obtain ⟨h1, h2⟩ := h
  refine ⟨by omega, fun i hi => ?_⟩
  by_cases hb : i < b
  · rw [h2 i hb]; congr 1; omega
  · have : i = b := by omega
    subst this
    rw [e]; congr 1; omega
theorem Bd.pred (h : Bd s (n + 1) (b + 1)) : Bd s n b ∧ s b = s n := by
  obtain ⟨h1, h2⟩ := h
  refine ⟨⟨by omega, fun i hi => ?_⟩, ?_⟩
  · rw [h2 i (by omega)]; congr 1; omega
  · rw [h2 b (by omega)]; congr 1; omega
/-- the greatest border's length up to b -/
def lbs (s : Nat → Nat) (n : Nat) : Nat → Nat
  | 0 => 0
  | b + 1 => if Bd s n (b + 1) then b + 1 else lbs s n b
def lb (s : Nat → Nat) (n : Nat) : Nat := lbs s n (n - 1)
theorem lbs_bd (h : 0 < n) : ∀ b, Bd s n (lbs s n b)
  | 0 => Bd.zero h
  | b + 1 => by
    unfold lbs
    split
    · assumption
    · exact lbs_bd h b
theorem lbs_max : ∀ b c, c ≤ b → Bd s n c → c ≤ lbs s n b
  | 0, c, h, _ => by omega
  | b + 1, c, h, k => by
    unfold lbs
    split
    · exact h
    · rename_i g
      by_cases e : c = b + 1
      · subst e; exact absurd k g
      · exact lbs_max b c (by omega) k
theorem lb_bd (h : 0 < n) : Bd s n (lb s n) := lbs_bd h _
theorem lb_max (k : Bd s n c) : c ≤ lb s n := lbs_max _ _ (by have := k.1; omega) k
theorem lb_lt (h : 0 < n) : lb s n < n := (lb_bd h).1
theorem lb_one : lb s 1 = 0 := rfl
theorem lb_unique (h : 0 < n) (k : Bd s n b) (m : ∀ c, Bd s n c → c ≤ b) : lb s n = b := Nat.le_antisymm (m _ (lb_bd h)) (lb_max k)
theorem lb_next (h : 0 < n) (k : Bd s n b) (m : ∀ c, Bd s n c → b < c → s c ≠ s n) (e : b = 0 ∨ s b = s n) : lb s (n + 1) = b + if s b = s n then 1 else 0 := by
  by_cases q : s b = s n
  · rw [if_pos q]
    refine lb_unique (by omega) (k.succ q) fun c hc => ?_
    cases c with
    | zero => omega
    | succ c =>
      obtain ⟨h1, h2⟩ := hc.pred
      by_cases g : b < c
      · exact absurd h2 (m c h1 g)
      · omega
  · rw [if_neg q]
    have hb : b = 0 := by rcases e with e | e; exact e; exact absurd e q
    subst hb
    refine lb_unique (by omega) (Bd.zero (by omega)) fun c hc => ?_
    cases c with
    | zero => omega
    | succ c =>
      obtain ⟨h1, h2⟩ := hc.pred
      by_cases g : 0 < c
      · exact absurd h2 (m c h1 g)
      · have : c = 0 := by omega
        subst this
        exact absurd h2 q
/-- all border's lengths, ascending -/
def bl (s : Nat → Nat) (n : Nat) : List Nat := (List.range n).filter fun b => decide (Bd s n b)
theorem range_filter_none (n : Nat) (p : Nat → Bool) (h : ∀ b, b < n → p b = false) : (List.range n).filter p = [] := by
  rw [List.filter_eq_nil_iff]
  intro b hb
  rw [h b (List.mem_range.mp hb)]
  exact Bool.false_ne_true
theorem filter_split (a : Nat) (p q : Nat → Bool) : ∀ n, a < n → (∀ b, b < n → p b = (decide (b = a) || q b)) → (∀ b, q b = true → a < b) → (List.range n).filter p = a :: (List.range n).filter q
  | 0, h, _, _ => by omega
  | n + 1, h, h1, h2 => by
    rw [List.range_succ, List.filter_append, List.filter_append]
    by_cases e : a < n
    · rw [filter_split a p q n e (fun b hb => h1 b (by omega)) h2]
      have e2 : p n = q n := by rw [h1 n (by omega)]; simp; omega
      simp [List.filter_cons, e2]
    · have e : a = n := by omega
      subst e
      have e1 : p a = true := by rw [h1 a (by omega)]; simp
      have e2 : q a = false := by
        cases g : q a with
        | false => rfl
        | true => exact absurd (h2 a g) (Nat.lt_irrefl a)
      rw [range_filter_none a p fun b hb => by
        rw [h1 b (by omega)]
        cases g : q b with
        | true => have := h2 b g; omega
        | false => simp; omega]
      rw [range_filter_none a q fun b hb => by
        cases g : q b with
        | true => have := h2 b g; omega
        | false => rfl]
      simp [List.filter_cons, e1, e2]
/-- the borders above h -/
def above (s : Nat → Nat) (n h : Nat) : List Nat := (List.range n).filter fun b => decide (Bd s n b) && decide (h < b)
theorem above_next {h : Nat} (k : Bd s n h) (p : 0 < h) : above s n (lb s h) = h :: above s n h := by
  have hl : lb s h < h := lb_lt p
  refine filter_split h _ _ n k.1 (fun b hb => ?_) fun b hb => ?_
  · by_cases e : b = h
    · subst e; simp [k, hl]
    · by_cases g : Bd s n b
      · simp only [g, decide_true, Bool.true_and, e, decide_false, Bool.false_or]
        by_cases q : h < b
        · simp [q]; omega
        · have : b < h := by omega
          have := lb_max (k.sub g this)
          simp [q]; omega
      · simp [g, e]
  · simp only [Bool.and_eq_true, decide_eq_true_eq] at hb
    exact hb.2
theorem above_zero (h : 0 < n) : bl s n = 0 :: above s n 0 := by
  refine filter_split 0 _ _ n h (fun b hb => ?_) fun b hb => ?_
  · by_cases e : b = 0
    · subst e; simp [Bd.zero h]
    · by_cases g : Bd s n b
      · simp [g]; omega
      · simp [g, e]
  · simp only [Bool.and_eq_true, decide_eq_true_eq] at hb
    exact hb.2
theorem above_lb (h : 0 < n) : above s n (lb s n) = [] := by
  refine range_filter_none n _ fun b hb => ?_
  by_cases g : Bd s n b
  · have := lb_max g
    simp [g]; omega
  · simp [g]
/-- periods, ascending -/
def pl (s : Nat → Nat) (n : Nat) : List Nat := ((bl s n).map fun b => n - b).reverse
theorem mem_bl {b : Nat} : b ∈ bl s n ↔ Bd s n b := by
  unfold bl
  rw [List.mem_filter, List.mem_range, decide_eq_true_eq]
  exact ⟨fun h => h.2, fun h => ⟨h.1, h⟩⟩
theorem bl_sorted : (bl s n).Pairwise (· < ·) := List.Pairwise.filter _ List.pairwise_lt_range
theorem pl_sorted : (pl s n).Pairwise (· < ·) := by
  unfold pl
  rw [List.pairwise_reverse, List.pairwise_map]
  refine List.Pairwise.imp_of_mem (fun {a b} ha hb h => ?_) bl_sorted
  have := (mem_bl.mp hb).1
  omega
theorem pl_head (h : 0 < n) : (pl s n).head? = some (n - lb s n) := by
  unfold pl
  rw [List.head?_reverse, List.getLast?_map]
  have e : (bl s n).getLast? = some (lb s n) := by
    have m : lb s n ∈ bl s n := mem_bl.mpr (lb_bd h)
    obtain ⟨l1, l2, e⟩ := List.append_of_mem m
    have srt := bl_sorted (s := s) (n := n)
    rw [e] at srt
    cases l2 with
    | nil => rw [e]; simp
    | cons y l2 =>
      have hy : y ∈ bl s n := by rw [e]; simp
      have h1 := lb_max (mem_bl.mp hy)
      have h2 := (List.pairwise_append.mp srt).2.1
      rw [List.pairwise_cons] at h2
      have := h2.1 y (by simp)
      omega
  rw [e]
  rfl
end Per
/-! Words and their order, least words (smaller than their own ends), their cuts. Plain. -/
namespace Lyn
variable {s : Nat → Nat} {a b c d e f n p k : Nat}
/-- the sign at a place -/
def sg (l : List Nat) (i : Nat) : Nat := l.getD i 0
theorem sg_cons0 {x : Nat} {l : List Nat} : sg (x :: l) 0 = x := rfl
theorem sg_cons {x i : Nat} {l : List Nat} : sg (x :: l) (i + 1) = sg l i := rfl
/-- the order of lists by places -/
theorem lt_iff : ∀ u v : List Nat, u < v ↔ ((u.length < v.length ∧ ∀ j, j < u.length → sg u j = sg v j) ∨ ∃ i, i < u.length ∧ i < v.length ∧ (∀ j, j < i → sg u j = sg v j) ∧ sg u i < sg v i) := by
  intro u
  induction u with
  | nil =>
    intro v
    cases v with
    | nil => simp
    | cons y v => simp
  | cons x u ih =>
    intro v
    cases v with
    | nil => simp
    | cons y v =>
      rw [List.cons_lt_cons_iff, ih v]
      constructor
      · rintro (h | ⟨rfl, ⟨h1, h2⟩ | ⟨i, h1, h2, h3, h4⟩⟩)
        · exact .inr ⟨0, by simp, by simp, fun j hj => absurd hj (Nat.not_lt_zero j), h⟩
        · refine .inl ⟨by simpa using h1, fun j hj => ?_⟩
          cases j with
          | zero => rfl
          | succ j => exact h2 j (by simpa using hj)
        · refine .inr ⟨i + 1, by simpa using h1, by simpa using h2, fun j hj => ?_, h4⟩
          cases j with
          | zero => rfl
          | succ j => exact h3 j (by omega)
      · rintro (⟨h1, h2⟩ | ⟨i, h1, h2, h3, h4⟩)
        · have e : x = y := h2 0 (by simp)
          exact .inr ⟨e, .inl ⟨by simpa using h1, fun j hj => h2 (j + 1) (by simpa using hj)⟩⟩
        · cases i with
          | zero => exact .inl h4
          | succ i =>
            have e : x = y := h3 0 (by omega)
            exact .inr ⟨e, .inr ⟨i, by simpa using h1, by simpa using h2, fun j hj => h3 (j + 1) (by omega), h4⟩⟩
theorem sg_drop (l : List Nat) (a j : Nat) : sg (l.drop a) j = sg l (a + j) := by unfold sg; simp [List.getD_eq_getElem?_getD]
theorem sg_take (l : List Nat) {a j : Nat} (h : j < a) : sg (l.take a) j = sg l j := by unfold sg; simp [List.getD_eq_getElem?_getD, List.getElem?_take, h]
theorem sg_app1 (l m : List Nat) {j : Nat} (h : j < l.length) : sg (l ++ m) j = sg l j := by unfold sg; simp [List.getD_eq_getElem?_getD, List.getElem?_append_left h]
theorem sg_app2 (l m : List Nat) {j : Nat} (h : l.length ≤ j) : sg (l ++ m) j = sg m (j - l.length) := by unfold sg; simp [List.getD_eq_getElem?_getD, List.getElem?_append_right h]
theorem ext_sg {l m : List Nat} (hl : l.length = m.length) (h : ∀ j, j < l.length → sg l j = sg m j) : l = m := by
  apply List.ext_getElem hl
  intro i h1 h2
  have := h i h1
  unfold sg at this
  simpa [List.getD_eq_getElem?_getD, h1, h2] using this
theorem le_total' (u v : List Nat) (h : ¬ u < v) : v ≤ u := by simpa using h
/-- the part from a to ahead of b -/
def fac (l : List Nat) (a b : Nat) : List Nat := (l.drop a).take (b - a)
theorem fac_len {l : List Nat} (h : b ≤ l.length) : (fac l a b).length = b - a := by unfold fac; simp; omega
theorem fac_sg {l : List Nat} {j : Nat} (h : a + j < b) : sg (fac l a b) j = sg l (a + j) := by
  unfold fac
  rw [sg_take _ (by omega), sg_drop]
/-- [a, b) is smaller than [c, d) -/
theorem fac_lt {l : List Nat} (hb : b ≤ l.length) (hd : d ≤ l.length) : fac l a b < fac l c d ↔ ((b - a < d - c ∧ ∀ j, j < b - a → sg l (a + j) = sg l (c + j)) ∨ ∃ i, a + i < b ∧ c + i < d ∧ (∀ j, j < i → sg l (a + j) = sg l (c + j)) ∧ sg l (a + i) < sg l (c + i)) := by
  rw [lt_iff, fac_len hb, fac_len hd]
  constructor
  · rintro (⟨h1, h2⟩ | ⟨i, h1, h2, h3, h4⟩)
    · refine .inl ⟨h1, fun j hj => ?_⟩
      have := h2 j hj
      rwa [fac_sg (by omega), fac_sg (by omega)] at this
    · refine .inr ⟨i, by omega, by omega, fun j hj => ?_, ?_⟩
      · have := h3 j hj
        rwa [fac_sg (by omega), fac_sg (by omega)] at this
      · rwa [fac_sg (by omega), fac_sg (by omega)] at h4
  · rintro (⟨h1, h2⟩ | ⟨i, h1, h2, h3, h4⟩)
    · refine .inl ⟨h1, fun j hj => ?_⟩
      rw [fac_sg (by omega), fac_sg (by omega)]
      exact h2 j hj
    · refine .inr ⟨i, by omega, by omega, fun j hj => ?_, ?_⟩
      · rw [fac_sg (by omega), fac_sg (by omega)]
        exact h3 j hj
      · rw [fac_sg (by omega), fac_sg (by omega)]
        exact h4
/-- [b, e) is smaller than each of its own ends -/
def Ly (s : Nat → Nat) (b e : Nat) : Prop := b < e ∧ ∀ k, b < k → k < e → ∃ i, k + i < e ∧ (∀ j, j < i → s (b + j) = s (k + j)) ∧ s (b + i) < s (k + i)
theorem Ly.one : Ly s b (b + 1) := ⟨by omega, fun k h1 h2 => by omega⟩
/-- two least words, the first smaller: together a least word -/
theorem Ly.cat (h1 : Ly s b e) (h2 : Ly s e f) (lt : (e - b < f - e ∧ ∀ j, j < e - b → s (b + j) = s (e + j)) ∨ ∃ i, b + i < e ∧ e + i < f ∧ (∀ j, j < i → s (b + j) = s (e + j)) ∧ s (b + i) < s (e + i)) : Ly s b f := by
  have he := h1.1
  have hf := h2.1
  -- the whole is smaller than its part from e
  have key : ∃ i, e + i < f ∧ (∀ j, j < i → s (b + j) = s (e + j)) ∧ s (b + i) < s (e + i) := by
    rcases lt with ⟨l1, l2⟩ | ⟨i, i1, i2, i3, i4⟩
    · obtain ⟨i, i1, i2, i3⟩ := h2.2 (e + (e - b)) (by omega) (by omega)
      refine ⟨e - b + i, by omega, fun j hj => ?_, ?_⟩
      · by_cases g : j < e - b
        · exact l2 j g
        · have := i2 (j - (e - b)) (by omega)
          rw [show e + (j - (e - b)) = b + j by omega, show e + (e - b) + (j - (e - b)) = e + j by omega] at this
          exact this
      · rw [show b + (e - b + i) = e + i by omega, show e + (e - b + i) = e + (e - b) + i by omega]
        exact i3
    · exact ⟨i, i2, i3, i4⟩
  refine ⟨by omega, fun k k1 k2 => ?_⟩
  by_cases g : k < e
  · obtain ⟨i, i1, i2, i3⟩ := h1.2 k k1 g
    exact ⟨i, by omega, i2, i3⟩
  · by_cases g2 : k = e
    · subst g2; exact key
    · obtain ⟨i, i1, i2, i3⟩ := h2.2 k (by omega) k2
      obtain ⟨t, t1, t2, t3⟩ := key
      by_cases c1 : i < t
      · exact ⟨i, i1, fun j hj => (t2 j (by omega)).trans (i2 j hj), by rw [t2 i c1]; exact i3⟩
      · by_cases c2 : i = t
        · subst c2
          exact ⟨i, i1, fun j hj => (t2 j hj).trans (i2 j hj), Nat.lt_trans t3 i3⟩
        · exact ⟨t, by omega, fun j hj => (t2 j hj).trans (i2 j (by omega)), by rw [← i2 t (by omega)]; exact t3⟩
/-- the period p holds from b to n -/
def Pd (s : Nat → Nat) (b p n : Nat) : Prop := ∀ i, b + p ≤ i → i < n → s i = s (i - p)
theorem Pd.mul (h : Pd s b p n) : ∀ q i, b + q * p ≤ i → i < n → s i = s (i - q * p) := by
  intro q
  induction q with
  | zero => intro i _ _; simp
  | succ q ih =>
    intro i h1 h2
    have e : (q + 1) * p = q * p + p := Nat.succ_mul q p
    rw [e] at h1 ⊢
    rw [h i (by omega) h2, ih (i - p) (by omega) (by omega)]
    congr 1
    omega
/-- a greater sign behind the periods: a least word -/
theorem Ly.grow (h : Ly s b (b + p)) (q : Pd s b p n) (hn : b + p ≤ n) (g : s (n - p) < s n) : Ly s b (n + 1) := by
  have hp : 0 < p := by have := h.1; omega
  refine ⟨by omega, fun k k1 k2 => ?_⟩
  obtain ⟨t, r, hr, hk⟩ : ∃ t r, r < p ∧ k = b + t * p + r := ⟨(k - b) / p, (k - b) % p, Nat.mod_lt _ hp, by
    have := Nat.div_add_mod (k - b) p
    rw [Nat.mul_comm] at this
    omega⟩
  by_cases h0 : r = 0
  · subst h0
    have ht : 0 < t := by
      cases t with
      | zero => simp at hk; omega
      | succ t => omega
    refine ⟨n - k, by omega, fun j hj => ?_, ?_⟩
    · have := q.mul t (k + j) (by omega) (by omega)
      rw [this]; congr 1; omega
    · have e1 : k + (n - k) = n := by omega
      have e2 : s (b + (n - k)) = s (n - p) := by
        cases t with
        | zero => omega
        | succ t =>
          have e : (t + 1) * p = t * p + p := Nat.succ_mul t p
          have := q.mul t (n - p) (by omega) (by omega)
          rw [this]; congr 1; omega
      rw [e1, e2]; exact g
  · obtain ⟨i, i1, i2, i3⟩ := h.2 (b + r) (by omega) (by omega)
    have sh : ∀ j, k + j < n → s (k + j) = s (b + r + j) := fun j hj => by
      rw [q.mul t (k + j) (by omega) hj]; congr 1; omega
    by_cases c1 : k + i < n
    · exact ⟨i, by omega, fun j hj => (i2 j hj).trans (sh j (by omega)).symm, by rw [sh i c1]; exact i3⟩
    · have ht : 0 < t := by
        cases t with
        | zero => simp at hk; omega
        | succ t => omega
      refine ⟨n - k, by omega, fun j hj => (i2 j (by omega)).trans (sh j (by omega)).symm, ?_⟩
      have e1 : k + (n - k) = n := by omega
      have e2 : s (b + r + (n - k)) = s (n - p) := by
        cases t with
        | zero => omega
        | succ t =>
          have e : (t + 1) * p = t * p + p := Nat.succ_mul t p
          have := q.mul t (n - p) (by omega) (by omega)
          rw [this]; congr 1; omega
      have e3 : s (b + (n - k)) ≤ s (b + r + (n - k)) := by
        by_cases c2 : n - k < i
        · exact Nat.le_of_eq (i2 _ c2)
        · have : n - k = i := by omega
          rw [this]; exact Nat.le_of_lt i3
      rw [e1]
      omega
/-- [b, e) is the longest least word from b on, ahead of n -/
def Nx (s : Nat → Nat) (n b e : Nat) : Prop := Ly s b e ∧ e ≤ n ∧ ∀ f, e < f → f ≤ n → ¬ Ly s b f
theorem Nx.one_of (h : Nx s n b e) (k : Nx s n b f) : e = f := by
  by_cases c1 : e < f
  · exact absurd k.1 (h.2.2 f c1 k.2.1)
  · by_cases c2 : f < e
    · exact absurd h.1 (k.2.2 e c2 h.2.1)
    · omega
theorem Nx.ex (h : b < n) : ∃ e, Nx s n b e := by
  have key : ∀ m, m ≤ n - b → (∃ e, Nx s n b e) ∨ ∀ f, n - m < f → f ≤ n → ¬ Ly s b f := by
    intro m
    induction m with
    | zero => intro _; exact .inr fun f h1 h2 => by omega
    | succ m ih =>
      intro hm
      rcases ih (by omega) with h1 | h1
      · exact .inl h1
      · by_cases g : Ly s b (n - m)
        · exact .inl ⟨n - m, g, by omega, h1⟩
        · refine .inr fun f f1 f2 => ?_
          by_cases c : f = n - m
          · subst c; exact g
          · exact h1 f (by omega) f2
  rcases key (n - b) (Nat.le_refl _) with h1 | h1
  · exact h1
  · exact absurd Ly.one (h1 (b + 1) (by omega) (by omega))
/-- Duval's step: the periods behind the least word -/
theorem Nx.of_pd (h : Ly s b (b + p)) (q : Pd s b p c) (hc : b + p ≤ c) (hn : c ≤ n) (e : c = n ∨ s c < s (c - p)) (t : Nat) (ht : b + (t + 1) * p ≤ c) : Nx s n (b + t * p) (b + (t + 1) * p) := by
  have hp : 0 < p := by have := h.1; omega
  have em : (t + 1) * p = t * p + p := Nat.succ_mul t p
  have sh : ∀ i, b + t * p + i < c → s (b + t * p + i) = s (b + i) := fun i hi => by
    rw [q.mul t _ (by omega) hi]; congr 1; omega
  refine ⟨⟨by omega, fun k k1 k2 => ?_⟩, by omega, fun f f1 f2 hf => ?_⟩
  · obtain ⟨i, i1, i2, i3⟩ := h.2 (k - t * p) (by omega) (by omega)
    have sk : ∀ j, k + j < b + (t + 1) * p → s (k + j) = s (k - t * p + j) := fun j hj => by
      have := sh (k - b - t * p + j) (by omega)
      rw [show b + t * p + (k - b - t * p + j) = k + j by omega, show b + (k - b - t * p + j) = k - t * p + j by omega] at this
      exact this
    refine ⟨i, by omega, fun j hj => ?_, ?_⟩
    · rw [sh j (by omega), sk j (by omega)]; exact i2 j hj
    · rw [sh i (by omega), sk i (by omega)]; exact i3
  · obtain ⟨i, i1, i2, i3⟩ := hf.2 (b + (t + 1) * p) (by omega) f1
    have eq : ∀ j, b + (t + 1) * p + j < c → s (b + t * p + j) = s (b + (t + 1) * p + j) := fun j hj => by
      rw [q (b + (t + 1) * p + j) (by omega) hj]; congr 1; omega
    by_cases c1 : b + (t + 1) * p + i < c
    · rw [eq i c1] at i3; omega
    · rcases e with e | e
      · omega
      · have i0 : c - (b + (t + 1) * p) ≤ i := by omega
        have e1 : b + (t + 1) * p + (c - (b + (t + 1) * p)) = c := by omega
        have e2 : b + t * p + (c - (b + (t + 1) * p)) = c - p := by omega
        by_cases c2 : c - (b + (t + 1) * p) < i
        · have := i2 _ c2
          rw [e1, e2] at this; omega
        · have : i = c - (b + (t + 1) * p) := by omega
          rw [this, e1, e2] at i3; omega
/-- the longest least word is the one cut that goes on not rising -/
theorem Nx.keep {l : List Nat} (h : Nx (sg l) l.length b e) (h2 : Nx (sg l) l.length e f) : ¬ fac l b e < fac l e f := fun lt => by
  have := h.1.cat h2.1 ((fac_lt h.2.1 h2.2.1).mp lt)
  exact h.2.2 f h2.1.1 h2.2.1 this
theorem Nx.short {l : List Nat} {m : Nat} (h : Nx (sg l) l.length b m) (h1 : Ly (sg l) b e) (he : e < m) : ∀ (r f g : Nat), m - f ≤ r → e ≤ f → f < m → Nx (sg l) l.length f g → fac l b e < fac l f g := by
  have hm := h.2.1
  have hb := h1.1
  intro r
  induction r with
  | zero => intro f g h1 h2 h3; omega
  | succ r ih =>
    intro f g hr hf hfm hx
    have hg := hx.2.1
    have hfg := hx.1.1
    by_cases c : m ≤ g
    · obtain ⟨i, i1, i2, i3⟩ := h.1.2 f (by omega) hfm
      rw [fac_lt (by omega) hg]
      by_cases c2 : b + i < e
      · exact .inr ⟨i, c2, by omega, i2, i3⟩
      · exact .inl ⟨by omega, fun j hj => i2 j (by omega)⟩
    · obtain ⟨g2, hg2⟩ := Nx.ex (s := sg l) (n := l.length) (b := g) (by omega)
      have k1 := ih g g2 (by omega) (by omega) (by omega) hg2
      have k2 := hx.keep hg2
      by_cases z : fac l b e < fac l f g
      · exact z
      · have z1 : fac l f g ≤ fac l b e := le_total' _ _ z
        have z2 : fac l g g2 ≤ fac l f g := le_total' _ _ k2
        exact absurd k1 (by simpa using List.le_trans z2 z1)
/-! ### least words, told by lists -/
def lyB (l : List Nat) (b e : Nat) : Bool := decide (b < e) && (List.range (e - b - 1)).all fun i => decide (fac l b e < fac l (b + 1 + i) e)
theorem lyB_iff {l : List Nat} (he : e ≤ l.length) : lyB l b e = true ↔ Ly (sg l) b e := by
  unfold lyB Ly
  rw [Bool.and_eq_true, decide_eq_true_eq, List.all_eq_true]
  constructor
  · rintro ⟨h1, h2⟩
    refine ⟨h1, fun k k1 k2 => ?_⟩
    have := of_decide_eq_true (h2 (k - b - 1) (List.mem_range.mpr (by omega)))
    rw [show b + 1 + (k - b - 1) = k by omega, fac_lt he he] at this
    rcases this with ⟨z, _⟩ | ⟨i, i1, i2, i3, i4⟩
    · omega
    · exact ⟨i, i2, i3, i4⟩
  · rintro ⟨h1, h2⟩
    refine ⟨h1, fun i hi => decide_eq_true ?_⟩
    have hi2 := List.mem_range.mp hi
    obtain ⟨t, t1, t2, t3⟩ := h2 (b + 1 + i) (by omega) (by omega)
    rw [fac_lt he he]
    exact .inr ⟨t, by omega, t1, t2, t3⟩
def nxB (l : List Nat) (b e : Nat) : Bool := lyB l b e && decide (e ≤ l.length) && (List.range (l.length - e)).all fun i => !lyB l b (e + 1 + i)
theorem nxB_iff {l : List Nat} : nxB l b e = true → Nx (sg l) l.length b e := by
  unfold nxB Nx
  rw [Bool.and_eq_true, Bool.and_eq_true, decide_eq_true_eq, List.all_eq_true]
  rintro ⟨⟨h1, h2⟩, h3⟩
  refine ⟨(lyB_iff h2).mp h1, h2, fun f f1 f2 h => ?_⟩
  have := h3 (f - e - 1) (List.mem_range.mpr (by omega))
  rw [show e + 1 + (f - e - 1) = f by omega, (lyB_iff f2).mpr h] at this
  cases this
/-- the cuts from b on -/
inductive Cut (l : List Nat) : Nat → List (List Nat) → Prop where
  | nil : Cut l l.length []
  | cons {b e : Nat} {fs : List (List Nat)} : Nx (sg l) l.length b e → Cut l e fs → Cut l b (fac l b e :: fs)
theorem Cut.le {l : List Nat} {fs : List (List Nat)} (h : Cut l b fs) : b ≤ l.length := by
  cases h with
  | nil => exact Nat.le_refl _
  | cons h _ => have := h.1.1; have := h.2.1; omega
theorem Cut.one {l : List Nat} {fs gs : List (List Nat)} (h : Cut l b fs) (k : Cut l b gs) : fs = gs := by
  induction h generalizing gs with
  | nil =>
    cases k with
    | nil => rfl
    | cons h _ => have := h.1.1; have := h.2.1; omega
  | cons h _ ih =>
    cases k with
    | nil => have := h.1.1; have := h.2.1; omega
    | cons h2 k =>
      have e := h.one_of h2
      subst e
      rw [ih k]
theorem Ly.shift : Ly (fun j => s (a + j)) b e ↔ Ly s (a + b) (a + e) := by
  constructor
  · rintro ⟨h1, h2⟩
    refine ⟨by omega, fun k k1 k2 => ?_⟩
    obtain ⟨i, i1, i2, i3⟩ := h2 (k - a) (by omega) (by omega)
    have e : ∀ j, a + (k - a + j) = k + j := fun j => by omega
    refine ⟨i, by omega, fun j hj => ?_, ?_⟩
    · have := i2 j hj
      dsimp only at this
      rw [e, ← Nat.add_assoc] at this
      exact this
    · dsimp only at i3
      rw [e, ← Nat.add_assoc] at i3
      exact i3
  · rintro ⟨h1, h2⟩
    refine ⟨by omega, fun k k1 k2 => ?_⟩
    obtain ⟨i, i1, i2, i3⟩ := h2 (a + k) (by omega) (by omega)
    refine ⟨i, by omega, fun j hj => ?_, ?_⟩
    · have := i2 j hj
      rw [Nat.add_assoc, Nat.add_assoc] at this
      exact this
    · rw [Nat.add_assoc, Nat.add_assoc] at i3
      exact i3
theorem Nx.shift {l : List Nat} (ha : a ≤ l.length) : Nx (sg (l.drop a)) (l.drop a).length b e ↔ Nx (sg l) l.length (a + b) (a + e) := by
  have es : sg (l.drop a) = fun j => sg l (a + j) := funext fun j => sg_drop l a j
  rw [es, List.length_drop]
  unfold Nx
  constructor
  · rintro ⟨h1, h2, h3⟩
    refine ⟨Ly.shift.mp h1, by omega, fun f f1 f2 h => ?_⟩
    refine h3 (f - a) (by omega) (by omega) (Ly.shift.mpr ?_)
    rw [show a + (f - a) = f by omega]
    exact h
  · rintro ⟨h1, h2, h3⟩
    exact ⟨Ly.shift.mpr h1, by omega, fun f f1 f2 h => h3 (a + f) (by omega) (by omega) (Ly.shift.mp h)⟩
theorem fac_drop {l : List Nat} : fac (l.drop a) b e = fac l (a + b) (a + e) := by
  unfold fac
  rw [List.drop_drop, show a + e - (a + b) = e - b by omega]
theorem Cut.shift {l : List Nat} {fs : List (List Nat)} (ha : a ≤ l.length) (h : Cut (l.drop a) b fs) : Cut l (a + b) fs := by
  generalize hm : l.drop a = m at h
  induction h with
  | nil =>
    subst hm
    rw [List.length_drop, show a + (l.length - a) = l.length by omega]
    exact .nil
  | cons h _ ih =>
    subst hm
    rw [fac_drop]
    exact .cons ((Nx.shift ha).mp h) ih
/-! ### periods and turns -/
/-- the length of a word's root -/
def rootN (l : List Nat) : Nat := if l.length % (l.length - Per.lb (sg l) l.length) = 0 then l.length - Per.lb (sg l) l.length else l.length
/-- two borders' periods that fit together: their difference is one -/
theorem bd_sub {x y : Nat} (h1 : Per.Bd s n (n - x)) (h2 : Per.Bd s n (n - y)) (hx : 0 < x) (lt : x < y) (hxy : x + y ≤ n) : Per.Bd s n (n - (y - x)) := by
  refine ⟨by omega, fun i hi => ?_⟩
  have p1 : ∀ i, i + x < n → s i = s (i + x) := fun i hi => by
    have := h1.2 i (by omega)
    rw [this]; congr 1; omega
  have p2 : ∀ i, i + y < n → s i = s (i + y) := fun i hi => by
    have := h2.2 i (by omega)
    rw [this]; congr 1; omega
  rw [show n - (n - (y - x)) + i = i + (y - x) by omega]
  by_cases c : i + y < n
  · have a1 := p2 i c
    have a2 := p1 (i + (y - x)) (by omega)
    rw [show i + (y - x) + x = i + y by omega] at a2
    rw [a1, a2]
  · have a1 := p1 (i - x) (by omega)
    have a2 := p2 (i - x) (by omega)
    rw [show i - x + x = i by omega] at a1
    rw [show i - x + y = i + (y - x) by omega] at a2
    rw [← a1, a2]
/-- the least period goes into every period that leaves it room -/
theorem per_dvd {P : Nat} (hP : P = n - Per.lb s n) (h0 : 0 < n) : ∀ (y : Nat), 0 < y → P + y ≤ n → Per.Bd s n (n - y) → P ∣ y := by
  have hlt := Per.lb_lt (s := s) h0
  have hb : Per.Bd s n (n - P) := by
    have := Per.lb_bd (s := s) h0
    rw [show n - P = Per.lb s n by omega]
    exact this
  intro y
  induction y using Nat.strongRecOn with
  | _ y ih =>
    intro y0 hy h
    have := Per.lb_max h
    by_cases c : y = P
    · rw [c]; exact Nat.dvd_refl _
    · have h2 := bd_sub hb h (by omega) (by omega) (by omega)
      have := ih (y - P) (by omega) (by omega) (by omega) h2
      have e : y = (y - P) + P := by omega
      rw [e]
      exact Nat.dvd_add this (Nat.dvd_refl _)
/-- a least word is smaller than its turns, and no power -/
theorem ly_iff {l : List Nat} (h0 : 0 < l.length) : Ly (sg l) 0 l.length ↔ ((∀ i, 0 < i → i < l.length → ¬ (l.drop i ++ l.take i) < l) ∧ rootN l = l.length) := by
  have rl : ∀ i, i < l.length → (l.drop i ++ l.take i).length = l.length := fun i hi => by simp; omega
  have r1 : ∀ i j, i + j < l.length → sg (l.drop i ++ l.take i) j = sg l (i + j) := fun i j hj => by
    rw [sg_app1 _ _ (by simp; omega), sg_drop]
  have r2 : ∀ i j, i < l.length → j < i → sg (l.drop i ++ l.take i) (l.length - i + j) = sg l j := fun i j hi hj => by
    rw [sg_app2 _ _ (by simp), List.length_drop, show l.length - i + j - (l.length - i) = j by omega, sg_take _ hj]
  have hlt := Per.lb_lt (s := sg l) h0
  constructor
  · intro h
    refine ⟨fun i i0 i1 lt => ?_, ?_⟩
    · obtain ⟨t, t1, t2, t3⟩ := h.2 i i0 i1
      rw [lt_iff, rl i i1] at lt
      rcases lt with ⟨z, _⟩ | ⟨u, u1, _, u3, u4⟩
      · omega
      · by_cases c : u < t
        · have := t2 u c
          rw [r1 i u (by omega)] at u4
          rw [Nat.zero_add] at this
          omega
        · by_cases c2 : u = t
          · subst c2
            rw [r1 i u (by omega)] at u4
            rw [Nat.zero_add] at t3
            omega
          · have := u3 t (by omega)
            rw [r1 i t (by omega)] at this
            rw [Nat.zero_add] at t3
            omega
    · unfold rootN
      split
      · rename_i hz
        by_cases c : Per.lb (sg l) l.length = 0
        · omega
        · obtain ⟨i, i1, i2, i3⟩ := h.2 (l.length - Per.lb (sg l) l.length) (by omega) (by omega)
          have := (Per.lb_bd (s := sg l) h0).2 i (by omega)
          rw [Nat.zero_add] at i3
          omega
      · rfl
  · rintro ⟨h1, h2⟩
    refine ⟨h0, fun k k1 k2 => ?_⟩
    apply Classical.byContradiction
    intro hno
    -- no place where the word differs below its end from k on
    have eq : ∀ j, k + j < l.length → sg l j = sg l (k + j) := by
      intro j
      induction j using Nat.strongRecOn with
      | _ j ih =>
        intro hj
        have pre : ∀ t, t < j → sg l t = sg l (k + t) := fun t ht => ih t ht (by omega)
        apply Classical.byContradiction
        intro hne
        by_cases c : sg l j < sg l (k + j)
        · exact hno ⟨j, hj, fun t ht => by rw [Nat.zero_add]; exact pre t ht, by rw [Nat.zero_add]; exact c⟩
        · refine h1 k k1 k2 ?_
          rw [lt_iff, rl k k2]
          refine .inr ⟨j, by omega, by omega, fun t ht => ?_, ?_⟩
          · rw [r1 k t (by omega)]; exact (pre t ht).symm
          · rw [r1 k j hj]; omega
    have eq2 : ∀ j, j < k → sg l j = sg l (l.length - k + j) := by
      intro j
      induction j using Nat.strongRecOn with
      | _ j ih =>
        intro hj
        have pre : ∀ t, t < j → sg l t = sg l (l.length - k + t) := fun t ht => ih t ht (by omega)
        apply Classical.byContradiction
        intro hne
        by_cases c : sg l j < sg l (l.length - k + j)
        · -- the turn by k is smaller
          refine h1 k k1 k2 ?_
          rw [lt_iff, rl k k2]
          refine .inr ⟨l.length - k + j, by omega, by omega, fun t ht => ?_, ?_⟩
          · by_cases g : k + t < l.length
            · rw [r1 k t g]; exact (eq t g).symm
            · obtain ⟨u, rfl⟩ : ∃ u, t = l.length - k + u := ⟨t - (l.length - k), by omega⟩
              rw [r2 k u k2 (by omega)]
              exact pre u (by omega)
          · rw [r2 k j k2 hj]; exact c
        · refine h1 (l.length - k) (by omega) (by omega) ?_
          rw [lt_iff, rl _ (by omega)]
          refine .inr ⟨j, by omega, by omega, fun t ht => ?_, ?_⟩
          · rw [r1 _ t (by omega)]; exact (pre t ht).symm
          · rw [r1 _ j (by omega)]; omega
    have b1 : Per.Bd (sg l) l.length (l.length - k) := ⟨by omega, fun i hi => by
      rw [show l.length - (l.length - k) + i = k + i by omega]
      exact eq i (by omega)⟩
    have b2 : Per.Bd (sg l) l.length k := ⟨k2, eq2⟩
    have m1 := Per.lb_max b1
    have m2 := Per.lb_max b2
    have d1 := per_dvd (s := sg l) (n := l.length) rfl h0 k k1 (by omega) b1
    have d2 := per_dvd (s := sg l) (n := l.length) rfl h0 (l.length - k) (by omega) (by omega) (by rw [show l.length - (l.length - k) = k by omega]; exact b2)
    have d3 : (l.length - Per.lb (sg l) l.length) ∣ l.length := by
      have := Nat.dvd_add d1 d2
      rwa [show k + (l.length - k) = l.length by omega] at this
    unfold rootN at h2
    rw [if_pos (Nat.mod_eq_zero_of_dvd d3)] at h2
    omega
theorem fac_all {l : List Nat} : fac l b l.length = l.drop b := by
  unfold fac
  exact List.take_of_length_le (by simp)
theorem lyB_all (l : List Nat) : lyB l 0 l.length = (decide (l ≠ []) && (List.range (l.length - 1)).all fun i => decide (l < l.drop (1 + i))) := by
  unfold lyB
  rw [Nat.sub_zero]
  congr 1
  · cases l <;> simp
  · congr 1
    funext i
    rw [fac_all, fac_all, List.drop_zero, Nat.zero_add]
theorem Ly.take {l : List Nat} (he : e ≤ c) : Ly (sg (l.take c)) b e ↔ Ly (sg l) b e := by
  have key : ∀ j, j < e → sg (l.take c) j = sg l j := fun j hj => sg_take l (by omega)
  unfold Ly
  constructor
  · rintro ⟨h1, h2⟩
    refine ⟨h1, fun k k1 k2 => ?_⟩
    obtain ⟨i, i1, i2, i3⟩ := h2 k k1 k2
    exact ⟨i, i1, fun j hj => by rw [← key _ (by omega), ← key _ (by omega)]; exact i2 j hj, by rw [← key _ (by omega), ← key _ (by omega)]; exact i3⟩
  · rintro ⟨h1, h2⟩
    refine ⟨h1, fun k k1 k2 => ?_⟩
    obtain ⟨i, i1, i2, i3⟩ := h2 k k1 k2
    exact ⟨i, i1, fun j hj => by rw [key _ (by omega), key _ (by omega)]; exact i2 j hj, by rw [key _ (by omega), key _ (by omega)]; exact i3⟩
theorem fac_zero {l : List Nat} : fac l 0 e = l.take e := by unfold fac; rw [List.drop_zero, Nat.sub_zero]
/-- one least word ahead is the first cut, told by the rest's first -/
theorem first_cut {l : List Nat} {m : Nat} {fs : List (List Nat)} (hm : Nx (sg l) l.length 0 m) (he : e ≤ l.length) (h : Ly (sg l) 0 e) (hc : Cut (l.drop e) 0 fs) : (fs = [] ∨ ∃ g gs, fs = g :: gs ∧ ¬ l.take e < g) ↔ e = m := by
  have hc2 := hc.shift he
  rw [Nat.add_zero] at hc2
  constructor
  · intro hx
    by_cases c1 : e < m
    · cases hc2 with
      | nil => have := hm.2.1; omega
      | cons h3 h4 =>
        rcases hx with hx | ⟨g, gs, hx, hn⟩
        · cases hx
        · injection hx with e1 e2
          have := hm.short h c1 (m - e) e _ (Nat.le_refl _) (Nat.le_refl _) c1 h3
          rw [fac_zero, e1] at this
          exact absurd this hn
    · by_cases c2 : m < e
      · exact absurd h (hm.2.2 e c2 he)
      · omega
  · intro e1
    subst e1
    cases hc2 with
    | nil => exact .inl rfl
    | cons h3 h4 =>
      have := hm.keep h3
      rw [fac_zero] at this
      exact .inr ⟨_, _, rfl, this⟩
theorem Cut.mem {l : List Nat} {fs : List (List Nat)} (h : Cut l b fs) : ∀ w, w ∈ fs → ∀ c, c ∈ w → c ∈ l := by
  induction h with
  | nil => intro w hw; cases hw
  | cons _ _ ih =>
    intro w hw c hc
    rcases List.mem_cons.mp hw with e | hw
    · subst e
      exact List.mem_of_mem_drop (List.mem_of_mem_take hc)
    · exact ih w hw c hc
theorem Cut.len {l : List Nat} {fs : List (List Nat)} (h : Cut l b fs) : fs.length + b ≤ l.length := by
  induction h with
  | nil => simp
  | cons h _ ih => have := h.1.1; rw [List.length_cons]; omega
end Lyn
/-! Borders, periods and powers of words, told by parts of the word. Plain. -/
namespace PerW
open Lyn (sg rootN)
open My (repL repL_len)
theorem bd_take {l : List Nat} {b : Nat} (hb : b < l.length) : l.take b = l.drop (l.length - b) ↔ Per.Bd (sg l) l.length b := by
  have e1 : (l.take b).length = b := by rw [List.length_take]; omega
  have e2 : (l.drop (l.length - b)).length = b := by rw [List.length_drop]; omega
  constructor
  · intro h
    refine ⟨hb, fun i hi => ?_⟩
    have := congrArg (fun m => sg m i) h
    rwa [Lyn.sg_take l hi, Lyn.sg_drop] at this
  · rintro ⟨_, h⟩
    refine Lyn.ext_sg (by rw [e1, e2]) fun i hi => ?_
    rw [e1] at hi
    rw [Lyn.sg_take l hi, Lyn.sg_drop]
    exact h i hi
/-- the period p holds -/
theorem bd_per {l : List Nat} {p : Nat} (h0 : 0 < p) (hp : p ≤ l.length) : Per.Bd (sg l) l.length (l.length - p) ↔ ∀ i, i + p < l.length → sg l i = sg l (i + p) := by
  constructor
  · rintro ⟨_, h⟩ i hi
    have := h i (by omega)
    rw [this]; congr 1; omega
  · intro h
    refine ⟨by omega, fun i hi => ?_⟩
    rw [h i (by omega)]; congr 1; omega
theorem mem_pl {s : Nat → Nat} {n x : Nat} : x ∈ Per.pl s n ↔ 0 < x ∧ x ≤ n ∧ Per.Bd s n (n - x) := by
  unfold Per.pl
  rw [List.mem_reverse, List.mem_map]
  constructor
  · rintro ⟨b, hb, rfl⟩
    have h := Per.mem_bl.mp hb
    have h1 := h.1
    exact ⟨by omega, by omega, by rw [show n - (n - b) = b by omega]; exact h⟩
  · rintro ⟨h1, h2, h3⟩
    exact ⟨n - x, Per.mem_bl.mpr h3, by omega⟩
theorem sorted_eq : ∀ (as bs : List Nat), as.Pairwise (· < ·) → bs.Pairwise (· < ·) → (∀ x, x ∈ as ↔ x ∈ bs) → as = bs
  | [], [], _, _, _ => rfl
  | [], b :: bs, _, _, h => absurd ((h b).mpr List.mem_cons_self) List.not_mem_nil
  | a :: as, [], _, _, h => absurd ((h a).mp List.mem_cons_self) List.not_mem_nil
  | a :: as, b :: bs, pa, pb, h => by
    have qa := List.pairwise_cons.mp pa
    have qb := List.pairwise_cons.mp pb
    have e : a = b := by
      rcases List.mem_cons.mp ((h a).mp List.mem_cons_self) with e | e
      · exact e
      · rcases List.mem_cons.mp ((h b).mpr List.mem_cons_self) with e2 | e2
        · exact e2.symm
        · have := qa.1 b e2
          have := qb.1 a e
          omega
    subst e
    rw [sorted_eq as bs qa.2 qb.2 fun x => ?_]
    constructor
    · intro hx
      rcases List.mem_cons.mp ((h x).mp (List.mem_cons_of_mem _ hx)) with e | e
      · have := qa.1 x hx; omega
      · exact e
    · intro hx
      rcases List.mem_cons.mp ((h x).mpr (List.mem_cons_of_mem _ hx)) with e | e
      · have := qb.1 x hx; omega
      · exact e
theorem rows_eq (l : List Nat) (f : Nat → Bool) (hf : ∀ p, 0 < p → p ≤ l.length → (f p = true ↔ ∀ i, i + p < l.length → sg l i = sg l (i + p))) : ((List.range l.length).map fun i => 1 + i).filter f = Per.pl (sg l) l.length := by
  refine sorted_eq _ _ (List.Pairwise.filter _ ?_) Per.pl_sorted fun x => ?_
  · rw [List.pairwise_map]
    exact List.Pairwise.imp (fun h => by omega) List.pairwise_lt_range
  · rw [List.mem_filter, List.mem_map, mem_pl]
    constructor
    · rintro ⟨⟨i, hi, rfl⟩, h⟩
      have hi2 := List.mem_range.mp hi
      exact ⟨by omega, by omega, (bd_per (by omega) (by omega)).mpr ((hf _ (by omega) (by omega)).mp h)⟩
    · rintro ⟨h1, h2, h3⟩
      exact ⟨⟨x - 1, List.mem_range.mpr (by omega), by omega⟩, (hf x h1 h2).mpr ((bd_per h1 h2).mp h3)⟩
/-! powers -/
theorem sg_rep {w : List Nat} : ∀ (k i : Nat), i < k * w.length → sg (repL w k) i = sg w (i % w.length)
  | 0, i, h => by omega
  | k + 1, i, h => by
    have e : (k + 1) * w.length = k * w.length + w.length := Nat.succ_mul k _
    show sg (w ++ repL w k) i = _
    by_cases c : i < w.length
    · rw [Lyn.sg_app1 _ _ c, Nat.mod_eq_of_lt c]
    · rw [Lyn.sg_app2 _ _ (by omega), sg_rep k (i - w.length) (by omega), ← Nat.mod_eq_sub_mod (by omega)]
theorem per_mod {l : List Nat} {d : Nat} (hd : 0 < d) (h : ∀ i, i + d < l.length → sg l i = sg l (i + d)) : ∀ i, i < l.length → sg l i = sg l (i % d) := by
  intro i
  induction i using Nat.strongRecOn with
  | _ i ih =>
    intro hi
    by_cases c : i < d
    · rw [Nat.mod_eq_of_lt c]
    · have := h (i - d) (by omega)
      rw [show i - d + d = i by omega] at this
      rw [← this, ih (i - d) (by omega) (by omega), ← Nat.mod_eq_sub_mod (by omega)]
theorem rep_iff {l : List Nat} {m : Nat} (hl : 0 < l.length) (hm : 1 ≤ m ∧ m ≤ l.length) : repL (l.take (l.length / m)) m = l ↔ m * (l.length / m) = l.length ∧ ∀ i, i + l.length / m < l.length → sg l i = sg l (i + l.length / m) := by
  have hd : 0 < l.length / m := Nat.div_pos hm.2 hm.1
  have hdl : l.length / m ≤ l.length := Nat.div_le_self _ _
  have e1 : (l.take (l.length / m)).length = l.length / m := by rw [List.length_take]; omega
  generalize l.length / m = d at hd hdl e1 ⊢
  constructor
  · intro h
    have hlen := congrArg List.length h
    rw [repL_len, e1] at hlen
    have key : ∀ i, i < l.length → sg l i = sg l (i % d) := fun i hi => by
      have h2 := congrArg (fun z => sg z i) h
      rw [sg_rep m i (by rw [e1]; omega), e1, Lyn.sg_take l (Nat.mod_lt _ hd)] at h2
      exact h2.symm
    exact ⟨hlen, fun i hi => by rw [key i (by omega), key (i + d) hi, Nat.add_mod_right]⟩
  · rintro ⟨h1, h2⟩
    refine Lyn.ext_sg (by rw [repL_len, e1, h1]) fun i hi => ?_
    rw [repL_len, e1, h1] at hi
    rw [sg_rep m i (by rw [e1, h1]; exact hi), e1, Lyn.sg_take l (Nat.mod_lt _ hd)]
    exact (per_mod hd h2 i hi).symm
/-- the root's length goes into the word's -/
theorem rootN_facts {l : List Nat} (hl : 0 < l.length) : 0 < rootN l ∧ rootN l ≤ l.length ∧ l.length / rootN l * rootN l = l.length := by
  have hlt := Per.lb_lt (s := sg l) hl
  unfold Lyn.rootN
  split
  · rename_i h
    refine ⟨by omega, by omega, ?_⟩
    have := Nat.div_add_mod l.length (l.length - Per.lb (sg l) l.length)
    rw [h, Nat.add_zero, Nat.mul_comm] at this
    exact this
  · exact ⟨hl, Nat.le_refl _, by rw [Nat.div_self hl, Nat.one_mul]⟩
theorem most_power {l : List Nat} (hl : 0 < l.length) : repL (l.take (l.length / (l.length / rootN l))) (l.length / rootN l) = l ∧ 1 ≤ l.length / rootN l ∧ l.length / rootN l ≤ l.length ∧ l.length / (l.length / rootN l) = rootN l ∧
    ∀ m, 1 ≤ m → m ≤ l.length → repL (l.take (l.length / m)) m = l → m ≤ l.length / rootN l := by
  obtain ⟨r1, r2, r3⟩ := rootN_facts hl
  have hc : 1 ≤ l.length / rootN l := Nat.div_pos r2 r1
  have hc2 : l.length / rootN l ≤ l.length := Nat.div_le_self _ _
  have hdd : l.length / (l.length / rootN l) = rootN l := Nat.div_eq_of_eq_mul_right hc r3.symm
  have hlt := Per.lb_lt (s := sg l) hl
  have hPb : Per.Bd (sg l) l.length (l.length - (l.length - Per.lb (sg l) l.length)) := by
    rw [show l.length - (l.length - Per.lb (sg l) l.length) = Per.lb (sg l) l.length by omega]
    exact Per.lb_bd hl
  refine ⟨(rep_iff hl ⟨hc, hc2⟩).mpr ⟨by rw [hdd]; exact r3, ?_⟩, hc, hc2, hdd, fun m m1 m2 hm => ?_⟩
  · rw [hdd]
    by_cases c : l.length % (l.length - Per.lb (sg l) l.length) = 0
    · have e : rootN l = l.length - Per.lb (sg l) l.length := by unfold Lyn.rootN; rw [if_pos c]
      rw [e]
      exact (bd_per (by omega) (by omega)).mp hPb
    · have e : rootN l = l.length := by unfold Lyn.rootN; rw [if_neg c]
      rw [e]
      intro i hi
      omega
  · obtain ⟨h1, h2⟩ := (rep_iff hl ⟨m1, m2⟩).mp hm
    have hd : 0 < l.length / m := Nat.div_pos m2 m1
    have hdl : l.length / m ≤ l.length := Nat.div_le_self _ _
    by_cases c1 : m = 1
    · omega
    · have hb := (bd_per hd hdl).mpr h2
      have hmx := Per.lb_max hb
      have h3 : 2 * (l.length / m) ≤ m * (l.length / m) := Nat.mul_le_mul_right _ (by omega)
      have hdv := Lyn.per_dvd (s := sg l) (n := l.length) rfl hl (l.length / m) hd (by omega) hb
      have hdn : (l.length - Per.lb (sg l) l.length) ∣ l.length := by
        exact Nat.dvd_trans hdv ⟨m, by rw [Nat.mul_comm]; exact h1.symm⟩
      have e : rootN l = l.length - Per.lb (sg l) l.length := by unfold Lyn.rootN; rw [if_pos (Nat.mod_eq_zero_of_dvd hdn)]
      rw [e]
      have hle : l.length - Per.lb (sg l) l.length ≤ l.length / m := by omega
      refine (Nat.le_div_iff_mul_le (by omega)).mpr ?_
      exact Nat.le_trans (Nat.mul_le_mul_left m hle) (Nat.le_of_eq h1)
end PerW
/-! All words over the first letters, up to a length. Plain. -/
namespace Wds
/-- the words of m letters over the first n -/
def exact (n : Nat) : Nat → List (List Nat)
  | 0 => [[]]
  | m + 1 => (List.range n).flatMap fun c => (exact n m).map fun w => (97 + c) :: w
def upto (n m : Nat) : List (List Nat) := (List.range (m + 1)).flatMap (exact n)
theorem mem_exact {n : Nat} : ∀ (m : Nat) (l : List Nat), l.length = m → (∀ c ∈ l, 97 ≤ c ∧ c < 97 + n) → l ∈ exact n m
  | 0, l, h, _ => by
    have : l = [] := List.length_eq_zero_iff.mp h
    subst this
    exact List.mem_singleton.mpr rfl
  | m + 1, [], h, _ => by cases h
  | m + 1, c :: l, h, w => by
    have h2 := w c List.mem_cons_self
    refine List.mem_flatMap.mpr ⟨c - 97, List.mem_range.mpr (by omega), List.mem_map.mpr ⟨l, mem_exact m l (by simpa using h) fun d hd => w d (List.mem_cons_of_mem _ hd), ?_⟩⟩
    rw [show 97 + (c - 97) = c by omega]
theorem mem_upto {n m : Nat} {l : List Nat} (h : l.length ≤ m) (w : ∀ c ∈ l, 97 ≤ c ∧ c < 97 + n) : l ∈ upto n m :=
  List.mem_flatMap.mpr ⟨l.length, List.mem_range.mpr (by omega), mem_exact _ l rfl w⟩
end Wds
/-! min of data, comprehensions over zip. -/
namespace My
open PySem PySem.Spec L2 SX
open PyProof.Rows hiding St
section
variable {X : Cx} {H : Hp} {Q : VK} {K : PySem.W.Frag}
/-- min(xs), xs a list of alike data -/
def rMinD (K : PySem.W.Frag) : List V → Hp → VK → Prop := fun vs H Q => ∃ (a : Addr) (xs : List V) (d : PyData) (ds : List PyData), vs = [V.ref a] ∧ SqL K H a xs ∧ DpAll K H xs (d :: ds) ∧ PySem.W.AlikeAll (d :: ds) ∧ SeqAt.shaped (.list (d :: ds)) = true ∧
  ∀ (i : Nat) (v : V), xs[i]? = some v → (d :: ds)[i]? = some (PySem.W.minD d ds) → Q v H
theorem dpAll_len : ∀ {xs : List V} {ds : List PyData}, DpAll K H xs ds → xs.length = ds.length
  | _, _, .nil => rfl
  | _, _, .cons _ t => by rw [List.length_cons, List.length_cons, dpAll_len t]
theorem reads_keep {h h' : Heap} (k : ∀ b o, h.get? b = some o → h'.get? b = some o) {v : Value} {d : PyData} {as : List Addr} (r : Reads h v d as) : Reads h' v d as := PyProof.Rows.Reads.keeps k r
theorem cr_minD (hc : X.calm = true) (hu : X.A.units + 100 < cLine) : CallR X (.builtin "min") (rMinD X.K) := by
  intro pins s σ H vs us Q I r h
  obtain ⟨a, xs, d, ds, rfl, hs, hd, hal, hsh, q⟩ := h
  obtain ⟨its, rv, hl, _⟩ := I.list hs
  rw [Vals.ref1 r]
  obtain ⟨as, hr⟩ := Dp.readsAll I (d :: ds) xs its hd rv
  have hcan : PyData.canLayAll0 (d :: ds) = true := SeqAt.canLay_of_shaped hsh
  have hdep : PyData.depthAll (d :: ds) + 1 ≤ 64 := SeqAt.depth_of_shaped hsh
  refine PySem.W.min_list_data (I.ok.hd hc) hl.isList (vs := its.toArray) (by simpa using hr) hal (by omega) fun i v h' tk bs hv hrd hk => ?_
  have hv2 : its[i]? = some v := by simpa using hv
  have hil : i < its.length := (List.getElem?_eq_some_iff.mp hv2).1
  have hxl : i < xs.length := by rw [rv.length]; exact hil
  obtain ⟨u, hu2, ru⟩ := rv.get (List.getElem?_eq_getElem hxl)
  rw [hv2] at hu2
  cases hu2
  have hdl : i < (d :: ds).length := by rw [← dpAll_len hd]; exact hxl
  have hvd : its[i]? = some v := hv2
  obtain ⟨bs2, r2, _, hm, _⟩ := PySem.W.readsAll_at hr i v hv2
  have hci : ((d :: ds).getD i .none).canLay0 = true := PyData.canLay0_of_mem (d :: ds) _ hcan hm
  have e := PySem.SeqAt.Reads.unique _ _ _ _ _ hci (reads_keep hk r2) hrd
  refine ⟨xs[i], H, I.kept hk, ru, q i _ (List.getElem?_eq_getElem hxl) ?_⟩
  rw [List.getElem?_eq_getElem hdl]
  rw [List.getD_eq_getElem?_getD, List.getElem?_eq_getElem hdl] at e
  exact congrArg some e

/-! ### pairs of a text and an int -/
def ltSI (a b : List Nat × Int) : Bool := decide (a.1 < b.1) || (decide (a.1 = b.1) && decide (a.2 < b.2))
def minSI (a : List Nat × Int) (l : List (List Nat × Int)) : List Nat × Int := l.foldl (fun m y => if ltSI y m then y else m) a
def toSI (a : List Nat × Int) : PyData := dSI a.1 a.2
theorem alikeSI (a b : List Nat × Int) : PySem.W.alike (toSI a) (toSI b) = true := by simp [toSI, dSI, PySem.W.alike, PySem.W.alikeAll]
theorem dataLtSI (a b : List Nat × Int) : PySem.W.dataLt (toSI a) (toSI b) = ltSI a b := by
  unfold toSI dSI ltSI
  rw [PySem.W.dataLt_pair (by simp [PySem.W.alike]) (by simp [PySem.W.alike]), PySem.W.dataLt_int, PySem.W.dataLt_str, eqStr]
  have e : PyData.eqv (.int a.2) (.int b.2) = decide (a.2 = b.2) := by simp only [PyData.eqv]; by_cases e : a.2 = b.2 <;> simp [e]
  rw [e]
  show (if decide (a.1 = b.1) = true then _ else decide (a.1 < b.1)) = _
  by_cases h1 : a.1 = b.1
  · rw [decide_eq_true h1, if_pos rfl, h1]
    have h2 : decide (b.1 < b.1) = false := decide_eq_false (List.lt_irrefl _)
    rw [h2]
    by_cases h3 : a.2 = b.2
    · simp [h3]
    · simp [h3]
  · rw [decide_eq_false h1, if_neg Bool.false_ne_true]
    simp
theorem minSI_D (a : List Nat × Int) : ∀ l : List (List Nat × Int), PySem.W.minD (toSI a) (l.map toSI) = toSI (minSI a l) := by
  intro l
  unfold PySem.W.minD minSI
  induction l generalizing a with
  | nil => rfl
  | cons b l ih =>
    rw [List.map_cons, List.foldl_cons, List.foldl_cons, dataLtSI]
    by_cases h : ltSI b a = true
    · rw [if_pos h, if_pos h]; exact ih b
    · rw [if_neg h, if_neg h]; exact ih a
theorem canSI (a : List Nat × Int) (h : OkW a.1) : (toSI a).canLay0 = true := by
  show (PyData.canLay0 (.str (S a.1)) && (PyData.canLay0 (.int a.2) && true)) = true
  rw [canStr h]; rfl
theorem canAllSI : ∀ l : List (List Nat × Int), (∀ a ∈ l, OkW a.1) → PyData.canLayAll0 (l.map toSI) = true
  | [], _ => rfl
  | a :: l, h => by
    show (PyData.canLay0 (toSI a) && PyData.canLayAll0 (l.map toSI)) = true
    rw [canAllSI l fun b hb => h b (List.mem_cons_of_mem _ hb), canSI a (h a List.mem_cons_self)]; rfl
theorem depAllSI : ∀ l : List (List Nat × Int), PyData.depthAll (l.map toSI) ≤ 1
  | [] => Nat.zero_le _
  | a :: l => by
    show max (PyData.depth (toSI a)) (PyData.depthAll (l.map toSI)) ≤ 1
    have h1 : PyData.depth (toSI a) = 1 := rfl
    have := depAllSI l
    omega
theorem toSI_inj {a b : List Nat × Int} (h : toSI a = toSI b) : a = b := by
  unfold toSI dSI at h
  injection h with h
  injection h with h1 h2
  injection h2 with h2 _
  injection h1 with h1
  injection h2 with h2
  exact Prod.ext (S_inj h1) h2
/-- the list's items: new tuples, as they stand -/
def TupsAt (H : Hp) : List V → List (List Nat × Int) → Prop := Paired fun v a => ∃ t, v = .ref t ∧ H t = some (.tup [.str (S a.1), .int a.2])
theorem dpTups : ∀ {vs : List V} {l : List (List Nat × Int)}, TupsAt H vs l → DpAll K H vs (l.map toSI)
  | _, _, .nil => .nil
  | _, _, .cons ⟨t, e, h⟩ r => by
    subst e
    exact .cons (dpSI (SqT.of h)) (dpTups r)
theorem tups_at {vs : List V} {l : List (List Nat × Int)} (h : TupsAt H vs l) {i : Nat} {v : V} {a : List Nat × Int} (hv : vs[i]? = some v) (ha : l[i]? = some a) : ∃ t, v = .ref t ∧ H t = some (.tup [.str (S a.1), .int a.2]) := by
  induction h generalizing i with
  | nil => simp at hv
  | cons r _ ih =>
    cases i with
    | zero =>
      simp at hv ha
      subst hv ha
      exact r
    | succ i => exact ih (by simpa using hv) (by simpa using ha)
theorem rd_minSI {p : Addr} {vs : List V} {a : List Nat × Int} {l : List (List Nat × Int)} (hs : SqL K H p vs) (ht : TupsAt H vs (a :: l)) (ho : ∀ b ∈ a :: l, OkW b.1)
    (q : ∀ t, H t = some (.tup [.str (S (minSI a l).1), .int (minSI a l).2]) → Q (.ref t) H) : rMinD K [.ref p] H Q := by
  refine ⟨p, vs, toSI a, l.map toSI, rfl, hs, dpTups ht, ⟨?_, ?_⟩, ?_, fun i v hv hd => ?_⟩
  · intro x hx y hy
    have hx2 : x ∈ (a :: l).map toSI := hx
    have hy2 : y ∈ (a :: l).map toSI := hy
    obtain ⟨b, _, rfl⟩ := List.mem_map.mp hx2
    obtain ⟨c, _, rfl⟩ := List.mem_map.mp hy2
    exact alikeSI b c
  · intro x hx
    have hx2 : x ∈ (a :: l).map toSI := hx
    obtain ⟨b, _, rfl⟩ := List.mem_map.mp hx2
    exact fun z => nomatch z
  · unfold SeqAt.shaped
    have h1 : PyData.canLay0 (.list ((a :: l).map toSI)) = true := canAllSI _ ho
    have h2 : PyData.depth (.list ((a :: l).map toSI)) ≤ 64 := by
      show PyData.depthAll ((a :: l).map toSI) + 1 ≤ 64
      have := depAllSI (a :: l)
      omega
    rw [Bool.and_eq_true]
    exact ⟨h1, decide_eq_true h2⟩
  · rw [minSI_D] at hd
    have hd2 : ((a :: l).map toSI)[i]? = some (toSI (minSI a l)) := hd
    rw [List.getElem?_map] at hd2
    cases e : (a :: l)[i]? with
    | none => rw [e] at hd2; cases hd2
    | some b =>
      rw [e] at hd2
      have e2 := toSI_inj (Option.some.inj hd2)
      subst e2
      obtain ⟨t, rfl, hst⟩ := tups_at ht hv e
      exact q t hst

/-! ### comprehensions over zip -/
variable {σ : St} {te : TE} {vs : List Nat} {R : It → Hp → Prop}
/-- the target (a, b) of names -/
abbrev g2 (K : PySem.W.Frag) (i j : Nat) : TG := gTup K 2 (gCons (gName i) (gCons (gName j) gNil))
theorem lcZ {J : It} {n : Nat} {G : Hp → Prop} {A B : Nat → Option V} (w : Walk J n G (YPair A B)) (hG : ∀ H', Same H H' → G H') {i j : Nat} (f : Nat → V) (hn : n ≤ 50000)
    (hw : ∀ x y, wipe (((wipe σ vs).set i (some x)).set j (some y)) vs = wipe σ vs)
    (he : ∀ k x y, k < n → A k = some x → B k = some y → PE0 te (((wipe σ vs).set i (some x)).set j (some y)) H (f k))
    (q : ∀ D H', H D = none → Same H H' → H' D = some (.lst ((List.range n).map f)) → Q (.ref D) H') : LcG J (g2 K i j) tYes te vs σ Q H := by
  intro D hD
  refine lc_it w (fun k H' => Same H H' ∧ H' D = some (.lst ((List.range k).map f))) ⟨Same.new hD, upd_same⟩ (fun k H' _ p => hG H' p.1) ?_ ?_
  · rintro k x H1 H1' hk ⟨s1, hd⟩ ⟨T, x, y, rfl, hT, rfl, ha, hb⟩
    refine ⟨T, [x, y], rfl, SqT.of upd_same, rfl, x, [y], rfl, y, [], rfl, rfl, hw x y, ?_⟩
    unfold tYes; dsimp only
    rw [if_pos rfl]
    have s2 : Same H (upd H1 T (.tup [x, y])) := fun b o e => by rw [upd_ne (ne_of_none (s1 b o e) hT)]; exact s1 b o e
    refine he k x y hk ha hb _ s2 _ fun H3 s3 => ?_
    have hDT : D ≠ T := ne_of_none hd hT
    refine ⟨_, s3 _ _ (by rw [upd_ne hDT]; exact hd), ?_, Same.mut (s2.trans s3) hD, ?_⟩
    · rw [List.length_map, List.length_range]
      exact szlt (by omega)
    · rw [upd_same, List.range_succ, List.map_append]
      rfl
  · rintro H1 ⟨s1, hd⟩
    exact q D H1 hD s1 hd
theorem walk_zipT {a b : Addr} {xs ys : List V} (hl : xs.length = ys.length) : Walk (RZ.ItzT K a b) xs.length (fun H => SqT K H a xs ∧ SqT K H b ys) (YPair (fun i => xs[i]?) (fun i => ys[i]?)) := by
  refine ⟨fun i _ hi q => ?_, fun _ q => ⟨xs, ys, q.1, q.2, .inl (Nat.le_refl _)⟩, fun i H v H' _ q y => ?_⟩
  · have h2 : i < ys.length := by omega
    exact ⟨xs, ys, xs[i], ys[i], q.1, q.2, by simp [hi], by simp [h2]⟩
  · obtain ⟨T, x, z, h1, h2, h3, h4, h5⟩ := y
    exact ⟨T, x, z, h1, h2, h3, h4 xs q.1, h5 ys q.2⟩
def qZip (K : PySem.W.Frag) (vs : List V) (H1 : Hp) (R : It → Hp → Prop) : Prop := ∃ a b xs ys, vs = [.ref a, .ref b] ∧ ((SqL K H1 a xs ∧ SqL K H1 b ys ∧ R (Itz K a b) H1) ∨ (SqT K H1 a xs ∧ SqT K H1 b ys ∧ R (RZ.ItzT K a b) H1))
theorem rd_iZip {ta : TA} (h : ta σ H fun vs H1 => qZip K vs H1 R) : RZ.iZipA K ta σ H R := h
theorem rd_zipL {a b : Addr} {xs ys : List V} (h1 : SqL K H a xs) (h2 : SqL K H b ys) (q : R (Itz K a b) H) : qZip K [.ref a, .ref b] H R := ⟨a, b, xs, ys, rfl, .inl ⟨h1, h2, q⟩⟩
theorem rd_zipT {a b : Addr} {xs ys : List V} (h1 : SqT K H a xs) (h2 : SqT K H b ys) (q : R (RZ.ItzT K a b) H) : qZip K [.ref a, .ref b] H R := ⟨a, b, xs, ys, rfl, .inr ⟨h1, h2, q⟩⟩
/-- all, any -/
theorem rd_all {p : Addr} {bs : List Bool} (h : SqL K H p (bs.map V.bl)) (q : Q (.bl (bs.all id)) H) : rAll K [.ref p] H Q := ⟨p, bs, rfl, h, q⟩
theorem rd_any {p : Addr} {bs : List Bool} (h : SqL K H p (bs.map V.bl)) (q : Q (.bl (bs.any id)) H) : rAny K [.ref p] H Q := ⟨p, bs, rfl, h, q⟩
/-- isinstance with a tuple of types just made -/
theorem rd_isiT {x : V} {t : Value} {tp : Addr} {cs : List V} {us : List Value} {b : Bool} (h : H tp = some (.tup cs)) (p : Paired ClsV cs us) (ty : TyX K H x t) (k : PySem.W.kitAny K t us = some b) (q : Q (.bl b) H) : rIsiT K [x, .ref tp] H Q := ⟨x, tp, cs, t, us, b, rfl, h, p, ty, k, q⟩
theorem rd_isiTL {x : V} {a : String} {tp : Addr} {r1 r2 : Bool} (h : H tp = some (.tup [.ty "tuple", .ty "list"])) (ty : TyX K H x (.type a)) (k1 : kitB a "tuple" = some r1) (k2 : kitB a "list" = some r2) (q : Q (.bl (r1 || r2)) H) : rIsiT K [x, .ref tp] H Q := by
  refine rd_isiT h (.cons (.ty _) (.cons (.ty _) .nil)) ty ?_ q
  cases r1 with
  | true => exact kitAny_cons (kit_ty k1) (fun z => nomatch z) fun _ => rfl
  | false =>
    refine kitAny_cons (b := false) (kit_ty k1) (fun _ => ?_) fun z => nomatch z
    cases r2 with
    | true => exact kitAny_cons (kit_ty k2) (fun z => nomatch z) fun _ => rfl
    | false => exact kitAny_cons (b := false) (kit_ty k2) (fun _ => kitAny_nil) fun z => nomatch z
end
end My
/-! Small rules: replace of written texts, room. -/
namespace My
open PySem PySem.Spec L2 SX
open PyProof.Rows hiding St
section
variable {X : Cx} {x y z : Str} {i j k : Nat} {cx c0 c1 apos pos : Pos}
theorem pe_replLit (l : List Nat) (hl : Txt.replace x y z = S l) (hb : x.length + (x.length + 1) * z.length ≤ 16777216) (hyz : (y == z) = false := by decide)
    (hst : starEach [.Constant (.str y) j c0, .Constant (.str z) k c1] X.env = [(false, eval (.Constant (.str y) j c0) X.env), (false, eval (.Constant (.str z) k c1) X.env)] := by rfl)
    (hbase : attributeBase (.Constant (.str x) i cx) "replace" X.env (eval (.Constant (.str x) i cx) X.env) = eval (.Constant (.str x) i cx) X.env := by rfl) (hline : (apos.endLine == pos.line) = true := by rfl) :
    PE X (.Call (.Attribute (.Constant (.str x) i cx) "replace" apos) [.Constant (.str y) j c0, .Constant (.str z) k c1] [] pos) (tC (.str (S l))) := by
  refine ⟨fun pins s σ H Q I h => ?_⟩
  refine PySem.Call_method2 hbase hst hline (Calls.Constant_str ?_)
  refine ⟨"str", _, PySem.F.plainAttrs_str, PySem.F.slot_str_replace, PySem.F.type_str_replace, typeIs_str _ _ _, (fun _ e => nomatch e), Calls.callWith_builtin rfl (Calls.evalArgs_plain (Calls.spliced_cons ?_))⟩
  refine Calls.Constant_str (Calls.spliced_cons (Calls.Constant_str (Calls.spliced_nil ?_)))
  refine PySem.SC.replace (by show s.toks + 1 ≠ 0; omega) (by show s.toks + 1 + 1 ≠ 0; omega) (by show s.toks + 1 ≠ s.toks + 1 + 1; omega) hyz hb fun t' hk => ⟨.str (S l), H, (I.tok _).tok hk, ⟨t', by rw [hl]⟩, h⟩
end
theorem pg_two {X : Cx} {i j k : Nat} {x y : Str} {p q pos : Pos} (K : PySem.W.Frag) (hK : X.K = K) (hc : X.calm = true) (hN : X.N.Nodup) (hi : X.N[i]? = some x) (hx : Loc X.env.scope x) (hj : X.N[j]? = some y) (hy : Loc X.env.scope y)
    (h1 : X.fn x = true ∨ X.env.scope.names.lookup x = some .local := by first | exact .inl rfl | exact .inr rfl | assumption)
    (h2 : X.fn y = true ∨ X.env.scope.names.lookup y = some .local := by first | exact .inl rfl | exact .inr rfl | assumption) :
    PG X (.Tuple [.Name x p, .Name y q] k pos) (gTup K 2 (gCons (gName i) (gCons (gName j) gNil))) := by
  subst hK
  exact pg_tup hc (pgs_cons (pg_name hN hi hx h1) (pgs_cons (pg_name hN hj hy h2) pgs_nil))
theorem rd_slS_mid {H : Hp} {Q : VK} {l : List Nat} {i j : Int} (hl : l.length ≤ 100000) (h0 : 0 ≤ i) (h1 : i ≤ j) (h2 : j ≤ (l.length : Int)) (q : Q (.str (S ((l.drop i.toNat).take (j - i).toNat))) H) : C8.rSlX (.str (S l)) (some i) (some j) H Q := by
  refine ⟨S l, rfl, by rw [S_len]; exact sz hl, ?_⟩
  have e : Txt.slice (S l) (some i) (some j) = S ((l.drop i.toNat).take (j - i).toNat) :=
    (beq_iff_eq.mp (PyProof.Rows.slice_closesL (x := S l) h0 h1 (by rw [S_len]; exact h2))).trans (TL.ext_tl rfl)
  rw [e]
  exact q
theorem one_lt {x y : Nat} : [x] < [y] ↔ x < y := by
  rw [List.cons_lt_cons_iff]
  simp
theorem paired_snoc {α β : Type} {R : α → β → Prop} {as : List α} {bs : List β} {a : α} {b : β} (h : Paired R as bs) (r : R a b) : Paired R (as ++ [a]) (bs ++ [b]) := by
  induction h with
  | nil => exact .cons r .nil
  | cons x _ ih => exact .cons x ih
/-- a while with what holds behind it said once -/
theorem rd_whileX {σ : St} {H : Hp} {tt : TT} {tb : TS} {nx : St → Hp → Prop} {rt : VK} {bk ct : St → Hp → Prop} (W : Nat → St → Hp → Prop) (Ex : St → Hp → Prop) (m0 : Nat) (h0 : W m0 σ H) (hx : ∀ σ H, Ex σ H → nx σ H)
    (hs : (∀ σ H, Ex σ H → nx σ H) → ∀ m σ H, W m σ H → tt σ H fun b H1 => if b = true then WhB W m tb rt nx σ H1 else nx σ H1) : tWhile tt tb ⟨nx, rt, bk, ct⟩ σ H :=
  rd_while W m0 h0 (hs hx)
theorem rd_two {a b : V} {R : V → V → Prop} (h : R a b) : ∃ v w, [a, b] = [v, w] ∧ R v w := ⟨a, b, rfl, h⟩
theorem rd_evT {b : Bool} {A B : Prop} (h : b = true) (q : A) : if b = true then A else B := by rw [if_pos h]; exact q
theorem rd_evF {b : Bool} {A B : Prop} (h : b = false) (q : B) : if b = true then A else B := by rw [if_neg (by rw [h]; exact Bool.false_ne_true)]; exact q
theorem Room.u100 {k : Nat} {A : Around} (r : Room k A) : A.units + 100 < cLine := by have := r.un; omega
theorem Room.u65 {k : Nat} {A : Around} (r : Room k A) : A.units + 65 < cLine := by have := r.un; omega
end My
/-! zip of two texts. -/
namespace My
open PySem PySem.Spec L2 SX
open PyProof.Rows hiding St
/-- the signs of two texts, in new pairs -/
def ItzS (x y : Str) : It :=
  ⟨fun i _ => i < min x.cps.size y.cps.size, fun i H v H' => ∃ T c d, v = .ref T ∧ H T = none ∧ H' = upd H T (.tup [.str ⟨#[c]⟩, .str ⟨#[d]⟩]) ∧ x.cps[i]? = some c ∧ y.cps[i]? = some d, fun i _ => i = min x.cps.size y.cps.size⟩
theorem turn_zipS {P : Program} {w : World} {K : PySem.W.Frag} {elts : List Expr} {kk : Nat} {tpos : Pos} {z TI TO i1 i2 : Addr} {x y : Str} {t u : Tok} (D : ZipSep2 z TI TO i1 i2 [i1] [i2]) :
    Turn P w K (.Tuple elts kk tpos) (ItzS x y) [z, TI, TO, i1, i2] z (fun i h => IsZip h z TI TO .none ∧ IsTupOf2 h TI (.ref i1) (.ref i2) ∧ (∃ a b, IsTupOf2 h TO a b) ∧ h.IsStrIter i1 (strIterType x) x t i ∧ h.IsStrIter i2 (strIterType y) y u i) where
  mem := by simp
  obj := fun i h st c hc => by
    obtain ⟨hz, hTI, ⟨a, b, hTO⟩, ⟨o1, e1, _, d1⟩, ⟨o2, e2, _, d2⟩⟩ := st
    have e' : c = z ∨ c = TI ∨ c = TO ∨ c = i1 ∨ c = i2 := by simpa using hc
    rcases e' with q | q | q | q | q
    · rw [q]; exact ⟨_, hz, fun v q => nomatch q⟩
    · rw [q]; exact ⟨_, hTI, fun v q => nomatch q⟩
    · rw [q]; exact ⟨_, hTO, fun v q => nomatch q⟩
    · rw [q]; exact ⟨o1, e1, fun v q => by rw [d1] at q; cases q⟩
    · rw [q]; exact ⟨o2, e2, fun v q => by rw [d2] at q; cases q⟩
  keep := fun i h h' st k => by
    obtain ⟨hz, hTI, ⟨a, b, hTO⟩, ⟨o1, e1, r1⟩, ⟨o2, e2, r2⟩⟩ := st
    exact ⟨k z (by simp) _ hz, k TI (by simp) _ hTI, ⟨a, b, k TO (by simp) _ hTO⟩, ⟨o1, k i1 (by simp) _ e1, r1⟩, ⟨o2, k i2 (by simp) _ e2, r2⟩⟩
  item := by
    intro X hP hw hK hc i pins s σ H E I hf st hg
    subst hP hw hK
    obtain ⟨hz, hTI, ⟨x0, y0, hTO⟩, h1, h2⟩ := st
    have hg2 : i < min x.cps.size y.cps.size := hg
    have hzl : z < s.heap.objs.size := Heap.lt_size hz
    have D1 := Draws.text (prog := X.prog) (w := X.w) (A := X.A.in1) (I.ok.hd hc) i1 x t
    have D2 := Draws.text (prog := X.prog) (w := X.w) (A := X.A.in1) (I.ok.hd hc) i2 y u
    refine wpAny_pyNext_zipD2_item (i := i) D D1 D2 hz hTI hTO h1 h2 (by omega) (by omega) fun v1 v2 h' tk p1 p2 z' TO' h1' h2' hT hsz hk => ?_
    obtain ⟨c, t1, hc1, rfl⟩ := p1
    obtain ⟨d, t2, hd2, rfl⟩ := p2
    refine ⟨_, rfl, wpAny_letOwnedTupleGo_zip (s := { s with heap := h', toks := tk }) z' fun h'' z'' sb => ?_⟩
    have hT2 : h''.get? s.heap.objs.size = some { cls := .type "tuple", data := .seq #[.str ⟨#[c]⟩ t1, .str ⟨#[d]⟩ t2] } := (sb.2 _ (Nat.ne_of_gt hzl)).trans hT
    have new : ObjOk X.prog X.w (upd H s.heap.objs.size (.tup [.str ⟨#[c]⟩, .str ⟨#[d]⟩])) h'' s.heap.objs.size (.tup [.str ⟨#[c]⟩, .str ⟨#[d]⟩]) :=
      ⟨by show 2 ≤ sizeLine; decide, [.str ⟨#[c]⟩ t1, .str ⟨#[d]⟩ t2], .cons ⟨t1, rfl⟩ (.cons ⟨t2, rfl⟩ .nil), ⟨_, hT2, rfl, _, rfl⟩⟩
    have I1 : Inv X pins σ (upd H s.heap.objs.size (.tup [.str ⟨#[c]⟩, .str ⟨#[d]⟩])) { s with heap := h'', toks := tk } :=
      I.turnedNew (t' := tk) (ch := [z, TI, TO, i1, i2]) (fun c o hb q => (sb.2 c (fun q' => hb (by simp [q']))).trans (hk c o (fun q' => hb (by simp [q'])) (fun q' => hb (by simp [q'])) (fun q' => hb (by simp [q'])) (fun q' => hb (by simp [q'])) q)) hf (Nat.le_refl _) new
    refine ⟨.ref s.heap.objs.size, _, I1, rfl, ⟨_, c, d, rfl, I.hok.fresh (Nat.le_refl _), rfl, hc1, hd2⟩, ⟨z'', ?_, ⟨.str ⟨#[c]⟩ t1, .str ⟨#[d]⟩ t2, ?_⟩, ?_, ?_⟩, fun b hbm => ?_⟩
    · exact (sb.2 _ D.TIz).trans (hk _ _ D.TIz D.TITO D.TIi1 D.TIi2 hTI)
    · exact (sb.2 _ D.TOz).trans TO'
    · obtain ⟨o, e, r⟩ := h1'
      exact ⟨o, (sb.2 _ (Ne.symm D.zi1)).trans e, r⟩
    · obtain ⟨o, e, r⟩ := h2'
      exact ⟨o, (sb.2 _ (Ne.symm D.zi2)).trans e, r⟩
    · have hlt : b < s.heap.objs.size := by
        have e' : b = z ∨ b = TI ∨ b = TO ∨ b = i1 ∨ b = i2 := by simpa using hbm
        rcases e' with q | q | q | q | q
        · rw [q]; exact hzl
        · rw [q]; exact Heap.lt_size hTI
        · rw [q]; exact Heap.lt_size hTO
        · rw [q]; obtain ⟨_, e1, _⟩ := h1; exact Heap.lt_size e1
        · rw [q]; obtain ⟨_, e2, _⟩ := h2; exact Heap.lt_size e2
      rw [upd_ne (Nat.ne_of_lt hlt)]
      exact (hf b hbm).1
  done := by
    intro X hP hw hK hc i pins s σ H E I hf st hg
    subst hP hw hK
    obtain ⟨hz, hTI, ⟨x0, y0, hTO⟩, h1, h2⟩ := st
    have hg2 : i = min x.cps.size y.cps.size := hg
    have D1 := Draws.text (prog := X.prog) (w := X.w) (A := X.A.in1) (I.ok.hd hc) i1 x t
    have D2 := Draws.text (prog := X.prog) (w := X.w) (A := X.A.in1) (I.ok.hd hc) i2 y u
    exact wpAny_pyNext_zipD2_end (i := i) D D1 D2 hz hTI hTO h1 h2 (by omega) (by omega) (by omega) fun h' tk hk => ⟨rfl, I.turnedL (t' := tk) (ch := [z, TI, TO, i1, i2]) (fun c o hb q =>
      hk c o (fun q' => hb (by simp [q'])) (fun q' => hb (by simp [q'])) (fun q' => hb (by simp [q'])) (fun q' => hb (by simp [q'])) q) hf⟩
  self := fun A i s Q E st h => wpAny_pyIter_zip st.1 h
def iZipS (ta : TA) : TI := fun σ H R => ta σ H fun vs H1 => ∃ x y, vs = [.str x, .str y] ∧ R (ItzS x y) H1
theorem pi_zipS {X : Cx} {e e2 : Expr} {ta : TA} {p pos tpos : Pos} {elts : List Expr} {kk : Nat} (hg : Gl X "zip") (hm : X.mg "zip" = none) (ha : PA X [e, e2] ta)
    (hs : starEach [e, e2] X.env = (false, eval e X.env) :: starEach [e2] X.env := by rfl) (hpl : (backTo pos (starEach [e2] X.env)).any (·.1) = false := by rfl) :
    PI X (.Tuple elts kk tpos) (.Call (.Name "zip" p) [e, e2] [] pos) (iZipS ta) := by
  refine ⟨fun pins s σ H R I h => ?_⟩
  refine Call_ (ld_blt I hg hm PyProof.Rows.boot_zip (PyProof.Rows.callWith_type1 (thn (ha.run pos pins s σ H _ I h) fun us s1 ⟨vs, H1, I1, r1, q1⟩ => ?_) hs hpl))
  obtain ⟨x, y, ex, q⟩ := q1
  subst ex
  cases r1 with
  | cons r rr =>
    cases rr with
    | cons r' rr =>
      cases rr
      obtain ⟨t, rfl⟩ := r
      obtain ⟨u, rfl⟩ := r'
      have fresh5 : ∀ c, c ∈ [s1.heap.objs.size + 4, s1.heap.objs.size + 2, s1.heap.objs.size + 3, s1.heap.objs.size, s1.heap.objs.size + 1] → FpOk X pins H1 c := fun c hcm => by
        have e' : c = s1.heap.objs.size + 4 ∨ c = s1.heap.objs.size + 2 ∨ c = s1.heap.objs.size + 3 ∨ c = s1.heap.objs.size ∨ c = s1.heap.objs.size + 1 := by simpa using hcm
        have hle : s1.heap.objs.size ≤ c := by omega
        exact I1.fpOk hle (I1.hok.fresh hle)
      refine zip_begins2 (begins_text x t) (begins_text y u) trivial trivial fun h' hz hTI hTO h1 h2 hsz hk => wpAny_pyIter_zip hz ?_
      have I2 : Inv X pins σ H1 { s1 with heap := h' } := I1.kept (t' := s1.toks) hk
      refine ⟨s1.heap.objs.size + 4, [s1.heap.objs.size + 4, s1.heap.objs.size + 2, s1.heap.objs.size + 3, s1.heap.objs.size, s1.heap.objs.size + 1], _, _, H1, rfl, I2, turn_zipS (t := t) (u := u) ?_, ⟨hz, hTI, ⟨_, _, hTO⟩, ⟨_, h1, rfl, rfl⟩, ⟨_, h2, rfl, rfl⟩⟩, fresh5, q⟩
      constructor <;> first | omega | simp
section
variable {σ : St} {H : Hp} {te : TE} {ta : TA} {vs : List Nat} {Q : VK} {R : It → Hp → Prop}
def qZipS (vs : List V) (H1 : Hp) (R : It → Hp → Prop) : Prop := ∃ x y, vs = [.str x, .str y] ∧ R (ItzS x y) H1
theorem rd_iZipS (h : ta σ H fun vs H1 => qZipS vs H1 R) : iZipS ta σ H R := h
theorem rd_zipS {l m : List Nat} (q : R (ItzS (S l) (S m)) H) : qZipS [.str (S l), .str (S m)] H R := ⟨S l, S m, rfl, q⟩
theorem walk_zipS {l m : List Nat} (hl : m.length ≤ l.length) : Walk (ItzS (S l) (S m)) m.length (fun _ => True) (YPair (fun i => l[i]?.map fun c => V.str (S [c])) (fun i => m[i]?.map fun c => V.str (S [c]))) := by
  have e1 : (S l).cps.size = l.length := by simp
  have e2 : (S m).cps.size = m.length := by simp
  refine ⟨fun i _ hi _ => ?_, fun _ _ => ?_, fun i H v H' _ _ y => ?_⟩
  · show i < min _ _
    omega
  · show m.length = min _ _
    omega
  · obtain ⟨T, c, d, h1, h2, h3, h4, h5⟩ := y
    refine ⟨T, .str ⟨#[c]⟩, .str ⟨#[d]⟩, h1, h2, h3, ?_, ?_⟩
    · have : l[i]? = some c := by simpa using h4
      dsimp only
      rw [this]
      rfl
    · have : m[i]? = some d := by simpa using h5
      dsimp only
      rw [this]
      rfl
end
end My
/-! x in a tuple of lists, list(range), dicts of ints, unpacking of lists, max. -/
namespace My
open PySem PySem.Spec L2 SX
open PyProof.Rows hiding St
section
variable {X : Cx} {K : PySem.W.Frag} {H : Hp} {Q : VK} {σ : St}
def rInT (K : PySem.W.Frag) (neg : Bool) : R2 := fun x y H Q => ∃ d ds, Dp K H x d ∧ Dp K H y (.tuple ds) ∧ SeqAt.shaped d = true ∧ SeqAt.shaped (.tuple ds) = true ∧ Q (.bl (if neg then !(ds.any fun z => PyData.eqv z d) else ds.any fun z => PyData.eqv z d)) H
theorem op_inT (K : PySem.W.Frag) (hK : X.K = K) (hu : X.A.units + 65 < cLine) : OpR X (compareOp .In) (rInT K false) := by
  subst hK
  intro pins s σ H x y v u Q I rx ry h
  obtain ⟨d, ds, hd, he, sd, se, q⟩ := h
  obtain ⟨as, r1⟩ := Dp.reads I d x v hd rx
  obtain ⟨bs, r2⟩ := Dp.reads I (.tuple ds) y u he ry
  exact SeqAt.in_tuple_reads r2 r1 (SeqAt.canLay_of_shaped se) (SeqAt.canLay_of_shaped sd) (room_in_shaped sd hu) ⟨.bl _, H, I, rfl, q⟩
theorem op_notInT (K : PySem.W.Frag) (hK : X.K = K) (hu : X.A.units + 65 < cLine) : OpR X (compareOp .NotIn) (rInT K true) := by
  subst hK
  intro pins s σ H x y v u Q I rx ry h
  obtain ⟨d, ds, hd, he, sd, se, q⟩ := h
  obtain ⟨as, r1⟩ := Dp.reads I d x v hd rx
  obtain ⟨bs, r2⟩ := Dp.reads I (.tuple ds) y u he ry
  exact SeqAt.notIn_tuple_reads r2 r1 (SeqAt.canLay_of_shaped se) (SeqAt.canLay_of_shaped sd) (room_in_shaped sd hu) ⟨.bl _, H, I, rfl, q⟩
/-- a list of ints not in a tuple of two such lists -/
theorem rd_notInT2 {p t q r : Addr} {a b c : List Int} (hp : SqL K H p (a.map V.int)) (ht : SqT K H t [.ref q, .ref r]) (hq : SqL K H q (b.map V.int)) (hr : SqL K H r (c.map V.int))
    (k : Q (.bl (!(decide (b = a) || decide (c = a)))) H) : rInT K true (.ref p) (.ref t) H Q := by
  refine ⟨dI a, [dI b, dI c], dpI hp, .tup ht (.cons (dpI hq) (.cons (dpI hr) .nil)), shI _, ?_, ?_⟩
  · have h1 := shI b
    have h2 := shI c
    unfold SeqAt.shaped at h1 h2 ⊢
    rw [Bool.and_eq_true] at h1 h2 ⊢
    have e1 : PyData.canLay0 (.tuple [dI b, dI c]) = (PyData.canLay0 (dI b) && (PyData.canLay0 (dI c) && true)) := rfl
    have e2 : PyData.depth (.tuple [dI b, dI c]) = max (PyData.depth (dI b)) (max (PyData.depth (dI c)) 0) + 1 := rfl
    have e3 : ∀ ns : List Int, PyData.depth (dI ns) = 1 := fun ns => by
      show PyData.depthAll (ns.map PyData.int) + 1 = 1
      rw [depI]
    refine ⟨by rw [e1, h1.1, h2.1]; rfl, decide_eq_true ?_⟩
    rw [e2, e3, e3]
    decide
  · show Q (.bl (!(PyData.eqv (dI b) (dI a) || (PyData.eqv (dI c) (dI a) || false)))) H
    rw [eqI, eqI, Bool.or_false]
    exact k
theorem op_inQ (K : PySem.W.Frag) (hK : X.K = K) : OpR X (compareOp .In) (rIn K false) := by
  subst hK
  exact op_in_seq
theorem op_notInQ (K : PySem.W.Frag) (hK : X.K = K) : OpR X (compareOp .NotIn) (rIn K true) := by
  subst hK
  exact op_notIn_seq
theorem cr_allK (K : PySem.W.Frag) (hK : X.K = K) (hc : X.calm = true) : CallR X (.builtin "all") (rAll K) := by
  subst hK
  exact cr_all hc
/-! list(range(..)) -/
def qRg (a b : Int) (H1 : Hp) (Q : VK) : Prop := RgOk a b ∧ ∀ q, H1 q = none → Q (.ref q) (upd H1 q (.lst (rgV a b)))
theorem rd_lstRg {te : St → Hp → (Int → Int → Hp → Prop) → Prop} (h : te σ H fun a b H1 => qRg a b H1 Q) : tLstRg te σ H Q := h
theorem rd_tRg1 {ta : TE} {R : Int → Int → Hp → Prop} (h : ta σ H fun x H1 => ∃ n, x = .int n ∧ R 0 n H1) : tRg1 ta σ H R := h
theorem rd_tRg2 {ta tb : TE} {R : Int → Int → Hp → Prop} (h : ta σ H fun x H1 => tb σ H1 fun y H2 => ∃ i j, x = .int i ∧ y = .int j ∧ R i j H2) : tRg2 ta tb σ H R := h
theorem rd_rg1 {n : Int} {R : Int → Prop} (h : R n) : ∃ m, V.int n = V.int m ∧ R m := ⟨n, rfl, h⟩
theorem rd_rg2 {i j : Int} {R : Int → Int → Prop} (h : R i j) : ∃ m k, V.int i = V.int m ∧ V.int j = V.int k ∧ R m k := ⟨i, j, rfl, rfl, h⟩
theorem rd_qRg {a b : Int} (h : 0 ≤ a ∧ a ≤ 100000 ∧ 0 ≤ b ∧ b ≤ 100000) (q : ∀ p, H p = none → Q (.ref p) (upd H p (.lst (rgV a b)))) : qRg a b H Q := ⟨RgOk.of_le (by omega) (by omega) (by omega) (by omega), q⟩
/-! dicts whose keys are ints -/
def qDGet (x y : V) (H2 : Hp) (Q : VK) : Prop := ∃ a v, x = .ref a ∧ DGet H2 a y (some v) ∧ Q v H2
theorem rd_tDGet {td ty : TE} (h : td σ H fun x H1 => ty σ H1 fun y H2 => qDGet x y H2 Q) : tDGet td ty σ H Q := h
theorem rd_dget {a : Addr} {kvs : List (Key × V)} {i : Int} {v : V} (h : H a = some (.dK kvs)) (e : valV kvs (.inl i) = some v) (q : Q v H) : qDGet (.ref a) (.int i) H Q := ⟨a, v, rfl, by
  have := DGet.k (k := Sum.inl i) h
  rw [e] at this
  exact this, q⟩
def qDPut (x y v : V) (H3 : Hp) (R : Hp → Prop) : Prop := ∃ a H4, x = .ref a ∧ DPut H3 a y v H4 ∧ R H4
theorem rd_sDPut {td ty tv : TE} {D : Ends} (h : tv σ H fun v H1 => td σ H1 fun x H2 => ty σ H2 fun y H3 => qDPut x y v H3 fun H4 => D.nx σ H4) : sDPut td ty tv D σ H := h
theorem rd_dput {a : Addr} {kvs : List (Key × V)} {i : Int} {v : V} {R : Hp → Prop} (h : H a = some (.dK kvs)) (hl : kvs.length < 100000) (q : R (upd H a (.dK (putK kvs (.inl i) v)))) : qDPut (.ref a) (.int i) v H R :=
  ⟨a, _, rfl, DPut.k (k := Sum.inl i) h (szlt hl), q⟩
theorem putK_len {kvs : List (Key × V)} {k : Key} {v : V} : (putK kvs k v).length ≤ kvs.length + 1 := by
  unfold putK
  split
  · rw [List.length_map]; omega
  · rw [List.length_append]; exact Nat.le_refl _
theorem rd_dnew (h : ∀ p, H p = none → Q (.ref p) (upd H p (.dK []))) : tDNewK σ H Q := h
/-! unpacking a list of three -/
theorem pg_unl3 {i j l k : Nat} {x y z : Str} {p q r pos : Pos} (K : PySem.W.Frag) (hK : X.K = K) (hc : X.calm = true) (hN : X.N.Nodup) (hi : X.N[i]? = some x) (hx : Loc X.env.scope x) (hj : X.N[j]? = some y) (hy : Loc X.env.scope y) (hl : X.N[l]? = some z) (hz : Loc X.env.scope z)
    (h1 : X.fn x = true ∨ X.env.scope.names.lookup x = some .local := by first | exact .inl rfl | exact .inr rfl | assumption)
    (h2 : X.fn y = true ∨ X.env.scope.names.lookup y = some .local := by first | exact .inl rfl | exact .inr rfl | assumption)
    (h3 : X.fn z = true ∨ X.env.scope.names.lookup z = some .local := by first | exact .inl rfl | exact .inr rfl | assumption) :
    PG X (.Tuple [.Name x p, .Name y q, .Name z r] k pos) (gUnl K 3 (gCons (gName i) (gCons (gName j) (gCons (gName l) gNil)))) := by
  subst hK
  exact pg_unl hc (pgs_cons (pg_name hN hi hx h1) (pgs_cons (pg_name hN hj hy h2) (pgs_cons (pg_name hN hl hz h3) pgs_nil)))
theorem rd_unl3 {a : Addr} {u v w : V} {i j l : Nat} {R : St → Hp → Prop} (h : SqL K H a [u, v, w]) (q : R (((σ.set i (some u)).set j (some v)).set l (some w)) H) : gUnl K 3 (gCons (gName i) (gCons (gName j) (gCons (gName l) gNil))) (.ref a) σ H R :=
  ⟨a, _, rfl, h, rfl, _, _, rfl, _, _, rfl, _, _, rfl, rfl, q⟩
/-! max of a list of ints -/
theorem rd_max {p : Addr} {ns : List Int} {m : Int} (h : SqL K H p (ns.map V.int)) (hm : m ∈ ns) (hle : ∀ y ∈ ns, y ≤ m) (q : Q (.int m) H) : rMax K [.ref p] H Q :=
  ⟨p, ns, rfl, h, List.length_pos_of_mem hm, fun m2 hm2 hle2 => by
    have e : m2 = m := Int.le_antisymm (hle m2 hm2) (hle2 m hm)
    rw [e]
    exact q⟩
/-! x in a list of ints -/
theorem inV_int {x : Int} : ∀ ns : List Int, inV (.int x) (ns.map V.int) = decide (x ∈ ns)
  | [] => rfl
  | n :: ns => by
    show (eqV (.int n) (.int x) || inV (.int x) (ns.map V.int)) = _
    rw [inV_int ns]
    have e : eqV (.int n) (.int x) = decide (n = x) := by
      first | rfl | (unfold eqV; simp) | simp [eqV]
    rw [e]
    by_cases h : x = n
    · subst h; simp
    · have h2 : ¬ n = x := fun z => h z.symm
      simp [h, h2]
theorem flat_ints (ns : List Int) : (ns.map V.int).all flatV = true := by
  rw [List.all_eq_true]
  intro v hv
  obtain ⟨n, _, rfl⟩ := List.mem_map.mp hv
  rfl
theorem rd_inI {p : Addr} {x : Int} {ns : List Int} (h : SqL K H p (ns.map V.int)) (q : Q (.bl (decide (x ∈ ns))) H) : rIn K false (.int x) (.ref p) H Q := ⟨p, _, rfl, .inl h, rfl, flat_ints ns, by rw [if_neg Bool.false_ne_true, inV_int]; exact q⟩
theorem rd_notInI {p : Addr} {x : Int} {ns : List Int} (h : SqL K H p (ns.map V.int)) (q : Q (.bl (!decide (x ∈ ns))) H) : rIn K true (.int x) (.ref p) H Q := ⟨p, _, rfl, .inl h, rfl, flat_ints ns, by rw [if_pos rfl, inV_int]; exact q⟩
theorem rd_chain {r r' : R2} {ta tb tc : TE} (h : ta σ H fun x H1 => tb σ H1 fun y H2 => r x y H2 fun z H3 => ∃ k, z = .bl k ∧ (if k = true then tc σ H3 fun w' H4 => r' y w' H4 Q else Q (.bl false) H3)) : tChain r r' ta tb tc σ H Q := h
theorem rd_g2 {T : Addr} {u v : V} {i j : Nat} {R : St → Hp → Prop} (h : SqT K H T [u, v]) (q : R ((σ.set i (some u)).set j (some v)) H) : gTup K 2 (gCons (gName i) (gCons (gName j) gNil)) (.ref T) σ H R :=
  ⟨T, _, rfl, h, rfl, _, _, rfl, _, _, rfl, rfl, q⟩
theorem at_int {hs : List Int} {i : Int} (h0 : 0 ≤ i) (h : i < (hs.length : Int)) : atI (hs.map V.int) i = some (.int (hs.getD i.toNat 0)) := by
  refine at_of h0 ?_
  have h2 : i.toNat < hs.length := by omega
  rw [List.getElem?_map, List.getElem?_eq_getElem h2, List.getD_eq_getElem?_getD, List.getElem?_eq_getElem h2]
  rfl
theorem forT {α : Type} (ls : List α) (e : α → V) {p : Addr} {j : Nat} {tb : TS} {nx : St → Hp → Prop} {rt : VK} {bk ct : St → Hp → Prop} (Pv : Nat → St → Hp → Prop) (h0 : Pv 0 σ H) (hG : ∀ i σ H, i ≤ ls.length → Pv i σ H → SqT K H p (ls.map e))
    (hs : ∀ i y σ H, ls[i]? = some y → Pv i σ H → tb ⟨Pv (i + 1), rt, nx, Pv (i + 1)⟩ (σ.set j (some (e y))) H) (hd : ∀ σ H, Pv ls.length σ H → nx σ H) : ForG (Itt K p) (gName j) tb ⟨nx, rt, bk, ct⟩ σ H := by
  have w := walk_tup (K := K) (a := p) (xs := ls.map e)
  rw [List.length_map] at w
  refine for_map ls e w (fun i H x H' hi y => ⟨y.1, ?_⟩) Pv h0 hG hs hd
  have h2 := y.2
  rw [List.getElem?_map] at h2
  cases h3 : ls[i]? with
  | none => rw [h3] at h2; cases h2
  | some z =>
    rw [h3] at h2
    exact ⟨z, rfl, (Option.some.inj h2).symm⟩
end
end My
/-! sets of texts: set(list of texts), sorted of it. -/
namespace SetS
open PySem PySem.Spec PyProof.Rows L2
/-- an entry that holds a text -/
def keyT (e : Int × Value) : Str := match e.2 with
  | .str k _ => k
  | _ => Str.empty
def GoodT (w : World) (e : Int × Value) : Prop := ∃ k tk, e.2 = Value.str k tk ∧ e.1 = hashStr w k
/-- the set at a has just the texts of L, in some order -/
def TxtSet (w : World) (h : Heap) (a : Addr) (L : List Str) : Prop :=
  ∃ o es ep t, (h.get? a = some o ∧ o.ExactSet ∧ o.data = .set es ep t) ∧ (∀ e ∈ es.toList, GoodT w e) ∧ (es.toList.map keyT).Perm L ∧ L.Nodup ∧ es.size < scanBound ∧ t.fits es.size = true ∧ Ris t.place.toList ∧ (w.params.followText "set-order" = true ∨ t.led = true)
abbrev newSet (w : World) : Obj := { cls := .type "set", dict := none, data := .set #[] 0 (.fresh 0 0 (!w.params.followText "set-order")) }
section
variable {P : Program} {w : World} {h h' : Heap} {a : Addr} {L : List Str}
theorem TxtSet.keep (R : TxtSet w h a L) (k : ∀ o, h.get? a = some o → h'.get? a = some o) : TxtSet w h' a L := by
  obtain ⟨o, es, ep, t, ⟨ho, r1⟩, r⟩ := R
  exact ⟨o, es, ep, t, ⟨k o ho, r1⟩, r⟩
theorem TxtSet.start (ho : h.get? a = some (newSet w)) : TxtSet w h a [] := by
  refine ⟨_, #[], 0, _, ⟨ho, ⟨rfl, rfl, rfl⟩, rfl⟩, (fun e he => by simp at he), List.Perm.nil, List.nodup_nil, by decide, rfl, List.Pairwise.nil, ?_⟩
  show _ ∨ (!w.params.followText "set-order") = true
  cases w.params.followText "set-order" <;> simp
theorem elemsT {l : List (Int × Value)} (g : ∀ e ∈ l, GoodT w e) : ElemsOf (strKind P w) l := by
  intro e he
  obtain ⟨k, tk, h1, h2⟩ := g e he
  refine ⟨⟨k, ?_, h2⟩, ?_⟩
  · rw [h1]; exact strKind_is P w k tk
  · rw [h1]; rfl
theorem isT_iff {e : Int × Value} (g : GoodT w e) (k : Str) : (strKind P w).is k e.2 = true ↔ keyT e = k := by
  obtain ⟨k0, tk, h1, _⟩ := g
  unfold keyT
  rw [h1]
  show ((k0 == k) = true) ↔ k0 = k
  exact beq_iff_eq
end
section
variable {P : Program} {w : World} {A : Around} {E : Value → Shared → Prop} {s : Shared} {a : Addr} {L : List Str}
/-- behind the new entry: it is stored, and laid anew where the table is too full -/
theorem add_tail {g : Bool → Sem Unit} (hg : ∀ (b : Bool) (s₁ : Shared) (Q' : Unit → Shared → Prop), Q' () s₁ → wpAny (model P w) A (g b) Q' E s₁)
    {o : Obj} {es es1 : Array (Int × Value)} {ep : Nat} {t t2 : SetTable} {L' : List Str} {was : Bool} {R : Option Bool → Shared → Prop} (ho : s.heap.get? a = some o ∧ o.ExactSet ∧ o.data = .set es ep t)
    (hr : (∀ e ∈ es1.toList, GoodT w e) ∧ (es1.toList.map keyT).Perm L' ∧ L'.Nodup ∧ es1.size < scanBound ∧ t2.fits es1.size = true ∧ Ris t2.place.toList ∧ (w.params.followText "set-order" = true ∨ t2.led = true))
    (hR : ∀ h', Heap.SameBut a s.heap h' → TxtSet w h' a L' → R (some true) { s with heap := h' }) :
    wpAny (model P w) A (do
        storeSet a es1 t2
        if (!was && t2.tooFull) = true then do
            g (relayAll t2 es1 (SetTable.grown es1.size)).2.2
            storeSet a (relayAll t2 es1 (SetTable.grown es1.size)).1 (relayAll t2 es1 (SetTable.grown es1.size)).2.1
            pure (some true)
          else pure (some true)) R E s := by
  obtain ⟨o1, o2, o3⟩ := ho
  obtain ⟨r1, r2, r3, r4, r5, r6, r7⟩ := hr
  refine wpAny_bind (wpAny_storeSet_of o1 o3 ?_ (fits_of_scanBound r4))
  have p1 := store_at (es' := es1) (t' := t2) o1 o3
  have sb1 := Heap.SameBut.update s.heap a (Obj.putSet es1 t2)
  split
  · have pm := relayAll_perm t2 es1 (SetTable.grown es1.size)
    have q1 := relayAll_fits t2 es1 (SetTable.grown es1.size)
    have q2 := relayAll_ris t2 es1 (SetTable.grown es1.size)
    have q3 := relayAll_led t2 es1 (SetTable.grown es1.size)
    generalize relayAll t2 es1 (SetTable.grown es1.size) = Z at pm q1 q2 q3 ⊢
    obtain ⟨es2, t3, gave⟩ := Z
    dsimp only at pm q1 q2 q3 ⊢
    have sz : es2.size = es1.size := by rw [← Array.length_toList, pm.length_eq, Array.length_toList]
    refine wpAny_bind (hg _ _ _ ?_)
    refine wpAny_bind (wpAny_storeSet_of p1 rfl ?_ (fits_of_scanBound (by rw [sz]; exact r4)))
    have p2 := store_at (es' := es2) (t' := t3) p1 rfl
    refine wpAny_pure (hR _ (sb1.trans (Heap.SameBut.update _ a _)) ?_)
    refine ⟨_, es2, _, t3, ⟨p2, o2, rfl⟩, fun e he => r1 e (pm.mem_iff.mp he), (pm.map keyT).trans r2, r3, by rw [sz]; exact r4, q1, q2, ?_⟩
    rcases r7 with z | z
    · exact .inl z
    · exact .inr (by rw [q3]; exact z)
  · exact wpAny_pure (hR _ sb1 ⟨_, es1, _, t2, ⟨p1, o2, rfl⟩, r1, r2, r3, r4, r5, r6, r7⟩)
/-- the texts with one more -/
def ins (k : Str) (L : List Str) : List Str := if k ∈ L then L else k :: L
theorem add_hashed {k : Str} {tk : Tok} {Q : Bool → Shared → Prop} (R : TxtSet w s.heap a L) (room : L.length + 1 < scanBound)
    (hQ : ∀ b h', Heap.SameBut a s.heap h' → TxtSet w h' a (ins k L) → Q b { s with heap := h' }) :
    wpAny (model P w) A (setAddHashed a (.str k tk) ((strKind P w).hash k)) Q E s := by
  obtain ⟨o, es, ep, t, hob, hg, hp, hn, hb, hf, hr, hl⟩ := R
  obtain ⟨ho, hex, hd⟩ := id hob
  have hkey : (strKind P w).is k (.str k tk) = true := strKind_is P w k tk
  have hsc : (Value.str k tk).scannable = true := rfl
  have hel : ElemsOf (strKind P w) es.toList := elemsT hg
  unfold setAddHashed setAddHashedIn
  refine wpAny_holding (wpAny_bind (wpAny_setState_of ho hd hf ?_))
  dsimp only
  rw [byScan_of hsc hb hel]
  simp only [↓reduceIte]
  unfold setAddByScan
  refine wpAny_bind ?_
  refine wpAny_bind (wpAny_rule ?_)
  refine wpAny_bind (wpAny_setScan_of hkey ho hd hf hel ?_)
  cases hfi : List.findIdx? (fun e => (strKind P w).is k e.2) es.toList with
  | some j =>
    dsimp only
    obtain ⟨hj, pj, _⟩ := List.findIdx?_eq_some_iff_getElem.mp hfi
    have hm : k ∈ L := by
      have e1 := (isT_iff (hg _ (List.getElem_mem hj)) k).mp pj
      exact hp.mem_iff.mp (List.mem_map.mpr ⟨_, List.getElem_mem hj, e1⟩)
    refine wpAny_pure (wpAny_pure (hQ _ s.heap (Heap.SameBut.refl a s.heap) ?_))
    unfold ins
    rw [if_pos hm]
    exact ⟨o, es, ep, t, hob, hg, hp, hn, hb, hf, hr, hl⟩
  | none =>
    dsimp only
    have hm : k ∉ L := fun z => by
      obtain ⟨e, he, q⟩ := List.mem_map.mp (hp.mem_iff.mpr z)
      have c := List.findIdx?_eq_none_iff.mp hfi e he
      rw [(isT_iff (hg e he) k).mpr q] at c
      cases c
    have gw : ∀ (b : Bool) {s₁ : Shared} {Q' : Unit → Shared → Prop}, Q' () s₁ → wpAny (model P w) A (match b with | true => rule "set.scan.the-table-gave-way" | false => pure ()) Q' E s₁ := by
      intro b s₁ Q' q
      cases b
      · exact wpAny_pure q
      · exact wpAny_rule q
    have pm := layNew_perm t es ((strKind P w).hash k) (.str k tk)
    have f1 := layNew_fits t es ((strKind P w).hash k) (.str k tk)
    have f2 := layNew_ris t es ((strKind P w).hash k) (.str k tk) hr
    have f3 := layNew_led t es ((strKind P w).hash k) (.str k tk)
    generalize layNew t es ((strKind P w).hash k) (.str k tk) = Z at pm f1 f2 f3 ⊢
    obtain ⟨es1, t1, was, gave⟩ := Z
    dsimp only at pm f1 f2 f3 ⊢
    rw [Array.toList_push] at pm
    have pc : es1.toList.Perm (((strKind P w).hash k, Value.str k tk) :: es.toList) := pm.trans (List.perm_append_singleton _ _)
    have pk : (es1.toList.map keyT).Perm (k :: L) := (pc.map keyT).trans (List.Perm.cons k hp)
    have g1 : ∀ e ∈ es1.toList, GoodT w e := by
      intro e he
      rcases List.mem_cons.mp (pc.mem_iff.mp he) with z | z
      · rw [z]; exact ⟨k, tk, rfl, rfl⟩
      · exact hg e z
    have sz : es1.size = L.length + 1 := by
      have q1 := pk.length_eq
      rw [List.length_map, Array.length_toList, List.length_cons] at q1
      exact q1
    have l1 : w.params.followText "set-order" = true ∨ t1.led = true := by
      rcases hl with z | z
      · exact .inl z
      · exact .inr (by rw [f3]; exact z)
    have ei : ins k L = k :: L := by unfold ins; rw [if_neg hm]
    have nd : (k :: L).Nodup := List.nodup_cons.mpr ⟨hm, hn⟩
    rw [ei] at hQ
    refine wpAny_bind (gw _ ?_)
    split
    · refine wpAny_bind ?_
      rw [hashByValue_scannable 8 hsc]
      refine wpAny_pure ?_
      refine add_tail ?_ hob ⟨g1, pk, nd, by rw [sz]; exact room, ?_, ?_, ?_⟩ ?_
      · intro b s₁ Q' q; cases b
        · exact wpAny_pure q
        · exact wpAny_rule q
      · first | (split <;> first | exact f1 | exact SetTable.fits_plain_off f1) | exact f1
      · first | (split <;> exact f2) | exact f2
      · first | (split <;> exact l1) | exact l1
      · intro h' sb r; dsimp only; exact wpAny_pure (hQ _ _ sb r)
    · refine wpAny_bind (wpAny_pure ?_)
      simp only [↓reduceIte]
      refine add_tail ?_ hob ⟨g1, pk, nd, by rw [sz]; exact room, f1, f2, l1⟩ ?_
      · intro b s₁ Q' q; cases b
        · exact wpAny_pure q
        · exact wpAny_rule q
      · intro h' sb r; dsimp only; exact wpAny_pure (hQ _ _ sb r)
/-- the texts of a list, each once -/
def insAll (xs : List Str) : List Str := xs.foldl (fun L k => ins k L) []
theorem insAll_snoc (xs : List Str) (k : Str) : insAll (xs ++ [k]) = ins k (insAll xs) := by unfold insAll; rw [List.foldl_append]; rfl
theorem ins_len (k : Str) (L : List Str) : (ins k L).length ≤ L.length + 1 := by unfold ins; split <;> simp
theorem foldl_len : ∀ (xs L : List Str), (xs.foldl (fun L k => ins k L) L).length ≤ L.length + xs.length
  | [], L => by simp
  | k :: xs, L => by
    have h1 := foldl_len xs (ins k L)
    have h2 := ins_len k L
    rw [List.foldl_cons, List.length_cons]
    omega
theorem insAll_len (xs : List Str) : (insAll xs).length ≤ xs.length := by
  have := foldl_len xs []
  simpa [insAll] using this
theorem insAll_mem (xs : List Str) (x : Str) : x ∈ insAll xs ↔ x ∈ xs := by
  have key : ∀ (xs L : List Str), x ∈ xs.foldl (fun L k => ins k L) L ↔ x ∈ L ∨ x ∈ xs := by
    intro xs
    induction xs with
    | nil => intro L; simp
    | cons k xs ih =>
      intro L
      rw [List.foldl_cons, ih]
      unfold ins
      by_cases c : k ∈ L
      · rw [if_pos c, List.mem_cons]
        constructor
        · rintro (z | z)
          · exact .inl z
          · exact .inr (.inr z)
        · rintro (z | z | z)
          · exact .inl z
          · subst z; exact .inl c
          · exact .inr z
      · rw [if_neg c, List.mem_cons, List.mem_cons]
        constructor
        · rintro ((z | z) | z)
          · exact .inr (.inl z)
          · exact .inl z
          · exact .inr (.inr z)
        · rintro (z | z | z)
          · exact .inl (.inr z)
          · exact .inl (.inl z)
          · exact .inr z
  have := key xs []
  simpa [insAll] using this
theorem update_txts {I : Addr} {fp wr : List Addr} {G : Array GenState → Array GenState → Prop} {n : Nat} {Pv : Nat → Value → Prop} {St : Nat → Shared → Prop} {R : Result → Shared → Prop}
    (W : WalksS P w A.in1 I fp wr G n Pv St) (D : Addr) (hD : D ∉ fp) (xs : List Str) (hn : n = xs.length) (hb : xs.length + 1 < scanBound) (hval : ∀ i v, Pv i v → ∃ k t, xs[i]? = some k ∧ v = .str k t) :
    ∀ (m i : Nat) (s : Shared), n - i = m → i ≤ n → St i s → TxtSet w s.heap D (insAll (xs.take i)) → (∀ s', Moved (D :: wr) G s s' → TxtSet w s'.heap D (insAll xs) → R (.ok (.ret .none)) s') →
      codeAny (model P w) A (.builtin "set.update.loop" ⟨[.ref D, .ref I], []⟩) R s := by
  have hDw : D ∉ wr := fun z => hD (W.sub _ z)
  have sub : ∀ b ∈ wr, b ∈ D :: wr := fun b z => List.mem_cons_of_mem _ z
  intro m
  induction m with
  | zero =>
    intro i s hm hi hst hS hR
    have e : xs.take i = xs := List.take_of_length_le (by omega)
    have ei : i = n := by omega
    subst ei
    refine codeAny_builtin F.entry_set_update_loop ?_
    rw [Around.under_plainId F.plain_set_update_loop _]
    show wpAny _ A.in1 (pyNext (.ref I) >>= _) _ _ s
    refine wpAny_bind (W.done s _ _ hst fun s' mv => ?_)
    show wpAny _ A.in1 (ret Value.none) _ _ s'
    rw [e] at hS
    exact wpAny_pure (hR s' (mv.mono sub) (hS.keep fun o q => mv.heap D o hDw q))
  | succ m ih =>
    intro i s hm hi hst hS hR
    have lt : i < n := by omega
    refine codeAny_builtin F.entry_set_update_loop ?_
    rw [Around.under_plainId F.plain_set_update_loop _]
    show wpAny _ A.in1 (pyNext (.ref I) >>= _) _ _ s
    refine wpAny_bind (W.item i s _ _ lt hst fun v s' hv hst' mv => ?_)
    obtain ⟨z, t, hz, rfl⟩ := hval i v hv
    have hS1 : TxtSet w s'.heap D (insAll (xs.take i)) := hS.keep fun o q => mv.heap D o hDw q
    show wpAny _ A.in1 (holding [Value.str z t] (setAdd D (.str z t)) >>= _) _ _ s'
    refine wpAny_bind (wpAny_holding ?_)
    unfold setAdd
    refine wpAny_holding ?_
    refine wpAny_bind ((strKind P w).pyHash (k := z) (strKind_is _ _ _ _) ?_)
    have room : (insAll (xs.take i)).length + 1 < scanBound := by
      have q1 := insAll_len (xs.take i)
      rw [List.length_take] at q1
      omega
    refine add_hashed (s := { s' with toks := s'.toks + 1 }) hS1 room fun b h' sb hS2 => ?_
    have hS3 : TxtSet w h' D (insAll (xs.take (i + 1))) := by
      rw [List.take_add_one, hz]
      show TxtSet w h' D (insAll (xs.take i ++ [z]))
      rw [insAll_snoc]
      exact hS2
    refine wpAny_pure ⟨plainId_quiet F.plain_set_update_loop _, ih (i + 1) _ (by omega) lt (W.frame _ s' _ _ hst' (Nat.le_succ _) fun b hb o e => ?_) hS3 fun s'' mv2 hS'' => ?_⟩
    · rw [sb.2 b (fun q : b = D => hD (by rw [← q]; exact hb))]; exact e
    · refine hR s'' (Moved.trans W.gtrans ((mv.mono sub).then_heap (Nat.le_succ _) fun b o hb e => ?_) mv2) hS''
      rw [sb.2 b (fun q : b = D => hb (by rw [q]; exact List.mem_cons_self))]; exact e
end
end SetS
/-! set(list of texts), sorted(set(list of texts)). -/
namespace SetS
open PySem PySem.Spec PyProof.Rows L2
section
variable {P : Program} {w : World} {A : Around} {E : Value → Shared → Prop} {s : Shared} {a : Addr}
theorem call_set_txts {l : Addr} {items : Array Value} (xs : List Str) {Q : Value → Shared → Prop} (hh : A.handled = none) (hl : s.heap.IsList l items) (hit : StrsAre items.toList xs) (hb : xs.length + 1 < scanBound)
    (k : ∀ (h' : Heap) (tk : Nat), TxtSet w h' s.heap.objs.size (insAll xs) → (∀ b o, s.heap.get? b = some o → h'.get? b = some o) → Q (.ref s.heap.objs.size) { s with heap := h', toks := tk }) :
    wpAny (model P w) A (call (.type "set") [.ref l]) Q E s := by
  have isz : items.size = xs.length := by rw [← StrsAre.len_eq hit, Array.length_toList]
  obtain ⟨c, tl, hmro⟩ := F.called_set.mro
  have hmade := F.called_set.made
  have hsub := F.called_set.sub
  refine wpAny_call (codeAny_of_tree ?_)
  show wpAny _ _ (callAny (.type "set") _) _ _ _
  refine wpAny_pure ⟨Code.quiet_builtin _ (by decide +kernel), codeAny_builtin F.entry_type_call ?_⟩
  rw [Around.under_plain (weight_type_call_type "set" [.ref l] []) rfl]
  have h1 := F.called_set.notType
  have h2 := F.called_set.canCreate
  have hct := F.typeCall_set_1 (.ref l)
  repeat (any_goals (first | assumption | wp_step))
  refine codeAny_mono (code_set_led1 (.ref l) (E := E) (Q₁ := fun obj s₁ => obj = .ref s.heap.objs.size ∧ s₁ = { s with heap := s.heap.push (newSet w) }) ⟨rfl, rfl⟩) fun r s₁ hr => ?_
  cases r with
  | error e => exact hr
  | ok fl =>
    cases fl with
    | ret obj =>
      obtain ⟨rfl, rfl⟩ := hr
      have hS : (s.heap.push (newSet w)).get? s.heap.objs.size = some (newSet w) := Heap.get?_push_size _ rfl
      have hT : Shared.TypeIs { s with heap := s.heap.push (newSet w) } (.ref s.heap.objs.size) "set" := ⟨_, hS, rfl⟩
      have hli := F.called_set.init.lookup
      have hbi := F.called_set.init.bind (.ref s.heap.objs.size)
      repeat (any_goals (first | assumption | wp_step))
      refine codeAny_mono (codeAny_call_builtin (R := wants (fun r s₂ => r = .none ∧ ∃ h' tk, s₂ = { s with heap := h', toks := tk } ∧ TxtSet w h' s.heap.objs.size (insAll xs) ∧ ∀ b o, s.heap.get? b = some o → h'.get? b = some o) E)
        F.called_set.init.plain F.entry_set_init (check_set_init_1 hT ?_)) fun r₂ s₂ hr₂ => ?_
      · obtain ⟨ol, hol, hcl, nl, hdl⟩ := hl
        obtain ⟨ocls, odict, odata, oslots⟩ := ol
        simp only at hcl hdl
        subst hcl; subst hdl
        have hol' : (s.heap.push (newSet w)).get? l = some { cls := .type "list", dict := odict, data := .seq items nl, slots := oslots } := Heap.get?_push_of_some _ hol
        have hsls := F.sub_list_set
        have hslf := F.sub_list_frozenset
        have hne : (Value.type "list" == Value.type "dict") = false := by decide
        have hl1 : (s.heap.push (newSet w)).IsList l items := ⟨_, hol', rfl, nl, rfl⟩
        unfold Builtin.«set.__init__» noKeywords Builtin.Frozenset.updateFrom
        generalize hPI : pyIter = PI
        wp_walk
        subst hPI
        refine wpAny_pyIter_list hl1 ?_
        refine wpAny_bind (wpAny_runValue ?_)
        have hlS : l < s.heap.objs.size := Heap.lt_size hol
        have hh3 : A.in1.in1.in1.handled = none := by simp [hh]
        have zI : (s.heap.push (newSet w)).objs.size = s.heap.objs.size + 1 := Heap.size_push ..
        have hneI : l ≠ (s.heap.push (newSet w)).objs.size := by rw [zI]; exact Nat.ne_of_lt (Nat.lt_succ_of_lt hlS)
        have hSf : s.heap.objs.size ∉ [(s.heap.push (newSet w)).objs.size, l] := by
          rw [zI]
          intro z
          rcases List.mem_cons.mp z with z | z
          · exact absurd z (Nat.ne_of_lt (Nat.lt_succ_self _))
          · exact absurd (List.mem_singleton.mp z) (Nat.ne_of_gt hlS)
        have hval : ∀ (i : Nat) (v : Value), items[i]? = some v → ∃ k t, xs[i]? = some k ∧ v = .str k t := fun i v hv => by
          have hi : i < xs.length := by rw [← isz]; exact (Array.getElem?_eq_some_iff.mp hv).1
          obtain ⟨t, e⟩ := SS.strs_at hit i v (by rw [Array.getElem?_toList]; exact hv)
          refine ⟨xs[i], t, List.getElem?_eq_getElem hi, ?_⟩
          rw [e, List.getD_eq_getElem?_getD, List.getElem?_eq_getElem hi]
          rfl
        refine update_txts ((Walks.list hh3 _ l hneI items).toS) s.heap.objs.size hSf xs isz hb hval (items.size - 0) 0 _ (by omega) (Nat.zero_le _) ⟨⟨_, Heap.get?_push_size _ rfl, rfl, rfl⟩, (hl1.push _)⟩ ?hS0 ?hR
        case hS0 => exact TxtSet.start (Heap.get?_push_of_some _ hS)
        case hR =>
          intro s' mv hS'
          obtain ⟨h', g2, d', tk', os'⟩ := s'
          have eg : g2 = s.gens := mv.gens
          have ed : d' = s.drawn := mv.drawn
          have eo : os' = s.os := mv.os
          subst eg; subst ed; subst eo
          show wpAny _ _ _ _ _ _
          refine wpAny_pure ?_
          show wpAny _ _ (ret Value.none) _ _ _
          refine wpAny_pure ⟨rfl, h', tk', rfl, hS', fun b o e => ?_⟩
          have lt : b < s.heap.objs.size := Heap.lt_size e
          refine mv.heap b o (fun z => ?_) (Heap.get?_push_of_some _ (Heap.get?_push_of_some _ e))
          rcases List.mem_cons.mp z with z | z
          · exact absurd z (Nat.ne_of_lt lt)
          · have z2 := List.mem_singleton.mp z
            rw [zI] at z2
            exact absurd z2 (Nat.ne_of_lt (Nat.lt_succ_of_lt lt))
      · cases r₂ with
        | error e => exact hr₂
        | ok fl₂ =>
          cases fl₂ with
          | ret r =>
            obtain ⟨rfl, h', tk, rfl, hS', hk'⟩ := hr₂
            repeat (any_goals (first | assumption | wp_step))
            exact k _ _ hS' hk'
          | _ => exact hr₂.elim
    | _ => exact hr.elim
/-! ### sorted -/
theorem alikeStrs (L : List Str) : PySem.W.AllAlike (L.map PyData.str) := PySem.W.AllAlike.of (enc := PyData.str) fun _ _ => by simp [PySem.W.alike]
def lexLe (x y : Str) : Bool := decide (x.cps.toList ≤ y.cps.toList)
theorem strsOf : ∀ {vs : List Value} {bs : List Str}, PySem.W.EachIs (fun v b => ∃ t, v = Value.str b t) vs bs → StrsAre vs bs
  | _, _, .nil => .nil
  | _, _, .cons ⟨t, e⟩ r => by
    subst e
    exact .cons _ t (strsOf r)
theorem sorted_txts {L : List Str} {Q : Value → Shared → Prop} (R : TxtSet w s.heap a L) (hh : A.handled = none) (hL : L.length ≤ 1000) (hu : A.units + 3 < cLine)
    (hQ : ∀ (s' : Shared) (p : Addr) (out : Array Value) (c : Nat) (B : List Str), (∀ b o, s.heap.get? b = some o → s'.heap.get? b = some o) → s'.gens = s.gens → s'.os = s.os → s.heap.objs.size ≤ p →
      s'.heap.get? p = some (seqObj "list" out c) → StrsAre out.toList (B.mergeSort lexLe) → B.Perm L → Q (.ref p) s') :
    wpAny (model P w) A (call (.builtin "sorted") [.ref a]) Q E s := by
  obtain ⟨o, es, ep, t, ⟨ho, hex, hd⟩, hg, hp, hn, hb, hf, hr, hl⟩ := R
  refine Calls.call_function_entry kind_sorted plain_sorted entry_sorted (args_sorted1 _) ?_
  unfold Builtin.«sorted»
  refine wpAny_bind (m := checkCount "sorted" 1 1 _) (wpAny_pure ?_)
  refine wpAny_bind (collect_set (A := A.in1) hh ⟨o, ho, hex.1, hd⟩ hf hb hr hl fun s1 vs k1 hz g1 o1 pm => ?_)
  have each : ∀ us : List Value, (∀ v ∈ us, ∃ e ∈ es.toList, e.2 = v) → PySem.W.EachIs (fun v b => ∃ t, v = Value.str b t) us (us.map fun v => keyT (0, v)) := by
    intro us
    induction us with
    | nil => intro _; exact .nil
    | cons v us ih =>
      intro hv
      obtain ⟨e, he, q⟩ := hv v List.mem_cons_self
      obtain ⟨k, tk, h1, _⟩ := hg e he
      refine .cons ?_ (ih fun u hu2 => hv u (List.mem_cons_of_mem _ hu2))
      rw [← q, h1]
      exact ⟨tk, rfl⟩
  have hE := each vs fun v hv => by
    obtain ⟨e, he, q⟩ := List.mem_map.mp (pm.mem_iff.mp hv)
    exact ⟨e, he, q⟩
  have pB : (vs.map fun v => keyT (0, v)).Perm L := by
    have q1 := pm.map fun v => keyT (0, v)
    rw [List.map_map] at q1
    exact q1.trans hp
  have lenB : (vs.map fun v => keyT (0, v)).length ≤ 1000 := by rw [pB.length_eq]; exact hL
  generalize vs.map (fun v => keyT (0, v)) = B at hE pB lenB
  have lenV : vs.length ≤ 1000 := by rw [hE.length]; exact lenB
  refine wpAny_bind (wpAny_newList ?_ (by rw [sizeLine_eq]; omega))
  have hoL : (s1.heap.push (seqObj "list" vs.toArray 0)).get? s1.heap.objs.size = some (seqObj "list" vs.toArray 0) := Heap.get?_push_size _ rfl
  have hR : PySem.W.EachIs (fun v b => ∃ as, Reads (s1.heap.push (seqObj "list" vs.toArray 0)) v (PyData.str b) as ∧ s1.heap.objs.size ∉ as) vs B := by
    refine PySem.W.EachIs.mono (fun v b z => ?_) hE
    obtain ⟨t, rfl⟩ := z
    exact ⟨[], .str .., List.not_mem_nil⟩
  refine wpAny_bind (wpAny_holding (PySem.W.list_sort_data (s := { s1 with heap := s1.heap.push (seqObj "list" vs.toArray 0) }) (enc := PyData.str) hoL hE hR (alikeStrs B) (PySem.W.Sortable.others fun b => ⟨fun z => (nomatch z), fun _ z => (nomatch z)⟩) (by rw [sizeLine_eq]; omega) (fun b _ => by
    show A.units + 1 + 1 + 0 < cLine
    omega) fun out a1 a2 => ?_))
  obtain ⟨c, hc⟩ := sortedHeap_at (vs := vs) (out := out.toArray) hoL
  refine wpAny_pure ⟨_, rfl, hQ _ s1.heap.objs.size out.toArray c B (fun b u e => ?_) g1 o1 hz hc ?_ pB⟩
  · have q := k1 b u e
    have lt := Heap.lt_size q
    show (sortedHeap (s1.heap.push (seqObj "list" vs.toArray 0)) s1.heap.objs.size vs out.toArray).get? b = some u
    rw [sortedHeap_old (Nat.ne_of_lt lt) (by rw [Heap.size_push]; exact Nat.lt_succ_of_lt lt)]
    exact Heap.get?_push_of_some _ q
  · have el : lexLe = PySem.W.dataLe false PyData.str := (PySem.W.dataLe_str (fun b : Str => b)).symm
    rw [el]
    exact strsOf a2
end
end SetS
/-! sorted(set(xs)), xs a list of texts: the rule. -/
namespace My
open PySem PySem.Spec L2 SX
open PyProof.Rows hiding St
section
variable {X : Cx} {K : PySem.W.Frag} {σ : St} {H : Hp} {Q : VK}
/-- the texts, each once, sorted -/
def sortS (ws : List (List Nat)) : List (List Nat) := ((SetS.insAll (ws.map S)).mergeSort SetS.lexLe).map fun z => z.cps.toList
def tSortSet (K : PySem.W.Frag) (ta : TE) : TE := fun σ H Q => ta σ H fun x H1 => ∃ (l : Addr) (ws : List (List Nat)), x = .ref l ∧ SqL K H1 l (ws.map fun w => V.str (S w)) ∧ ws.length ≤ 1000 ∧ ∀ p (us : List (List Nat)), H1 p = none → us.Pairwise (· < ·) → (∀ u, u ∈ us ↔ u ∈ ws) → Q (.ref p) (upd H1 p (.lst (us.map fun w => V.str (S w))))
theorem vals_strs : ∀ {ws : List Str} {us : List Value}, StrsAre us ws → Vals (ws.map V.str) us
  | _, _, .nil => .nil
  | _, _, .cons x t r => .cons ⟨t, rfl⟩ (vals_strs r)
theorem strs_vals : ∀ {ws : List Str} {us : List Value}, Vals (ws.map V.str) us → StrsAre us ws
  | [], _, .nil => .nil
  | w :: ws, _, .cons r t => by
    obtain ⟨k, rfl⟩ := r
    exact .cons w k (strs_vals t)
theorem lexLe_trans (a b c : Str) (h1 : SetS.lexLe a b = true) (h2 : SetS.lexLe b c = true) : SetS.lexLe a c = true := by
  unfold SetS.lexLe at *
  rw [decide_eq_true_eq] at *
  exact List.le_trans h1 h2
theorem lexLe_total (a b : Str) : (SetS.lexLe a b || SetS.lexLe b a) = true := by
  unfold SetS.lexLe
  rw [Bool.or_eq_true, decide_eq_true_eq, decide_eq_true_eq]
  exact List.le_total _ _
theorem S_list (z : Str) : S z.cps.toList = z := by
  cases z
  rfl
theorem insAll_nodup (xs : List Str) : (SetS.insAll xs).Nodup := by
  have key : ∀ (xs L : List Str), L.Nodup → (xs.foldl (fun L k => SetS.ins k L) L).Nodup := by
    intro xs
    induction xs with
    | nil => intro L h; exact h
    | cons k xs ih =>
      intro L h
      refine ih _ ?_
      show (SetS.ins k L).Nodup
      unfold SetS.ins
      split
      · exact h
      · rename_i c
        exact List.nodup_cons.mpr ⟨c, h⟩
  exact key xs [] List.nodup_nil
theorem pe_sortSet {a : Expr} {ta : TE} {p p2 q pos : Pos} (hc : X.calm = true) (hu : X.A.units + 100 < cLine) (hg : Gl X "sorted") (hm : X.mg "sorted" = none) (hg2 : Gl X "set") (hm2 : X.mg "set" = none) (ha : PE X a ta)
    (na : starEach [a] X.env = (false, eval a X.env) :: starEach [] X.env := by rfl) : PE X (.Call (.Name "sorted" p) [.Call (.Name "set" p2) [a] [] q] [] pos) (tSortSet X.K ta) := by
  refine ⟨fun pins s σ H Q I h => ?_⟩
  refine Call_ (ld_blt I hg hm boot_sorted ?_)
  refine callWith_builtin1 (args_cons ?_ rfl) rfl rfl
  refine Call_ (ld_blt I hg2 hm2 boot_set ?_)
  refine callWith_type1 (args_cons (thn (ha.run pins s σ H _ I h) fun v s1 ⟨x, H1, I1, r1, q1⟩ => args_nil ?_) na) na rfl
  obtain ⟨l, ws, rfl, hq, h1, q1⟩ := q1
  cases r1
  obtain ⟨its, r, pl, hz⟩ := I1.list hq
  have hst : StrsAre its (ws.map S) := strs_vals (by rw [List.map_map]; exact r)
  refine SetS.call_set_txts (ws.map S) (I1.ok.hd hc) pl.isList (by simpa using hst) (by rw [List.length_map]; unfold scanBound; omega) fun h' tk hS hk => args_nil ?_
  have I2 : Inv X pins σ H1 { s1 with heap := h', toks := tk } := I1.kept hk
  have hL := SetS.insAll_len (ws.map S)
  rw [List.length_map] at hL
  refine SetS.sorted_txts hS (I1.ok.hd hc) (by omega) (by omega) fun s' pt out c B k2 g2 o2 hp hg3 hi pB => ?_
  have nB : B.Nodup := pB.nodup_iff.mpr (insAll_nodup _)
  have pM := List.mergeSort_perm B SetS.lexLe
  have hnone : H1 pt = none := I2.hok.fresh hp
  have lenM : (B.mergeSort SetS.lexLe).length ≤ 1000 := by rw [pM.length_eq, pB.length_eq]; omega
  have J : Inv X pins σ (upd H1 pt (.lst ((B.mergeSort SetS.lexLe).map V.str))) { ({ s1 with heap := h', toks := tk } : Shared) with heap := s'.heap, gens := s'.gens, drawn := s'.drawn, toks := s'.toks } := by
    refine I2.call (ch := []) (Un.laid k2 hp hnone) (I2.hok.laid k2 hp ⟨?_, out.toList, c, vals_strs hi, hg3⟩) (by rw [g2]; exact I2.bare) (fun _ z => nomatch z)
    rw [List.length_map, sizeLine_eq]
    omega
  have e : s' = { ({ s1 with heap := h', toks := tk } : Shared) with heap := s'.heap, gens := s'.gens, drawn := s'.drawn, toks := s'.toks } := by
    cases s'
    cases s1
    cases o2
    rfl
  rw [e]
  refine ⟨.ref pt, _, J, rfl, ?_⟩
  have e2 : (B.mergeSort SetS.lexLe).map V.str = ((B.mergeSort SetS.lexLe).map fun z => z.cps.toList).map fun w => V.str (S w) := by
    rw [List.map_map]
    refine List.map_congr_left fun z _ => ?_
    show V.str z = V.str (S z.cps.toList)
    rw [S_list]
  rw [e2]
  refine q1 pt _ hnone ?_ fun u => ?_
  · rw [List.pairwise_map]
    have sp := List.pairwise_mergeSort lexLe_trans lexLe_total B
    have nM : (B.mergeSort SetS.lexLe).Nodup := pM.nodup_iff.mpr nB
    refine List.Pairwise.imp₂ (fun x y h1 h2 => ?_) sp nM
    unfold SetS.lexLe at h1
    rw [decide_eq_true_eq] at h1
    by_cases z : x.cps.toList < y.cps.toList
    · exact z
    · exfalso
      apply h2
      have z2 : x.cps.toList = y.cps.toList := List.le_antisymm h1 (by simpa using z)
      rw [← S_list x, ← S_list y, z2]
  · rw [List.mem_map]
    constructor
    · rintro ⟨z, hz, rfl⟩
      have h3 := (SetS.insAll_mem _ z).mp (pB.mem_iff.mp (pM.mem_iff.mp hz))
      obtain ⟨w, hw, rfl⟩ := List.mem_map.mp h3
      simpa using hw
    · intro hu2
      exact ⟨S u, pM.mem_iff.mpr (pB.mem_iff.mpr ((SetS.insAll_mem _ _).mpr (List.mem_map.mpr ⟨u, hu2, rfl⟩))), by simp⟩
def qSortSet (K : PySem.W.Frag) (x : V) (H1 : Hp) (Q : VK) : Prop := ∃ (l : Addr) (ws : List (List Nat)), x = .ref l ∧ SqL K H1 l (ws.map fun w => V.str (S w)) ∧ ws.length ≤ 1000 ∧ ∀ p (us : List (List Nat)), H1 p = none → us.Pairwise (· < ·) → (∀ u, u ∈ us ↔ u ∈ ws) → Q (.ref p) (upd H1 p (.lst (us.map fun w => V.str (S w))))
theorem rd_sortSet {ta : TE} (h : ta σ H fun x H1 => qSortSet K x H1 Q) : tSortSet K ta σ H Q := h
theorem ix_listK (K : PySem.W.Frag) (hK : X.K = K) : IxR X (rIxL K) := by
  subst hK
  exact ix_list
theorem ix_tupK (K : PySem.W.Frag) (hK : X.K = K) : IxR X (rIxT K) := by
  subst hK
  exact ix_tup
end
end My
namespace My
open PySem PySem.Spec L2 SX
open PyProof.Rows hiding St
def top (i : Nat) : Stmt := PySem.Challenge.pw_wordfolds_k25_whole_roots_and_turns_coun.main.body.getD i (.Pass ⟨0, 0, 0, 0⟩)
abbrev s_is_number : Stmt := top 6
abbrev s_check_word : Stmt := top 10
abbrev s_check_letters : Stmt := top 12
abbrev s_check_filled : Stmt := top 13
abbrev s_border_lengths : Stmt := top 14
abbrev s_borders : Stmt := top 15
abbrev s_periods : Stmt := top 16
abbrev s_root_of : Stmt := top 17
abbrev s_divisors : Stmt := top 18
abbrev s_raised : Stmt := top 19
abbrev s_roots_count : Stmt := top 20
abbrev s_check_counts : Stmt := top 21
abbrev s_many_roots : Stmt := top 22
abbrev s_many_turns : Stmt := top 23
abbrev s_overlap : Stmt := top 24
abbrev s_turns_of : Stmt := top 25
abbrev s__law_hand : Stmt := top 27
abbrev s__law_draw : Stmt := top 28
abbrev s__law_words : Stmt := top 29
abbrev s__law_is : Stmt := top 30
abbrev s__law_some : Stmt := top 31
abbrev s__law_word : Stmt := top 32
abbrev s__law_is_power : Stmt := top 33
abbrev s__law_turns : Stmt := top 34
abbrev s_law : Stmt := top 35
abbrev N_is_number : List Str := ["thing"]
theorem sc_is_number : FnScope N_is_number ["thing"] (defScope s_is_number) := ⟨rfl, rfl, rfl, by decide +kernel, rfl, by decide +kernel, by decide +kernel⟩
abbrev N_check_word : List Str := ["word", "letters", "most", "one"]
theorem sc_check_word : FnScope N_check_word ["word", "letters", "most"] (defScope s_check_word) := ⟨rfl, rfl, rfl, by decide +kernel, rfl, by decide +kernel, by decide +kernel⟩
abbrev N_check_letters : List Str := ["word"]
theorem sc_check_letters : FnScope N_check_letters ["word"] (defScope s_check_letters) := ⟨rfl, rfl, rfl, by decide +kernel, rfl, by decide +kernel, by decide +kernel⟩
abbrev N_check_filled : List Str := ["word"]
theorem sc_check_filled : FnScope N_check_filled ["word"] (defScope s_check_filled) := ⟨rfl, rfl, rfl, by decide +kernel, rfl, by decide +kernel, by decide +kernel⟩
abbrev N_border_lengths : List Str := ["word", "found", "sign", "here"]
theorem sc_border_lengths : FnScope N_border_lengths ["word"] (defScope s_border_lengths) := ⟨rfl, rfl, rfl, by decide +kernel, rfl, by decide +kernel, by decide +kernel⟩
abbrev N_borders : List Str := ["word", "lengths", "found", "here"]
theorem sc_borders : FnScope N_borders ["word"] (defScope s_borders) := ⟨rfl, rfl, rfl, by decide +kernel, rfl, by decide +kernel, by decide +kernel⟩
abbrev N_periods : List Str := ["word", "length"]
theorem sc_periods : FnScope N_periods ["word"] (defScope s_periods) := ⟨rfl, rfl, rfl, by decide +kernel, rfl, by decide +kernel, by decide +kernel⟩
abbrev N_root_of : List Str := ["word", "period"]
theorem sc_root_of : FnScope N_root_of ["word"] (defScope s_root_of) := ⟨rfl, rfl, rfl, by decide +kernel, rfl, by decide +kernel, by decide +kernel⟩
abbrev N_divisors : List Str := ["number", "one"]
theorem sc_divisors : FnScope N_divisors ["number"] (defScope s_divisors) := ⟨rfl, rfl, rfl, by decide +kernel, rfl, by decide +kernel, by decide +kernel⟩
abbrev N_raised : List Str := ["number", "times", "found", "turn"]
theorem sc_raised : FnScope N_raised ["number", "times"] (defScope s_raised) := ⟨rfl, rfl, rfl, by decide +kernel, rfl, by decide +kernel, by decide +kernel⟩
abbrev N_roots_count : List Str := ["letters", "length", "whole", "part"]
theorem sc_roots_count : FnScope N_roots_count ["letters", "length"] (defScope s_roots_count) := ⟨rfl, rfl, rfl, by decide +kernel, rfl, by decide +kernel, by decide +kernel⟩
abbrev N_check_counts : List Str := ["letters", "length"]
theorem sc_check_counts : FnScope N_check_counts ["letters", "length"] (defScope s_check_counts) := ⟨rfl, rfl, rfl, by decide +kernel, rfl, by decide +kernel, by decide +kernel⟩
abbrev N_many_roots : List Str := ["letters", "length"]
theorem sc_many_roots : FnScope N_many_roots ["letters", "length"] (defScope s_many_roots) := ⟨rfl, rfl, rfl, by decide +kernel, rfl, by decide +kernel, by decide +kernel⟩
abbrev N_many_turns : List Str := ["letters", "length", "part"]
theorem sc_many_turns : FnScope N_many_turns ["letters", "length"] (defScope s_many_turns) := ⟨rfl, rfl, rfl, by decide +kernel, rfl, by decide +kernel, by decide +kernel⟩
abbrev N_overlap : List Str := ["one", "other", "length"]
theorem sc_overlap : FnScope N_overlap ["one", "other"] (defScope s_overlap) := ⟨rfl, rfl, rfl, by decide +kernel, rfl, by decide +kernel, by decide +kernel⟩
abbrev N_turns_of : List Str := ["word", "shift"]
theorem sc_turns_of : FnScope N_turns_of ["word"] (defScope s_turns_of) := ⟨rfl, rfl, rfl, by decide +kernel, rfl, by decide +kernel, by decide +kernel⟩
abbrev N__law_hand : List Str := ["script", "cells", "cell"]
theorem sc__law_hand : FnScope N__law_hand ["script"] (defScope s__law_hand) := ⟨rfl, rfl, rfl, by decide +kernel, rfl, by decide +kernel, by decide +kernel⟩
abbrev N__law_draw : List Str := ["hand", "limit", "cell", "digit", "number"]
theorem sc__law_draw : FnScope N__law_draw ["hand", "limit"] (defScope s__law_draw) := ⟨rfl, rfl, rfl, by decide +kernel, rfl, by decide +kernel, by decide +kernel⟩
abbrev N__law_words : List Str := ["letters", "most", "found", "ends", "turn", "longer", "word", "sign"]
theorem sc__law_words : FnScope N__law_words ["letters", "most"] (defScope s__law_words) := ⟨rfl, rfl, rfl, by decide +kernel, rfl, by decide +kernel, by decide +kernel⟩
abbrev N__law_is : List Str := ["shown", "due", "one", "other"]
theorem sc__law_is : FnScope N__law_is ["shown", "due"] (defScope s__law_is) := ⟨rfl, rfl, rfl, by decide +kernel, rfl, by decide +kernel, by decide +kernel⟩
abbrev N__law_some : List Str := ["hand", "things"]
theorem sc__law_some : FnScope N__law_some ["hand", "things"] (defScope s__law_some) := ⟨rfl, rfl, rfl, by decide +kernel, rfl, by decide +kernel, by decide +kernel⟩
abbrev N__law_word : List Str := ["hand", "letters", "most", "turn"]
theorem sc__law_word : FnScope N__law_word ["hand", "letters", "most"] (defScope s__law_word) := ⟨rfl, rfl, rfl, by decide +kernel, rfl, by decide +kernel, by decide +kernel⟩
abbrev N__law_is_power : List Str := ["word", "part"]
theorem sc__law_is_power : FnScope N__law_is_power ["word"] (defScope s__law_is_power) := ⟨rfl, rfl, rfl, by decide +kernel, rfl, by decide +kernel, by decide +kernel⟩
abbrev N__law_turns : List Str := ["word", "shift"]
theorem sc__law_turns : FnScope N__law_turns ["word"] (defScope s__law_turns) := ⟨rfl, rfl, rfl, by decide +kernel, rfl, by decide +kernel, by decide +kernel⟩
abbrev N_law : List Str := ["script", "hand", "letters", "length", "words", "great", "parts", "whole", "turn", "one", "two", "both", "word", "part"]
theorem sc_law : FnScope N_law ["script"] (defScope s_law) := ⟨rfl, rfl, rfl, by decide +kernel, rfl, by decide +kernel, by decide +kernel⟩
structure Txt (K : PySem.W.Frag) (mg : Str → Option Value) : Prop where
  n_int : mg "int" = none
  n_isinstance : mg "isinstance" = none
  n_bool : mg "bool" = none
  n_str : mg "str" = none
  n_len : mg "len" = none
  n_sorted : mg "sorted" = none
  n_range : mg "range" = none
  n_sum : mg "sum" = none
  n_min : mg "min" = none
  n_set : mg "set" = none
  n_max : mg "max" = none
  n_abs : mg "abs" = none
  n_tuple : mg "tuple" = none
  n_list : mg "list" = none
  n_zip : mg "zip" = none
  n_all : mg "all" = none
  n_any : mg "any" = none
  c_SIGNS : ∃ u, mg "SIGNS" = some u ∧ RelV (.str (S [97, 98, 99, 100])) u
  c_MOST_SIGNS : ∃ u, mg "MOST_SIGNS" = some u ∧ RelV (.int 300) u
/-- the hand at h: its cells at c -/
def HandAt (H : Hp) (h c : Addr) : Prop := ∃ (cs : List Int) (i z m t : Int), H h = some (.lst [.ref c, .int i, .int z, .int m, .int t]) ∧ H c = some (.lst (cs.map V.int)) ∧ (∀ x ∈ cs, 0 ≤ x) ∧ 0 ≤ i ∧ 0 ≤ z ∧ 0 ≤ m ∧ m < 2 ^ 31 ∧ 0 ≤ t
def sp__law_draw (_ : PySem.W.Frag) : Sp := fun vs H Q _ => ∃ (h c : Addr) (n : Int), vs = [.ref h, .int n] ∧ HandAt H h c ∧ 0 < n ∧ n < 1000000 ∧ ∀ (d : Int) (H' : Hp), 0 ≤ d → d < n → HandAt H' h c → ExB h H H' → Q (.int d) H'
def sp__law_some (_ : PySem.W.Frag) : Sp := fun vs H Q _ => ∃ (h c q : Addr) (l : List Nat), vs = [.ref h, .ref q] ∧ HandAt H h c ∧ H q = some (.lst (signs l)) ∧ q ≠ h ∧ 0 < l.length ∧ l.length < 1000 ∧ ∀ (d : Nat) (H' : Hp), d ∈ l → HandAt H' h c → ExB h H H' → Q (.str (S [d])) H'
def sp__law_hand (K : PySem.W.Frag) : Sp := fun vs H Q _ => ∃ (a : Addr) (ns : List Int), vs = [.ref a] ∧ SqL K H a (ns.map V.int) ∧ ∀ (h c : Addr) (H' : Hp), HandAt H' h c → Same H H' → Q (.ref h) H'
/-- a word over the first n letters -/
def Wd (n : Int) (l : List Nat) : Prop := ∀ c ∈ l, 97 ≤ c ∧ (c : Int) < 97 + n
def sp__law_word (_ : PySem.W.Frag) : Sp := fun vs H Q _ => ∃ (h c : Addr) (n m : Int), vs = [.ref h, .int n, .int m] ∧ HandAt H h c ∧ 1 ≤ n ∧ n ≤ 4 ∧ 0 ≤ m ∧ m ≤ 100 ∧ ∀ (l : List Nat) (H' : Hp), Wd n l → (l.length : Int) ≤ m → HandAt H' h c → ExB h H H' → Q (.str (S l)) H'

open Lyn (sg rootN)
def spUnit (P : List V → Prop) : Sp := fun vs H Q _ => P vs ∧ ∀ H', Same H H' → Q .non H'
def sp_check_word (_ : PySem.W.Frag) : Sp := fun vs H Q _ => ∃ (l : List Nat) (n m : Int), vs = [.str (S l), .int n, .int m] ∧ Wd n l ∧ 0 ≤ n ∧ n ≤ 4 ∧ (l.length : Int) ≤ m ∧ m ≤ 1000 ∧ ∀ H', Same H H' → Q .non H'
def sp_check_letters (_ : PySem.W.Frag) : Sp := fun vs H Q _ => ∃ (l : List Nat), vs = [.str (S l)] ∧ Wd 4 l ∧ l.length ≤ 300 ∧ ∀ H', Same H H' → Q .non H'
def sp_check_filled (_ : PySem.W.Frag) : Sp := fun vs H Q _ => ∃ (l : List Nat), vs = [.str (S l)] ∧ Wd 4 l ∧ l.length ≤ 300 ∧ l ≠ [] ∧ ∀ H', Same H H' → Q .non H'
/-- the lengths that border_lengths tells -/
def bLen (l : List Nat) : List Int := (List.range l.length).map fun k => ((Per.lb (sg l) (k + 1) : Nat) : Int)
def sp_border_lengths (_ : PySem.W.Frag) : Sp := fun vs H Q _ => ∃ (l : List Nat), vs = [.str (S l)] ∧ l ≠ [] ∧ l.length ≤ 300 ∧ ∀ p H', H p = none → Same H H' → H' p = some (.lst ((bLen l).map V.int)) → Q (.ref p) H'
def bordL (l : List Nat) : List Int := (Per.bl (sg l) l.length).map fun (b : Nat) => (b : Int)
def sp_borders (_ : PySem.W.Frag) : Sp := fun vs H Q _ => ∃ (l : List Nat), vs = [.str (S l)] ∧ Wd 4 l ∧ l.length ≤ 300 ∧ ∀ p H', H p = none → Same H H' → H' p = some (.lst ((bordL l).map V.int)) → Q (.ref p) H'
def perL (l : List Nat) : List Int := (Per.pl (sg l) l.length).map fun (b : Nat) => (b : Int)
def sp_periods (_ : PySem.W.Frag) : Sp := fun vs H Q _ => ∃ (l : List Nat), vs = [.str (S l)] ∧ Wd 4 l ∧ l.length ≤ 300 ∧ ∀ p H', H p = none → Same H H' → H' p = some (.lst ((perL l).map V.int)) → Q (.ref p) H'
def sp_root_of (_ : PySem.W.Frag) : Sp := fun vs H Q _ => ∃ (l : List Nat), vs = [.str (S l)] ∧ Wd 4 l ∧ l.length ≤ 300 ∧ l ≠ [] ∧ ∀ p H', H p = none → Same H H' → H' p = some (.tup [.str (S (l.take (rootN l))), .int ((l.length / rootN l : Nat) : Int)]) → Q (.ref p) H'
/-- border_lengths' list behind n signs -/
def bV (l : List Nat) (n : Nat) : List V := (List.range n).map fun k => V.int ((Per.lb (sg l) (k + 1) : Nat) : Int)
theorem bV_len (l : List Nat) (n : Nat) : (bV l n).length = n := by unfold bV; rw [List.length_map, List.length_range]
theorem bV_succ (l : List Nat) (n : Nat) : bV l (n + 1) = bV l n ++ [V.int ((Per.lb (sg l) (n + 1) : Nat) : Int)] := by unfold bV; rw [List.range_succ, List.map_append]; rfl
theorem bV_at (l : List Nat) {n k : Nat} (h : k < n) : (bV l n)[k]? = some (.int ((Per.lb (sg l) (k + 1) : Nat) : Int)) := by unfold bV; simp [h]
theorem bV_all (l : List Nat) : (bLen l).map V.int = bV l l.length := by unfold bLen bV; rw [List.map_map]; rfl
theorem sg_at {l : List Nat} {i : Nat} (h : i < l.length) : l[i]? = some (sg l i) := by unfold sg; simp [h]

/-- a value that is no container -/
def Leaf (x : V) : Prop := (∃ i : Int, x = .int i) ∨ (∃ b : Bool, x = .bl b) ∨ (∃ l : List Nat, x = .str (S l)) ∨ x = .non
def sp__law_is_leaf (_ : PySem.W.Frag) : Sp := fun vs H Q _ => ∃ x, vs = [x, x] ∧ Leaf x ∧ ∀ H', Same H H' → Q (.bl true) H'
def sp__law_is (_ : PySem.W.Frag) : Sp := fun vs H Q _ => ∃ x y, vs = [x, y] ∧ ((x = y ∧ Leaf x) ∨ ∃ (p q : Addr) (xs : List V), x = .ref p ∧ y = .ref q ∧ (∀ z ∈ xs, Leaf z) ∧ xs.length ≤ 50000 ∧ ((H p = some (.lst xs) ∧ H q = some (.lst xs)) ∨ (H p = some (.tup xs) ∧ H q = some (.tup xs)))) ∧ ∀ H', Same H H' → Q (.bl true) H'

def sp_is_number (_ : PySem.W.Frag) : Sp := fun vs H Q _ => ∃ i : Int, vs = [.int i] ∧ ∀ H', Same H H' → Q (.bl true) H'
/-- the parts of n that are less than n, and n -/
def prop (n : Nat) : List Nat := ((List.range (n - 1)).map fun i => 1 + i).filter fun d => decide (n % d = 0)
def divs (n : Nat) : List Nat := prop n ++ [n]
def nInts (l : List Nat) : List V := l.map fun i : Nat => V.int (i : Int)
def sp_divisors (_ : PySem.W.Frag) : Sp := fun vs H Q _ => ∃ n : Nat, vs = [.int (n : Int)] ∧ 1 ≤ n ∧ n ≤ 300 ∧ ∀ p H', H p = none → Same H H' → H' p = some (.lst (nInts (divs n))) → Q (.ref p) H'
def sp_raised (_ : PySem.W.Frag) : Sp := fun vs H Q _ => ∃ k n : Nat, vs = [.int (k : Int), .int (n : Int)] ∧ k ≤ 300 ∧ n ≤ 300 ∧ ∀ H', Same H H' → Q (.int ((k ^ n : Nat) : Int)) H'
/-- roots_count, so deep -/
def rcF : Nat → Nat → Nat → Int
  | 0, _, _ => 0
  | f + 1, k, n => (prop n).foldl (fun a d => a - rcF f k d) ((k ^ n : Nat) : Int)
def sp_roots_count (N : Nat) (_ : PySem.W.Frag) : Sp := fun vs H Q _ => ∃ k n : Nat, vs = [.int (k : Int), .int (n : Int)] ∧ 1 ≤ n ∧ n < 2 ^ N ∧ n ≤ 300 ∧ k ≤ 300 ∧ ∀ H', Same H H' → Q (.int (rcF N k n)) H'
def sp_check_counts (_ : PySem.W.Frag) : Sp := fun vs H Q _ => ∃ k n : Nat, vs = [.int (k : Int), .int (n : Int)] ∧ (1 ≤ k ∧ k ≤ 4) ∧ (1 ≤ n ∧ n ≤ 300) ∧ ∀ H', Same H H' → Q .non H'
def sp_many_roots (_ : PySem.W.Frag) : Sp := fun vs H Q _ => ∃ k n : Nat, vs = [.int (k : Int), .int (n : Int)] ∧ (1 ≤ k ∧ k ≤ 4) ∧ (1 ≤ n ∧ n < 64) ∧ ∀ H', Same H H' → Q (.int (rcF 6 k n)) H'
def mtN (k n : Nat) : Int := ((divs n).map fun d => rcF 6 k d / (d : Int)).sum
def sp_many_turns (_ : PySem.W.Frag) : Sp := fun vs H Q _ => ∃ k n : Nat, vs = [.int (k : Int), .int (n : Int)] ∧ (1 ≤ k ∧ k ≤ 4) ∧ (1 ≤ n ∧ n < 64) ∧ ∀ H', Same H H' → Q (.int (mtN k n)) H'
def ovC (a b : List Nat) (k : Nat) : Bool := decide (a.drop (a.length - k) = b.take k)
/-- the greatest overlap up to so many letters -/
def ovF (a b : List Nat) : Nat → Nat
  | 0 => 0
  | k + 1 => if ovC a b (k + 1) = true then k + 1 else ovF a b k
def sp_overlap (_ : PySem.W.Frag) : Sp := fun vs H Q _ => ∃ a b : List Nat, vs = [.str (S a), .str (S b)] ∧ Wd 4 a ∧ Wd 4 b ∧ a.length ≤ 300 ∧ b.length ≤ 300 ∧ ∀ H', Same H H' → Q (.str (S (b.take (ovF a b (min a.length b.length))))) H'
def txts (ws : List (List Nat)) : List V := ws.map fun w => V.str (S w)
def turnsW (l : List Nat) : List (List Nat) := (List.range (max 1 l.length)).map fun i => l.drop i ++ l.take i
/-- the turns, each once, in order -/
def TurnsAt (H : Hp) (p : Addr) (l : List Nat) (us : List (List Nat)) : Prop := H p = some (.lst (txts us)) ∧ us.Pairwise (· < ·) ∧ ∀ u, u ∈ us ↔ u ∈ turnsW l
def sp_turns_of (_ : PySem.W.Frag) : Sp := fun vs H Q _ => ∃ l : List Nat, vs = [.str (S l)] ∧ Wd 4 l ∧ l.length ≤ 300 ∧ ∀ p us H', H p = none → Same H H' → TurnsAt H' p l us → Q (.ref p) H'
def sp__law_turns (_ : PySem.W.Frag) : Sp := fun vs H Q _ => ∃ l : List Nat, vs = [.str (S l)] ∧ l.length ≤ 300 ∧ ∀ p us H', H p = none → Same H H' → TurnsAt H' p l us → Q (.ref p) H'
def endsW (k : Nat) : Nat → List (List Nat)
  | 0 => [[]]
  | t + 1 => (endsW k t).flatMap fun w => ([97, 98, 99, 100].take k).map fun c => w ++ [c]
def foundW (k m : Nat) : List (List Nat) := (List.range (m + 1)).flatMap (endsW k)
def sp__law_words (_ : PySem.W.Frag) : Sp := fun vs H Q _ => ∃ k m : Nat, vs = [.int (k : Int), .int (m : Int)] ∧ k ≤ 3 ∧ m ≤ 6 ∧ ∀ p H', H p = none → Same H H' → H' p = some (.lst (txts (foundW k m))) → Q (.ref p) H'
def isPow (l : List Nat) : Bool := (List.range (l.length - 1)).any fun i => decide (repL (l.take (1 + i)) (l.length / (1 + i)) = l)
def sp__law_is_power (_ : PySem.W.Frag) : Sp := fun vs H Q _ => ∃ l : List Nat, vs = [.str (S l)] ∧ l.length ≤ 300 ∧ ∀ H', Same H H' → Q (.bl (isPow l)) H'
def sp_law (K : PySem.W.Frag) : Sp := fun vs H Q _ => ∃ (a : Addr) (ns : List Int), vs = [.ref a] ∧ SqL K H a (ns.map V.int) ∧ ∀ H', Q (.bl true) H'
end My
namespace My
open PySem PySem.Spec L2 SX
open PyProof.Rows hiding St
open Lyn (sg rootN)
local macro_rules | `(tactic| walk_at "kb") => `(tactic| first | exact kb_str_str | exact kb_str_int | exact kb_str_bool | exact kb_str_list | exact kb_str_tuple | exact kb_int_str | exact kb_int_int | exact kb_int_bool | exact kb_int_list | exact kb_int_tuple | exact kb_bool_str | exact kb_bool_int | exact kb_bool_bool | exact kb_bool_list | exact kb_bool_tuple | exact kb_list_str | exact kb_list_int | exact kb_list_bool | exact kb_list_list | exact kb_list_tuple | exact kb_tuple_str | exact kb_tuple_int | exact kb_tuple_bool | exact kb_tuple_list | exact kb_tuple_tuple | exact kb_NoneType_str | exact kb_NoneType_int | exact kb_NoneType_bool | exact kb_NoneType_list | exact kb_NoneType_tuple)
local macro_rules | `(tactic| walk_at "hp") => `(tactic| first | assumption | exact upd_same | (refine (upd_ne (by first | assumption | (apply Ne.symm; assumption))).trans ?_; walk_at "hp"))
local macro_rules | `(tactic| walk_at "sq") => `(tactic| first | assumption | exact SqL.of (by walk_at "hp"))
local macro_rules | `(tactic| walk_at "sqt") => `(tactic| first | assumption | exact SqT.of (by walk_at "hp"))
local macro_rules | `(tactic| walk_at "ar") => `(tactic| first | omega | (dsimp only; omega) | (unfold CMul; omega) | (unfold CDiv; omega) | (unfold CPow; refine ⟨?_, ?_, ?_⟩ <;> decide) | (simp only [List.length_cons, List.length_nil]; decide))
local macro_rules | `(tactic| walk_at "rd") => `(tactic| first
  | with_reducible refine rd_seq ?_
  | with_reducible refine rd_asg ?_
  | with_reducible refine rd_if ?_
  | with_reducible refine rd_ret ?_
  | with_reducible refine rd_drop ?_
  | with_reducible refine rd_name ?_
  | with_reducible refine rd_sub ?_
  | ((with_reducible refine' rd_var ?e ?_); (case e => exact rfl))
  | with_reducible refine rd_c ?_
  | with_reducible refine rd_op ?_
  | with_reducible refine rd_un ?_
  | with_reducible refine rd_I0 ?_
  | ((with_reducible refine' rd_I ?c ?_); (case c => walk_at "ar"))
  | with_reducible refine rd_U ?_
  | with_reducible refine rd_eqI ?_
  | with_reducible refine rd_neI ?_
  | with_reducible refine rd_eqS ?_
  | with_reducible refine rd_neS ?_
  | with_reducible refine rd_eqB ?_
  | with_reducible refine rd_neB ?_
  | with_reducible refine rd_test ?_
  | with_reducible refine rd_B ?_
  | with_reducible refine rd_and ?_
  | with_reducible refine rd_or ?_
  | with_reducible refine rd_not ?_
  | with_reducible refine rd_andV ?_
  | with_reducible refine rd_orV ?_
  | with_reducible refine rd_notV ?_
  | with_reducible refine rd_ifE ?_
  | with_reducible refine rd_isN ?_
  | with_reducible refine rd_notN ?_
  | with_reducible refine rd_cons ?_
  | with_reducible refine rd_nil ?_
  | with_reducible refine rd_lst ?_
  | with_reducible refine rd_tup ?_
  | with_reducible refine rd_CB ?_
  | with_reducible refine rd_call ?_
  | with_reducible refine rd_sl ?_
  | with_reducible refine rd_part ?_
  | with_reducible refine rd_nopart ?_
  | with_reducible refine rd_par ?_
  | with_reducible refine rd_two ?_
  | with_reducible refine rd_next ?_
  | with_reducible refine rd_retN ?_
  | with_reducible refine rd_bool ?_
  | with_reducible refine rd_int ?_
  | with_reducible refine rd_intI ?_
  | with_reducible refine rd_intB ?_
  | with_reducible refine rd_ltS ?_
  | with_reducible refine rd_leS ?_
  | with_reducible refine rd_gtS ?_
  | with_reducible refine rd_geS ?_
  | with_reducible refine rd_inC ?_
  | with_reducible refine rd_notInC ?_
  | with_reducible refine rd_abs ?_
  | with_reducible refine rd_max2 ?_
  | with_reducible refine rd_min2 ?_
  | with_reducible refine rd_M1 ?_
  | with_reducible refine rd_isStr ?_
  | ((with_reducible refine' rd_len ?b ?_); (case b => (simp only [List.length_cons, List.length_nil]; decide)))
  | ((with_reducible refine' rd_listS ?b ?_); (case b => first | (simp only [List.length_take, List.length_cons, List.length_nil]; omega) | omega))
  | ((with_reducible refine' rd_isi ?ty ?h ?_); (case ty => first | exact ty_str | exact ty_int | exact ty_bl | exact ty_non | exact ty_lst (by walk_at "hp") | exact ty_tup (by walk_at "hp")); (case h => walk_at "kb"))
  | with_reducible refine rd_lc ?_
  | with_reducible refine rd_for ?_
  | with_reducible refine rd_iList ?_
  | with_reducible refine rd_iTup ?_
  | with_reducible refine rd_iRng1 ?_
  | with_reducible refine rd_iRng2 ?_
  | with_reducible refine rd_iRng3 ?_
  | with_reducible refine rd_iStr ?_
  | with_reducible refine rd_qIs ?_
  | with_reducible refine rd_whb ?_
  | ((with_reducible refine' rd_qIl ?sq ?_); (case sq => walk_at "sq"))
  | ((with_reducible refine' rd_qItu ?sq ?_); (case sq => walk_at "sqt"))
  | ((with_reducible refine' rd_qIr1 ?b1 ?b2 ?_); (case b1 => walk_at "ar"); (case b2 => walk_at "ar"))
  | ((with_reducible refine' rd_qIr2 ?b1 ?b2 ?b3 ?b4 ?_); (case b1 => walk_at "ar"); (case b2 => walk_at "ar"); (case b3 => walk_at "ar"); (case b4 => walk_at "ar"))
  | ((with_reducible refine' rd_qIr3 ?b1 ?b2 ?b3 ?b4 ?_); (case b1 => walk_at "ar"); (case b2 => walk_at "ar"); (case b3 => walk_at "ar"); (case b4 => walk_at "ar"))
  | ((with_reducible refine' rd_mulS ?b1 ?b2 ?b3 ?_); (case b1 => walk_at "ar"); (case b2 => walk_at "ar"); (case b3 => walk_at "ar"))
  | ((with_reducible refine' rd_slS_to ?b1 ?b2 ?_); (case b1 => walk_at "ar"); (case b2 => walk_at "ar"))
  | ((with_reducible refine' rd_slS_from ?b1 ?b2 ?_); (case b1 => walk_at "ar"); (case b2 => walk_at "ar"))
  | ((with_reducible refine' rd_slS_mid ?b1 ?b2 ?b3 ?b4 ?_); (case b1 => walk_at "ar"); (case b2 => walk_at "ar"); (case b3 => walk_at "ar"); (case b4 => walk_at "ar"))
  | ((with_reducible refine' rd_slL ?sq ?_); (case sq => walk_at "sq"))
  | with_reducible refine rd_true ?_
  | with_reducible refine rd_false ?_
  | with_reducible refine rd_nt ?_
  | with_reducible refine rd_nf ?_
  | ((with_reducible refine' rd_decT ?h ?_); (case h => omega))
  | ((with_reducible refine' rd_decF ?h ?_); (case h => omega))
  | ((with_reducible refine' rd_ndecT ?h ?_); (case h => omega))
  | ((with_reducible refine' rd_ndecF ?h ?_); (case h => omega))
  | ((with_reducible refine' rd_evT ?h ?_); (case h => first | exact rfl | (simp; done)))
  | ((with_reducible refine' rd_evF ?h ?_); (case h => first | exact rfl | (simp; done)))
  | ((with_reducible refine' rd_ixL ?sq ?a1 ?_); (case sq => walk_at "sq"); (case a1 => first | exact rfl | exact at_of (by omega) (by assumption)))
  | ((with_reducible refine' rd_ixT ?sq ?a1 ?_); (case sq => walk_at "sqt"); (case a1 => first | exact rfl | exact at_of (by omega) (by assumption)))
  | ((with_reducible refine' rd_lenL ?sq ?_); (case sq => walk_at "sq"))
  | ((with_reducible refine' rd_lenT ?sq ?_); (case sq => walk_at "sqt"))
  | ((with_reducible refine' rd_setL ?h ?j ?_); (case h => walk_at "hp"); (case j => exact rfl); (with_reducible refine id ?_))
  | ((with_reducible refine' rd_strlen ?l ?_); (case l => walk_at "ar"))
  | ((with_reducible refine' rd_cat ?l ?_); (case l => walk_at "ar")))
local macro_rules | `(tactic| walk_at "go") => `(tactic| ((try dsimp only); (repeat (walk_at "rd"))))
local macro_rules | `(tactic| walk_at "rd") => `(tactic| first
  | with_reducible refine rd_lstRg ?_
  | with_reducible refine rd_tRg1 ?_
  | with_reducible refine rd_tRg2 ?_
  | with_reducible refine rd_rg1 ?_
  | with_reducible refine rd_rg2 ?_
  | ((with_reducible refine' rd_qRg ?b ?_); (case b => refine ⟨?_, ?_, ?_, ?_⟩ <;> omega))
  | with_reducible refine rd_sortSet ?_
  | with_reducible refine rd_tDGet ?_
  | with_reducible refine rd_sDPut ?_
  | with_reducible refine rd_dnew ?_
  | with_reducible refine rd_iZipS ?_
  | with_reducible refine rd_zipS ?_
  | ((with_reducible refine' rd_inI ?sq ?_); (case sq => walk_at "sq"))
  | ((with_reducible refine' rd_notInI ?sq ?_); (case sq => walk_at "sq"))
  | with_reducible refine rd_chain ?_)

section
variable {P : Program} {w : World} {K : PySem.W.Frag} {mg : Str → Option Value} {base : Heap}
theorem cells_ne {H : Hp} {h c : Addr} {cs : List Int} {i z m t : Int} (h1 : H h = some (.lst [.ref c, .int i, .int z, .int m, .int t])) (h2 : H c = some (.lst (cs.map V.int))) : c ≠ h := ne_of h2 h1 (by
    intro e
    have e2 := congrArg (fun o => match o with | HO.lst xs => xs.head? | _ => none) e
    cases cs <;> simp at e2)
theorem get_cell {cs : List Int} {i : Int} (h0 : 0 ≤ i) (h : i < (cs.map V.int).length) : ∃ x, x ∈ cs ∧ (cs.map V.int)[i.toNat]? = some (.int x) := by
  have hl : i.toNat < cs.length := by rw [List.length_map] at h; omega
  exact ⟨cs[i.toNat], List.getElem_mem hl, by simp [hl]⟩
theorem _root_.My.HandAt.ne {H : Hp} {h c p : Addr} (A : HandAt H h c) (n : H p = none) : p ≠ h := by
  obtain ⟨cs, i, z, m, t, h1, _⟩ := A
  exact (ne_of_none h1 n).symm
theorem _root_.My.HandAt.keep {H H' : Hp} {h c : Addr} (A : HandAt H h c) (e : Same H H') : HandAt H' h c := by
  obtain ⟨cs, i, z, m, t, h1, h2, r⟩ := A
  exact ⟨cs, i, z, m, t, e _ _ h1, e _ _ h2, r⟩
theorem _root_.My.HandAt.new {H : Hp} {h c p : Addr} {o : HO} (A : HandAt H h c) (n : H p = none) : HandAt (L2.upd H p o) h c := A.keep (Same.new n)
theorem _root_.My.ExB.back {h D : Addr} {H H' : Hp} (e : ExB h H H') (n : H' D = none) (hD : D ≠ h) : H D = none := by
  cases q : H D with
  | none => rfl
  | some o => rw [e _ _ hD q] at n; cases n
theorem _root_.My.HandAt.neC {H : Hp} {h c p : Addr} (A : HandAt H h c) (n : H p = none) : p ≠ c := by
  obtain ⟨cs, i, z, m, t, _, h1, _⟩ := A
  exact (ne_of_none h1 n).symm
theorem _root_.My.HandAt.upd {H : Hp} {h c D : Addr} {o : HO} (A : HandAt H h c) (hD : D ≠ h) (hc : D ≠ c) : HandAt (L2.upd H D o) h c := by
  obtain ⟨cs, i, z, m, t, h1, h2, r⟩ := A
  exact ⟨cs, i, z, m, t, by rw [upd_ne hD.symm]; exact h1, by rw [upd_ne hc.symm]; exact h2, r⟩
theorem ok__law_draw {f : Addr} {fd : FuncData} (F : Fun K "_law_draw" "_law_draw" s__law_draw f fd) (T : Txt K mg) : FnOk P w K mg base CX0 1 f fd ["hand", "limit"] (sp__law_draw K) := by
  refine F.ok sc__law_draw (fun vs H Q E h => by repeat (first | (obtain ⟨rfl, _⟩ := h; rfl) | obtain ⟨_, h⟩ := h)) (fun cdv A outer s H vs Q E hr h => ?_)
  refine ⟨_, (C8.pss_cut (ps_if (PW.pt (pw_and (pt_cmpR op_eq (pe_ix ix_list (pv 0) pe_int (fun _ _ => rfl)) pe_int (nomark _)) (pw_and1 (pt_cmpR op_lt (pe_ix ix_list (pv 0) pe_int (fun _ _ => rfl)) (pe_callB cq_len rfl T.n_len boot_len (pa_cons (pe_ix ix_list (pv 0) pe_int (fun _ _ => rfl)) pa_nil)) (nomark _))))) (pss_cons (ps_set (i := 2) sc__law_draw.nd rfl (Or.inl rfl) (pe_ix ix_list (pe_ix ix_list (pv 0) pe_int (fun _ _ => rfl)) (pe_ix ix_list (pv 0) pe_int (fun _ _ => rfl)) (fun _ _ => rfl)))
  (pss_cons (ps_asg (pe_op op_add (pe_ix ix_list (pv 0) pe_int (fun _ _ => rfl)) pe_int) (pg_sub (pv 0) pe_int set_list))
  (pss_cons (ps_asg (pe_op op_mod (pe_callTy cq_int rfl T.n_int boot_int (pa_cons (pe_op op_add (pe_op op_add (pe_op op_mul (pe_ix ix_list (pv 0) pe_int (fun _ _ => rfl)) pe_int) (pv 2)) pe_int) pa_nil)) pe_int) (pg_sub (pv 0) pe_int set_list))
  (pss_one (ps_if (pt_cmpR op_ge (pv 2) (pe_op op_pow pe_int pe_int) (nomark _)) (pss_one (ps_asg (pv 2) (pg_sub (pv 0) pe_int set_list))) pss_nil))))) pss_nil)
  (pss_cons (ps_if (pt_cmpR op_gt (pe_ix ix_list (pv 0) pe_int (fun _ _ => rfl)) pe_int (nomark _)) (pss_cons (ps_set (i := 3) sc__law_draw.nd rfl (Or.inl rfl) (pe_op op_mod (pe_callTy cq_int rfl T.n_int boot_int (pa_cons (pe_ix ix_list (pv 0) pe_int (fun _ _ => rfl)) pa_nil)) (pv 1)))
  (pss_cons (ps_asg (pe_op op_fdiv (pe_ix ix_list (pv 0) pe_int (fun _ _ => rfl)) (pv 1)) (pg_sub (pv 0) pe_int set_list))
  (pss_one (ps_ret (pv 3))))) pss_nil)
  (pss_cons (ps_asg (pe_op op_add (pe_ix ix_list (pv 0) pe_int (fun _ _ => rfl)) pe_int) (pg_sub (pv 0) pe_int set_list))
  (pss_cons (ps_set (i := 4) sc__law_draw.nd rfl (Or.inl rfl) (pe_op op_mod (pe_callTy cq_int rfl T.n_int boot_int (pa_cons (pe_op op_mul (pe_callTy cq_int rfl T.n_int boot_int (pa_cons (pe_op op_add (pe_ix ix_list (pv 0) pe_int (fun _ _ => rfl)) (pe_op op_mul pe_int (pe_ix ix_list (pv 0) pe_int (fun _ _ => rfl)))) pa_nil)) pe_int) pa_nil)) pe_int))
  (pss_cons (ps_set (i := 4) sc__law_draw.nd rfl (Or.inl rfl) (pe_op op_mod (pe_callTy cq_int rfl T.n_int boot_int (pa_cons (pe_op op_mul (pv 4) (pe_op op_add (pe_op op_fdiv (pv 4) pe_int) pe_int)) pa_nil)) pe_int))
  (pss_cons (ps_set (i := 4) sc__law_draw.nd rfl (Or.inl rfl) (pe_op op_mod (pe_callTy cq_int rfl T.n_int boot_int (pa_cons (pe_op op_mul (pv 4) (pe_op op_add (pe_op op_fdiv (pv 4) pe_int) pe_int)) pa_nil)) pe_int))
  (pss_one (ps_ret (pe_op op_mod (pe_callTy cq_int rfl T.n_int boot_int (pa_cons (pe_op op_fdiv (pv 4) pe_int) pa_nil)) (pv 1)))))))))), ?_⟩
  try dsimp only [cxOf, Cx.nox, Cx.wish]
  obtain ⟨h, c, n, rfl, HA, hn, hn2, k⟩ := h
  refine ⟨fun σ' H' => ∃ v, σ' = [some (.ref h), some (.int n), v, none, none] ∧ HandAt H' h c ∧ ExB h H H', ?_, ?_⟩
  · obtain ⟨cs, i, z, m, t, h1, h2, hcs, hi, hz, hm, hm2, ht⟩ := id HA
    have hc := cells_ne h1 h2
    walk_at "go"

    refine rd_dec (fun e1 => ?_) (fun e1 => ?_)
    · walk_at "go"
      refine rd_dec (fun e2 => ?_) (fun e2 => ?_)
      · obtain ⟨x, hx, e3⟩ := get_cell hi e2
        have hx0 := hcs x hx
        walk_at "go"
        refine rd_dec (fun e4 => ?_) (fun e4 => ?_)
        · walk_at "go"
          simp only [upd_upd]
          refine ⟨_, rfl, ⟨cs, i + 1, x, _, t, upd_same, (by walk_at "hp"), hcs, by omega, hx0, Int.emod_nonneg _ (by decide), ?_, ht⟩, ExB.upd⟩
          have := Int.emod_lt_of_pos (m * 69621 + x + 29) (show (0 : Int) < 2147483629 by decide)
          omega
        · walk_at "go"
          simp only [upd_upd]
          refine ⟨_, rfl, ⟨cs, i + 1, z, _, t, upd_same, (by walk_at "hp"), hcs, by omega, hz, Int.emod_nonneg _ (by decide), ?_, ht⟩, ExB.upd⟩
          have := Int.emod_lt_of_pos (m * 69621 + x + 29) (show (0 : Int) < 2147483629 by decide)
          omega
      · walk_at "go"
        exact ⟨_, rfl, HA, ExB.refl _ _⟩
    · walk_at "go"
      exact ⟨_, rfl, HA, ExB.refl _ _⟩
  · rintro σ' H1 ⟨v, rfl, HA1, X1⟩
    obtain ⟨cs, i, z, m, t, h1, h2, hcs, hi, hz, hm, hm2, ht⟩ := HA1
    have hc := cells_ne h1 h2
    walk_at "go"
    refine rd_dec (fun e1 => ?_) (fun e1 => ?_)
    · walk_at "go"
      refine k _ _ (Int.emod_nonneg _ (by omega)) (Int.emod_lt_of_pos _ hn) ⟨cs, i, _, m, t, upd_same, (by walk_at "hp"), hcs, hi, Int.ediv_nonneg hz (by omega), hm, hm2, ht⟩ (X1.trans ExB.upd)
    · walk_at "go"
      exact k _ _ (Int.emod_nonneg _ (by omega)) (Int.emod_lt_of_pos _ hn) ⟨cs, i, z, m, t + 1, upd_same, (by walk_at "hp"), hcs, hi, hz, hm, hm2, by omega⟩ (X1.trans ExB.upd)
theorem ok__law_some {f : Addr} {fd : FuncData} (F : Fun K "_law_some" "_law_some" s__law_some f fd) (T : Txt K mg) (C__law_draw : Cal P w K mg base 1 "_law_draw" (sp__law_draw K)) : FnOk P w K mg base CX0 2 f fd ["hand", "things"] (sp__law_some K) := by
  refine F.ok sc__law_some (fun vs H Q E h => by repeat (first | (obtain ⟨rfl, _⟩ := h; rfl) | obtain ⟨_, h⟩ := h)) (fun cdv A outer s H vs Q E hr h => ?_)
  refine ⟨_, (pss_one (ps_ret (pe_ix ix_list (pv 1) (pe_c C__law_draw hr (by decide) rfl (pa_cons (pv 0) (pa_cons (pe_callB cq_len rfl T.n_len boot_len (pa_cons (pv 1) pa_nil)) pa_nil))) (fun _ _ => rfl)))), ?_⟩
  try dsimp only [cxOf, Cx.nox, Cx.wish]
  obtain ⟨h, c, q, l, rfl, HA, hq, hql, hl0, hl1, k⟩ := h
  walk_at "go"
  have hsl : (signs l).length = l.length := List.length_map _
  refine ⟨h, c, _, rfl, HA, by omega, by omega, fun d H1 h0 h1 HA1 X1 => ?_⟩
  rw [hsl] at h1
  have hd : d.toNat < l.length := by omega
  refine rd_ixL (v := .str (S [l[d.toNat]])) (SqL.of (X1 _ _ hql hq)) (at_of h0 (by unfold signs; simp [hd])) ?_
  exact k _ _ (List.getElem_mem hd) HA1 X1
theorem ok__law_hand {f : Addr} {fd : FuncData} (F : Fun K "_law_hand" "_law_hand" s__law_hand f fd) (T : Txt K mg) : FnOk P w K mg base CX0 1 f fd ["script"] (sp__law_hand K) := by
  refine F.ok sc__law_hand (fun vs H Q E h => by repeat (first | (obtain ⟨rfl, _⟩ := h; rfl) | obtain ⟨_, h⟩ := h)) (fun cdv A outer s H vs Q E hr h => ?_)
  refine ⟨_, (pss_cons (ps_setLc (i := 1) (own := [("cell", 2)]) rfl sc__law_hand.nd rfl rfl (sw_true rfl rfl rfl (by decide +kernel)) (pi_list (pe_slice sl_list (pv 0) po_none (po_some pe_int))) (blkOk_by (N := N__law_hand) (sc := defScope s__law_hand) (by decide +kernel)) (fun _ _ _ _ _ => (pg_name (i := 2) sc__law_hand.nd rfl (Or.inl rfl))) (fun _ _ _ _ _ => pts_nil) (fun _ _ _ _ _ => (pe_callB cq_abs rfl T.n_abs boot_abs (pa_cons (pe_callTy cq_int rfl T.n_int boot_int (pa_cons (pv 2) pa_nil)) pa_nil))))
  (pss_one (ps_ret (pe_lst (pa_cons (pv 1) (pa_cons pe_int (pa_cons pe_int (pa_cons (pe_op op_add pe_int (pe_op op_mul pe_int (pe_callB cq_len rfl T.n_len boot_len (pa_cons (pv 1) pa_nil)))) (pa_cons pe_int pa_nil))))))))), ?_⟩
  try dsimp only [cxOf, Cx.nox, Cx.wish]
  obtain ⟨a, ns, rfl, hq, k⟩ := h
  walk_at "go"
  intro p1 n1
  rw [cutV_to (by decide), ← List.map_take]
  walk_at "go"
  refine lcL _ V.int (SqL.of upd_same) (fun _ => true) (fun x => .int (if x < 0 then -x else x)) (by rw [List.length_take]; have := (show ((63 : Int).toNat) = 63 from rfl); omega) (fun _ => rfl) (fun _ _ => pt_yes) (fun y hy _ H2 s2 Q2 q2 => ?_) (fun D H2 nD s2 hD => ?_)
  · walk_at "go"
    exact q2 _ (Same.refl _)
  · rw [filter_yes] at hD
    walk_at "go"
    intro p2 n2
    have e0 : Same H (upd H2 p2 (.lst [V.ref D, V.int 0, V.int 0, V.int (83 + 7 * ((List.map (fun x => V.int (if x < 0 then -x else x)) (List.take (Int.toNat 63) ns)).length : Nat)), V.int 0])) := fun b o e => by
      rw [upd_ne (ne_of_none (s2 _ _ (Same.new n1 _ _ e)) n2)]
      exact s2 _ _ (Same.new n1 _ _ e)
    refine k p2 D _ ⟨(List.take (Int.toNat 63) ns).map fun x => if x < 0 then -x else x, 0, 0, _, 0, upd_same, ?_, ?_, by omega, by omega, by omega, ?_, by omega⟩ e0
    · rw [upd_ne (ne_of_none hD n2), hD, List.map_map]
      rfl
    · intro x hx
      obtain ⟨y, _, rfl⟩ := List.mem_map.mp hx
      show 0 ≤ if y < 0 then -y else y
      split <;> omega
    · rw [List.length_map, List.length_take]
      have : Int.toNat 63 = 63 := rfl
      omega
theorem ok__law_word {f : Addr} {fd : FuncData} (F : Fun K "_law_word" "_law_word" s__law_word f fd) (T : Txt K mg) (C__law_draw : Cal P w K mg base 1 "_law_draw" (sp__law_draw K)) (C__law_some : Cal P w K mg base 2 "_law_some" (sp__law_some K)) : FnOk P w K mg base CX0 3 f fd ["hand", "letters", "most"] (sp__law_word K) := by
  refine F.ok sc__law_word (fun vs H Q E h => by repeat (first | (obtain ⟨rfl, _⟩ := h; rfl) | obtain ⟨_, h⟩ := h)) (fun cdv A outer s H vs Q E hr h => ?_)
  refine ⟨_, (pss_one (ps_ret (pe_joinE (pe_strS [] rfl) (pe_lc (own := [("turn", 3)]) rfl sc__law_word.nd (pi_range1 rfl T.n_range (pa_cons (pe_c C__law_draw hr (by decide) rfl (pa_cons (pv 0) (pa_cons (pe_op op_add (pv 2) pe_int) pa_nil))) pa_nil)) (blkOk_by (N := N__law_word) (sc := defScope s__law_word) (by decide +kernel)) (fun _ _ _ _ _ => (pg_name (i := 3) sc__law_word.nd rfl (Or.inl rfl))) (fun _ _ _ _ _ => pts_nil) (fun _ _ _ _ _ => (pe_c C__law_some hr (by decide) rfl (pa_cons (pv 0) (pa_cons (pe_callTy (call_listS rfl) rfl T.n_list boot_list (pa_cons (pe_slice C8.sl_txt (pe_strS [97, 98, 99, 100] rfl) po_none (po_some (pv 1))) pa_nil)) pa_nil)))))))), ?_⟩
  try dsimp only [cxOf, Cx.nox, Cx.wish]
  obtain ⟨h, c, n, m, rfl, HA, n1, n4, m0, m1, k⟩ := h
  walk_at "go"
  refine ⟨h, c, _, rfl, HA, by omega, by omega, fun d H1 d0 d1 HA1 X1 => ?_⟩
  walk_at "go"
  refine lcR_inv (fun D i acc H' => D ≠ h ∧ D ≠ c ∧ ∃ l : List Nat, acc = signs l ∧ Wd n l ∧ HandAt H' h c ∧ ExB h H H') ?_ ?_ (fun D nD => ?_) (fun D i acc H2 Q2 hi nD hl p hD q2 => ?_) (fun D acc H2 nD hl p hD => ?_)
  · omega
  · intro _; rfl
  · exact ⟨HA1.ne nD, HA1.neC nD, [], rfl, (fun x hx => by cases hx), HA1.new nD, X1.mut (X1.back nD (HA1.ne nD))⟩
  · obtain ⟨hDh, hDc, l, rfl, hw, HA2, X2⟩ := p
    walk_at "go"
    intro p3 n3
    walk_at "go"
    have hlen : (List.take n.toNat [97, 98, 99, 100]).length = n.toNat := by simp only [List.length_take, List.length_cons, List.length_nil]; omega
    refine ⟨h, c, p3, _, rfl, HA2.new n3, upd_same, HA2.ne n3, by omega, by omega, fun e H3 he HA3 X3 => ?_⟩
    have hDp : D ≠ p3 := ne_of_none hD n3
    have hD3 : H3 D = some (.lst (signs l)) := X3 _ _ hDh (by rw [upd_ne hDp]; exact hD)
    refine q2 _ _ hD3 ⟨hDh, hDc, l ++ [e], by unfold signs; rw [List.map_append]; rfl, ?_, HA3.upd hDh hDc, ?_⟩
    · intro x hx
      rcases List.mem_append.mp hx with hx | hx
      · exact hw x hx
      · have hx2 : x = e := by simpa using hx
        subst hx2
        obtain ⟨k, hk, e2⟩ := List.mem_iff_getElem.mp he
        rw [hlen] at hk
        simp only [List.getElem_take] at e2
        have : k = 0 ∨ k = 1 ∨ k = 2 ∨ k = 3 := by omega
        rcases this with rfl | rfl | rfl | rfl <;> (simp at e2; omega)
    · exact (X2.trans ((ExB.new n3).trans X3)).mut (X1.back nD hDh)
  · obtain ⟨hDh, hDc, l, rfl, hw, HA2, X2⟩ := p
    have hl2 : l.length = d.toNat := by unfold signs at hl; rwa [List.length_map] at hl
    refine rd_joinC (SqL.of hD) (by omega) ?_
    exact k l _ hw (by omega) HA2 X2

end
end My
namespace My
open PySem PySem.Spec L2 SX
open PyProof.Rows hiding St
open Lyn (sg rootN)
local macro_rules | `(tactic| walk_at "kb") => `(tactic| first | exact kb_str_str | exact kb_str_int | exact kb_str_bool | exact kb_str_list | exact kb_str_tuple | exact kb_int_str | exact kb_int_int | exact kb_int_bool | exact kb_int_list | exact kb_int_tuple | exact kb_bool_str | exact kb_bool_int | exact kb_bool_bool | exact kb_bool_list | exact kb_bool_tuple | exact kb_list_str | exact kb_list_int | exact kb_list_bool | exact kb_list_list | exact kb_list_tuple | exact kb_tuple_str | exact kb_tuple_int | exact kb_tuple_bool | exact kb_tuple_list | exact kb_tuple_tuple | exact kb_NoneType_str | exact kb_NoneType_int | exact kb_NoneType_bool | exact kb_NoneType_list | exact kb_NoneType_tuple)
local macro_rules | `(tactic| walk_at "hp") => `(tactic| first | assumption | exact upd_same | (refine (upd_ne (by first | assumption | (apply Ne.symm; assumption))).trans ?_; walk_at "hp"))
local macro_rules | `(tactic| walk_at "sq") => `(tactic| first | assumption | exact SqL.of (by walk_at "hp"))
local macro_rules | `(tactic| walk_at "sqt") => `(tactic| first | assumption | exact SqT.of (by walk_at "hp"))
local macro_rules | `(tactic| walk_at "ar") => `(tactic| first | omega | (dsimp only; omega) | (unfold CMul; omega) | (unfold CDiv; omega) | (unfold CPow; refine ⟨?_, ?_, ?_⟩ <;> decide) | (simp only [List.length_cons, List.length_nil]; decide))
local macro_rules | `(tactic| walk_at "rd") => `(tactic| first
  | with_reducible refine rd_seq ?_
  | with_reducible refine rd_asg ?_
  | with_reducible refine rd_if ?_
  | with_reducible refine rd_ret ?_
  | with_reducible refine rd_drop ?_
  | with_reducible refine rd_name ?_
  | with_reducible refine rd_sub ?_
  | ((with_reducible refine' rd_var ?e ?_); (case e => exact rfl))
  | with_reducible refine rd_c ?_
  | with_reducible refine rd_op ?_
  | with_reducible refine rd_un ?_
  | with_reducible refine rd_I0 ?_
  | ((with_reducible refine' rd_I ?c ?_); (case c => walk_at "ar"))
  | with_reducible refine rd_U ?_
  | with_reducible refine rd_eqI ?_
  | with_reducible refine rd_neI ?_
  | with_reducible refine rd_eqS ?_
  | with_reducible refine rd_neS ?_
  | with_reducible refine rd_eqB ?_
  | with_reducible refine rd_neB ?_
  | with_reducible refine rd_test ?_
  | with_reducible refine rd_B ?_
  | with_reducible refine rd_and ?_
  | with_reducible refine rd_or ?_
  | with_reducible refine rd_not ?_
  | with_reducible refine rd_andV ?_
  | with_reducible refine rd_orV ?_
  | with_reducible refine rd_notV ?_
  | with_reducible refine rd_ifE ?_
  | with_reducible refine rd_isN ?_
  | with_reducible refine rd_notN ?_
  | with_reducible refine rd_cons ?_
  | with_reducible refine rd_nil ?_
  | with_reducible refine rd_lst ?_
  | with_reducible refine rd_tup ?_
  | with_reducible refine rd_CB ?_
  | with_reducible refine rd_call ?_
  | with_reducible refine rd_sl ?_
  | with_reducible refine rd_part ?_
  | with_reducible refine rd_nopart ?_
  | with_reducible refine rd_par ?_
  | with_reducible refine rd_two ?_
  | with_reducible refine rd_next ?_
  | with_reducible refine rd_retN ?_
  | with_reducible refine rd_bool ?_
  | with_reducible refine rd_int ?_
  | with_reducible refine rd_intI ?_
  | with_reducible refine rd_intB ?_
  | with_reducible refine rd_ltS ?_
  | with_reducible refine rd_leS ?_
  | with_reducible refine rd_gtS ?_
  | with_reducible refine rd_geS ?_
  | with_reducible refine rd_inC ?_
  | with_reducible refine rd_notInC ?_
  | with_reducible refine rd_abs ?_
  | with_reducible refine rd_max2 ?_
  | with_reducible refine rd_min2 ?_
  | with_reducible refine rd_M1 ?_
  | with_reducible refine rd_isStr ?_
  | ((with_reducible refine' rd_len ?b ?_); (case b => (simp only [List.length_cons, List.length_nil]; decide)))
  | ((with_reducible refine' rd_listS ?b ?_); (case b => first | (simp only [List.length_take, List.length_cons, List.length_nil]; omega) | omega))
  | ((with_reducible refine' rd_isi ?ty ?h ?_); (case ty => first | exact ty_str | exact ty_int | exact ty_bl | exact ty_non | exact ty_lst (by walk_at "hp") | exact ty_tup (by walk_at "hp")); (case h => walk_at "kb"))
  | with_reducible refine rd_lc ?_
  | with_reducible refine rd_for ?_
  | with_reducible refine rd_iList ?_
  | with_reducible refine rd_iTup ?_
  | with_reducible refine rd_iRng1 ?_
  | with_reducible refine rd_iRng2 ?_
  | with_reducible refine rd_iRng3 ?_
  | with_reducible refine rd_iStr ?_
  | with_reducible refine rd_qIs ?_
  | with_reducible refine rd_whb ?_
  | ((with_reducible refine' rd_qIl ?sq ?_); (case sq => walk_at "sq"))
  | ((with_reducible refine' rd_qItu ?sq ?_); (case sq => walk_at "sqt"))
  | ((with_reducible refine' rd_qIr1 ?b1 ?b2 ?_); (case b1 => walk_at "ar"); (case b2 => walk_at "ar"))
  | ((with_reducible refine' rd_qIr2 ?b1 ?b2 ?b3 ?b4 ?_); (case b1 => walk_at "ar"); (case b2 => walk_at "ar"); (case b3 => walk_at "ar"); (case b4 => walk_at "ar"))
  | ((with_reducible refine' rd_qIr3 ?b1 ?b2 ?b3 ?b4 ?_); (case b1 => walk_at "ar"); (case b2 => walk_at "ar"); (case b3 => walk_at "ar"); (case b4 => walk_at "ar"))
  | ((with_reducible refine' rd_mulS ?b1 ?b2 ?b3 ?_); (case b1 => walk_at "ar"); (case b2 => walk_at "ar"); (case b3 => walk_at "ar"))
  | ((with_reducible refine' rd_slS_to ?b1 ?b2 ?_); (case b1 => walk_at "ar"); (case b2 => walk_at "ar"))
  | ((with_reducible refine' rd_slS_from ?b1 ?b2 ?_); (case b1 => walk_at "ar"); (case b2 => walk_at "ar"))
  | ((with_reducible refine' rd_slS_mid ?b1 ?b2 ?b3 ?b4 ?_); (case b1 => walk_at "ar"); (case b2 => walk_at "ar"); (case b3 => walk_at "ar"); (case b4 => walk_at "ar"))
  | ((with_reducible refine' rd_slL ?sq ?_); (case sq => walk_at "sq"))
  | with_reducible refine rd_true ?_
  | with_reducible refine rd_false ?_
  | with_reducible refine rd_nt ?_
  | with_reducible refine rd_nf ?_
  | ((with_reducible refine' rd_decT ?h ?_); (case h => omega))
  | ((with_reducible refine' rd_decF ?h ?_); (case h => omega))
  | ((with_reducible refine' rd_ndecT ?h ?_); (case h => omega))
  | ((with_reducible refine' rd_ndecF ?h ?_); (case h => omega))
  | ((with_reducible refine' rd_evT ?h ?_); (case h => first | exact rfl | (simp; done)))
  | ((with_reducible refine' rd_evF ?h ?_); (case h => first | exact rfl | (simp; done)))
  | ((with_reducible refine' rd_ixL ?sq ?a1 ?_); (case sq => walk_at "sq"); (case a1 => first | exact rfl | exact at_of (by omega) (by assumption)))
  | ((with_reducible refine' rd_ixT ?sq ?a1 ?_); (case sq => walk_at "sqt"); (case a1 => first | exact rfl | exact at_of (by omega) (by assumption)))
  | ((with_reducible refine' rd_lenL ?sq ?_); (case sq => walk_at "sq"))
  | ((with_reducible refine' rd_lenT ?sq ?_); (case sq => walk_at "sqt"))
  | ((with_reducible refine' rd_setL ?h ?j ?_); (case h => walk_at "hp"); (case j => exact rfl); (with_reducible refine id ?_))
  | ((with_reducible refine' rd_strlen ?l ?_); (case l => walk_at "ar"))
  | ((with_reducible refine' rd_cat ?l ?_); (case l => walk_at "ar")))
local macro_rules | `(tactic| walk_at "go") => `(tactic| ((try dsimp only); (repeat (walk_at "rd"))))
local macro_rules | `(tactic| walk_at "rd") => `(tactic| first
  | with_reducible refine rd_lstRg ?_
  | with_reducible refine rd_tRg1 ?_
  | with_reducible refine rd_tRg2 ?_
  | with_reducible refine rd_rg1 ?_
  | with_reducible refine rd_rg2 ?_
  | ((with_reducible refine' rd_qRg ?b ?_); (case b => refine ⟨?_, ?_, ?_, ?_⟩ <;> omega))
  | with_reducible refine rd_sortSet ?_
  | with_reducible refine rd_tDGet ?_
  | with_reducible refine rd_sDPut ?_
  | with_reducible refine rd_dnew ?_
  | with_reducible refine rd_iZipS ?_
  | with_reducible refine rd_zipS ?_
  | ((with_reducible refine' rd_inI ?sq ?_); (case sq => walk_at "sq"))
  | ((with_reducible refine' rd_notInI ?sq ?_); (case sq => walk_at "sq"))
  | with_reducible refine rd_chain ?_)

section
variable {P : Program} {w : World} {K : PySem.W.Frag} {mg : Str → Option Value} {base : Heap}
theorem ok_check_word {f : Addr} {fd : FuncData} (F : Fun K "check_word" "check_word" s_check_word f fd) (T : Txt K mg) : FnOk P w K mg base CX0 1 f fd ["word", "letters", "most"] (sp_check_word K) := by
  refine F.ok sc_check_word (fun vs H Q E h => by repeat (first | (obtain ⟨rfl, _⟩ := h; rfl) | obtain ⟨_, h⟩ := h)) (fun cdv A outer s H vs Q E hr h => ?_)
  refine ⟨_, (pss_one (ps_if (PW.pt (pw_or (pt_not (pt_val (pe_callB call_isi rfl T.n_isinstance boot_isinstance (pa_cons (pv 0) (pa_cons (pe_bltn (v := .ty "str") rfl T.n_str boot_str rfl) pa_nil))))) (pw_or (pt_cmpR op_gt (pe_callB cq_lenS rfl T.n_len boot_len (pa_cons (pv 0) pa_nil)) (pv 2) (nomark _)) (pw_or1 (pt_cmpR (op_neD hr.units) (pe_lc (own := [("one", 3)]) rfl sc_check_word.nd (pi_str (pv 0)) (blkOk_by (N := N_check_word) (sc := defScope s_check_word) (by decide +kernel)) (fun _ _ _ _ _ => (pg_name (i := 3) sc_check_word.nd rfl (Or.inl rfl))) (fun _ _ _ _ _ => (pts_one (pt_cmpR oq_notInC (pv 3) (pe_slice C8.sl_txt (C8.pe_gc rfl T.c_SIGNS) po_none (po_some (pv 1))) rfl))) (fun _ _ _ _ _ => (pv 3))) (pe_lst pa_nil) (nomark _)))))) (pss_one ps_never) pss_nil)), ?_⟩
  try dsimp only [cxOf, Cx.nox, Cx.wish]
  obtain ⟨l, n, m, rfl, hw, n0, n4, hl, hm, k⟩ := h
  walk_at "go"
  refine lcS (fun c => !decide (c ∈ [97, 98, 99, 100].take n.toNat)) (fun c => .str (S [c])) (by omega) (fun _ => rfl) (fun y hy H1 s1 Q1 q1 => ?_) (fun y hy _ H1 s1 Q1 q1 => ?_) (fun D H1 nD s1 hD => ?_)
  · walk_at "go"
    exact q1 _ (Same.refl _)
  · walk_at "go"
    exact q1 _ (Same.refl _)
  · have e : l.filter (fun c => !decide (c ∈ [97, 98, 99, 100].take n.toNat)) = [] := by
      rw [List.filter_eq_nil_iff]
      intro c hc
      have := hw c hc
      have h3 : n.toNat = 0 ∨ n.toNat = 1 ∨ n.toNat = 2 ∨ n.toNat = 3 ∨ n.toNat = 4 := by omega
      have h4 : c ∈ List.take n.toNat [97, 98, 99, 100] := by
        rcases h3 with h3 | h3 | h3 | h3 | h3 <;> rw [h3] <;> simp <;> omega
      simp [h4]
    rw [e] at hD
    walk_at "go"
    intro p2 n2
    refine rd_neLI (ns := []) (ms := []) (SqL.of ?_) (SqL.of upd_same) ?_
    · rw [upd_ne (ne_of_none hD n2)]
      exact hD
    walk_at "go"
    exact k _ fun b o e => by
      rw [upd_ne (ne_of_none (s1 b o e) n2)]
      exact s1 b o e
theorem ok_check_letters {f : Addr} {fd : FuncData} (F : Fun K "check_letters" "check_letters" s_check_letters f fd) (T : Txt K mg) (C_check_word : Cal P w K mg base 1 "check_word" (sp_check_word K)) : FnOk P w K mg base CX0 2 f fd ["word"] (sp_check_letters K) := by
  refine F.ok sc_check_letters (fun vs H Q E h => by repeat (first | (obtain ⟨rfl, _⟩ := h; rfl) | obtain ⟨_, h⟩ := h)) (fun cdv A outer s H vs Q E hr h => ?_)
  refine ⟨_, (pss_one (ps_expr (pe_c C_check_word hr (by decide) rfl (pa_cons (pv 0) (pa_cons (pe_callB cq_lenS rfl T.n_len boot_len (pa_cons (C8.pe_gc rfl T.c_SIGNS) pa_nil)) (pa_cons (C8.pe_gc rfl T.c_MOST_SIGNS) pa_nil)))))), ?_⟩
  try dsimp only [cxOf, Cx.nox, Cx.wish]
  obtain ⟨l, rfl, hw, hl, k⟩ := h
  walk_at "go"
  refine ⟨l, _, _, rfl, hw, by decide, by decide, by omega, by decide, fun H1 s1 => ?_⟩
  walk_at "go"
  exact k _ s1
theorem ok_check_filled {f : Addr} {fd : FuncData} (F : Fun K "check_filled" "check_filled" s_check_filled f fd) (T : Txt K mg) (C_check_letters : Cal P w K mg base 2 "check_letters" (sp_check_letters K)) : FnOk P w K mg base CX0 3 f fd ["word"] (sp_check_filled K) := by
  refine F.ok sc_check_filled (fun vs H Q E h => by repeat (first | (obtain ⟨rfl, _⟩ := h; rfl) | obtain ⟨_, h⟩ := h)) (fun cdv A outer s H vs Q E hr h => ?_)
  refine ⟨_, (pss_cons (ps_expr (pe_c C_check_letters hr (by decide) rfl (pa_cons (pv 0) pa_nil)))
  (pss_one (ps_if (pt_cmpR op_eq (pv 0) (pe_strS [] rfl) (nomark _)) (pss_one ps_never) pss_nil))), ?_⟩
  try dsimp only [cxOf, Cx.nox, Cx.wish]
  obtain ⟨l, rfl, hw, hl, hne, k⟩ := h
  walk_at "go"
  refine ⟨l, rfl, hw, hl, fun H1 s1 => ?_⟩
  walk_at "go"
  refine rd_decF hne ?_
  walk_at "go"
  exact k _ s1
theorem ok_border_lengths {f : Addr} {fd : FuncData} (F : Fun K "border_lengths" "border_lengths" s_border_lengths f fd) (T : Txt K mg) : FnOk P w K mg base CX0 1 f fd ["word"] (sp_border_lengths K) := by
  refine F.ok sc_border_lengths (fun vs H Q E h => by repeat (first | (obtain ⟨rfl, _⟩ := h; rfl) | obtain ⟨_, h⟩ := h)) (fun cdv A outer s H vs Q E hr h => ?_)
  refine ⟨_, (pss_cons (ps_set (i := 1) sc_border_lengths.nd rfl (Or.inl rfl) (pe_lst (pa_cons pe_int pa_nil)))
  (pss_cons (ps_for PassesOwn.never rfl (pi_str (pe_slice C8.sl_txt (pv 0) (po_some pe_int) po_none)) (pg_name (i := 2) sc_border_lengths.nd rfl (Or.inl rfl))
  (pss_cons (ps_set (i := 3) sc_border_lengths.nd rfl (Or.inl rfl) (pe_ix ix_list (pv 1) (pe_un un_neg pe_int) (fun _ _ => rfl)))
  (pss_cons (ps_while PassesOwn.never (PW.pt (pw_and (pt_cmpR op_gt (pv 3) pe_int (nomark _)) (pw_and1 (pt_cmpR op_ne (pe_ix ix_str (pv 0) (pv 3) (fun _ _ => rfl)) (pv 2) (nomark _))))) (pss_one (ps_set (i := 3) sc_border_lengths.nd rfl (Or.inl rfl) (pe_ix ix_list (pv 1) (pe_op op_sub (pv 3) pe_int) (fun _ _ => rfl)))))
  (pss_one (ps_expr (pe_bm PySem.F.plainAttrs_list PySem.F.slot_list_append PySem.F.type_list_append mt_append (pv 1) (pa_cons (pe_op op_add (pv 3) (pe_callTy cq_int rfl T.n_int boot_int (pa_cons (pe_cmpR op_eq (pe_ix ix_str (pv 0) (pv 3) (fun _ _ => rfl)) (pv 2) (nomark _)) pa_nil))) pa_nil)))))))
  (pss_one (ps_ret (pv 1))))), ?_⟩
  try dsimp only [cxOf, Cx.nox, Cx.wish]
  obtain ⟨l, rfl, hne, hl, k⟩ := h
  walk_at "go"
  intro p np
  walk_at "go"
  have hlp : 0 < l.length := List.length_pos_iff.mpr hne
  refine forS (fun i σ' H' => ∃ v2 v3, σ' = [some (.str (S l)), some (.ref p), v2, v3] ∧ Same H H' ∧ H' p = some (.lst (bV l (i + 1)))) ⟨_, _, rfl, Same.new np, upd_same⟩ ?_ ?_
  · rintro i y σ1 H1 hy ⟨v2, v3, rfl, s1, h1⟩
    have hy2 : i + 1 < l.length ∧ y = sg l (i + 1) := by
      rw [List.getElem?_drop] at hy
      have h2 : Int.toNat 1 + i < l.length := (List.getElem?_eq_some_iff.mp hy).1
      have h3 : Int.toNat 1 + i = i + 1 := by have : Int.toNat 1 = 1 := rfl; omega
      rw [h3] at h2 hy
      rw [sg_at h2] at hy
      exact ⟨h2, (Option.some.inj hy).symm⟩
    obtain ⟨hi, rfl⟩ := hy2
    walk_at "go"
    refine rd_ixL (SqL.of h1) (by rw [bV_succ]; exact atI_last _ _) ?_
    walk_at "go"
    refine rd_while (fun b σ' H' => σ' = [some (.str (S l)), some (.ref p), some (.str (S [sg l (i + 1)])), some (.int (b : Int))] ∧ Same H H' ∧ H' p = some (.lst (bV l (i + 1))) ∧
      Per.Bd (sg l) (i + 1) b ∧ ∀ c, Per.Bd (sg l) (i + 1) c → b < c → sg l c ≠ sg l (i + 1)) _ ⟨rfl, s1, h1, Per.lb_bd (Nat.succ_pos i), fun c hc hlt => absurd (Per.lb_max hc) (by omega)⟩ ?_
    rintro b σ2 H2 ⟨rfl, s2, h2, hb, hm⟩
    have hbl : b < l.length := by have := hb.1; omega
    have hat : atI l (b : Int) = some (sg l b) := atI_nat (sg_at hbl)
    walk_at "go"
    refine rd_dec (fun e1 => ?_) (fun e1 => ?_)
    · walk_at "go"
      refine rd_ixS (by omega) hat ?_
      walk_at "go"
      refine rd_ndec (fun e2 => ?_) (fun e2 => ?_)
      · walk_at "go"
        have e3 : (b : Int) - 1 = ((b - 1 : Nat) : Int) := by omega
        refine rd_ixL (SqL.of h2) (v := .int ((Per.lb (sg l) b : Nat) : Int)) ?_ ?_
        · rw [e3]
          refine atI_nat ((bV_at l (by have := hb.1; omega)).trans ?_)
          rw [show b - 1 + 1 = b by omega]
        walk_at "go"
        have hb0 : 0 < b := by omega
        refine ⟨_, Per.lb_lt hb0, rfl, s2, h2, hb.trans (Per.lb_bd hb0), fun c hc hlt => ?_⟩
        by_cases g : b < c
        · exact hm c hc g
        · by_cases g2 : c = b
          · subst g2; exact fun z => e2 (by rw [z])
          · have := Per.lb_max (hb.sub hc (by omega))
            omega
      · walk_at "go"
        have e3 : sg l b = sg l (i + 1) := by simpa using e2
        refine rd_BM (p := p) (ys := []) ?_
        walk_at "go"
        refine ⟨tyL h2, ?_⟩
        walk_at "go"
        refine rd_ixS (by omega) hat ?_
        walk_at "go"
        refine rd_app h2 (by rw [bV_len]; omega) ?_
        walk_at "go"
        refine ⟨_, _, rfl, Same.mut s2 np, ?_⟩
        rw [upd_same, bV_succ l (i + 1), Per.lb_next (Nat.succ_pos i) hb hm (.inr e3), if_pos e3]
        simp [e3]
    · walk_at "go"
      have hb0 : b = 0 := by omega
      subst hb0
      refine rd_BM (p := p) (ys := []) ?_
      walk_at "go"
      refine ⟨tyL h2, ?_⟩
      walk_at "go"
      refine rd_ixS (by omega) hat ?_
      walk_at "go"
      refine rd_app h2 (by rw [bV_len]; omega) ?_
      walk_at "go"
      refine ⟨_, _, rfl, Same.mut s2 np, ?_⟩
      rw [upd_same, bV_succ l (i + 1), Per.lb_next (Nat.succ_pos i) hb hm (.inl rfl)]
      by_cases e3 : sg l 0 = sg l (i + 1) <;> simp [e3]
  · rintro σ1 H1 ⟨v2, v3, rfl, s1, h1⟩
    walk_at "go"
    refine k p H1 np s1 ?_
    rw [bV_all, h1, List.length_drop, show l.length - Int.toNat 1 + 1 = l.length by have : Int.toNat 1 = 1 := rfl; omega]
theorem ok_borders {f : Addr} {fd : FuncData} (F : Fun K "borders" "borders" s_borders f fd) (T : Txt K mg) (C_check_letters : Cal P w K mg base 2 "check_letters" (sp_check_letters K)) (C_border_lengths : Cal P w K mg base 1 "border_lengths" (sp_border_lengths K)) : FnOk P w K mg base CX0 3 f fd ["word"] (sp_borders K) := by
  refine F.ok sc_borders (fun vs H Q E h => by repeat (first | (obtain ⟨rfl, _⟩ := h; rfl) | obtain ⟨_, h⟩ := h)) (fun cdv A outer s H vs Q E hr h => ?_)
  refine ⟨_, (pss_cons (ps_expr (pe_c C_check_letters hr (by decide) rfl (pa_cons (pv 0) pa_nil)))
  (pss_cons (ps_if (pt_cmpR op_eq (pv 0) (pe_strS [] rfl) (nomark _)) (pss_one (ps_ret (pe_lst pa_nil))) pss_nil)
  (pss_cons (ps_par (i := 1) (j := 2) rfl sc_borders.nd rfl rfl (by decide) rfl rfl (pa_cons (pe_c C_border_lengths hr (by decide) rfl (pa_cons (pv 0) pa_nil)) (pa_cons (pe_lst pa_nil) pa_nil)) (by rfl))
  (pss_cons (ps_set (i := 3) sc_borders.nd rfl (Or.inl rfl) (pe_ix ix_list (pv 1) (pe_un un_neg pe_int) (fun _ _ => rfl)))
  (pss_cons (ps_while PassesOwn.never (pt_cmpR op_gt (pv 3) pe_int (nomark _)) (pss_cons (ps_expr (pe_bm PySem.F.plainAttrs_list PySem.F.slot_list_append PySem.F.type_list_append mt_append (pv 2) (pa_cons (pv 3) pa_nil)))
  (pss_one (ps_set (i := 3) sc_borders.nd rfl (Or.inl rfl) (pe_ix ix_list (pv 1) (pe_op op_sub (pv 3) pe_int) (fun _ _ => rfl))))))
  (pss_one (ps_ret (pe_op op_cat (pe_lst (pa_cons pe_int pa_nil)) (pe_revL (pv 2)))))))))), ?_⟩
  try dsimp only [cxOf, Cx.nox, Cx.wish]
  obtain ⟨l, rfl, hw, hl, k⟩ := h
  walk_at "go"
  refine ⟨l, rfl, hw, hl, fun H1 s1 => ?_⟩
  walk_at "go"
  refine rd_dec (fun e1 => ?_) (fun e1 => ?_)
  · subst e1
    walk_at "go"
    intro p np
    exact k p _ (s1.free np) (fun b o e => by rw [upd_ne (ne_of_none (s1 b o e) np)]; exact s1 b o e) upd_same
  walk_at "go"
  refine ⟨l, rfl, e1, hl, fun p H2 np s2 h2 => ?_⟩
  walk_at "go"
  intro q nq
  refine ⟨_, _, rfl, ?_⟩
  walk_at "go"
  have hlp : 0 < l.length := List.length_pos_iff.mpr e1
  have hpq : p ≠ q := ne_of_none h2 nq
  have h3 : upd H2 q (.lst []) p = some (.lst (bV l l.length)) := by rw [upd_ne hpq, h2, bV_all]
  obtain ⟨n, hn⟩ : ∃ n, l.length = n + 1 := ⟨l.length - 1, by omega⟩
  refine rd_ixL (SqL.of h3) (v := .int ((Per.lb (sg l) l.length : Nat) : Int)) (by rw [hn, bV_succ]; exact atI_last _ _) ?_
  walk_at "go"
  have s12 : Same H H2 := s1.trans s2
  refine rd_while (fun b σ' H' => σ' = [some (.str (S l)), some (.ref p), some (.ref q), some (.int (b : Int))] ∧ Same H H' ∧ H' p = some (.lst (bV l l.length)) ∧
    H' q = some (.lst ((Per.above (sg l) l.length b).reverse.map fun b : Nat => V.int (b : Int))) ∧ Per.Bd (sg l) l.length b) _
    ⟨rfl, fun b o e => by rw [upd_ne (ne_of_none (s12 b o e) nq)]; exact s12 b o e, h3, by rw [upd_same, Per.above_lb hlp]; rfl, Per.lb_bd hlp⟩ ?_
  rintro b σ2 H3 ⟨rfl, s3, hp3, hq3, hb⟩
  walk_at "go"
  refine rd_dec (fun e2 => ?_) (fun e2 => ?_)
  · have hb0 : 0 < b := by omega
    walk_at "go"
    refine rd_BM (p := p) (ys := []) ?_
    walk_at "go"
    refine ⟨tyL hq3, ?_⟩
    walk_at "go"
    refine rd_app hq3 ?_ ?_
    · rw [List.length_map, List.length_reverse]
      have := List.length_filter_le (fun c => decide (Per.Bd (sg l) l.length c) && decide (b < c)) (List.range l.length)
      rw [List.length_range] at this
      unfold Per.above
      omega
    walk_at "go"
    have e3 : (b : Int) - 1 = ((b - 1 : Nat) : Int) := by omega
    refine rd_ixL (SqL.of (by rw [upd_ne hpq]; exact hp3)) (v := .int ((Per.lb (sg l) b : Nat) : Int)) ?_ ?_
    · rw [e3]
      refine atI_nat ((bV_at l (by have := hb.1; omega)).trans ?_)
      rw [show b - 1 + 1 = b by omega]
    walk_at "go"
    refine ⟨_, Per.lb_lt hb0, rfl, fun c o e => ?_, by rw [upd_ne hpq]; exact hp3, ?_, hb.trans (Per.lb_bd hb0)⟩
    · rw [upd_ne (ne_of_none e ((s12.free nq)))]
      exact s3 c o e
    · rw [upd_same, Per.above_next hb hb0, List.reverse_cons, List.map_append]
      rfl
  · have hb0 : b = 0 := by omega
    subst hb0
    walk_at "go"
    intro r nr
    walk_at "go"
    refine rd_revL ?_
    walk_at "go"
    have hqr : q ≠ r := ne_of_none hq3 nr
    refine ⟨q, _, rfl, SqL.of (by rw [upd_ne hqr]; exact hq3), fun u nu => ?_⟩
    walk_at "go"
    have hru : r ≠ u := ne_of_none upd_same nu
    refine rd_catL (by rw [upd_ne hru]; exact upd_same) upd_same ?_ fun x nx => ?_
    · rw [List.length_reverse, List.length_map, List.length_reverse]
      have := List.length_filter_le (fun c => decide (Per.Bd (sg l) l.length c) && decide (0 < c)) (List.range l.length)
      rw [List.length_range] at this
      unfold Per.above
      simp only [List.length_cons, List.length_nil]
      omega
    walk_at "go"
    have hf : ∀ b o, H b = some o → upd (upd H3 r (.lst [V.int 0])) u (.lst ((Per.above (sg l) l.length 0).reverse.map fun b : Nat => V.int (b : Int)).reverse) b = some o := fun b o e => by
      rw [upd_ne (ne_of_none (by rw [upd_ne (ne_of_none (s3 b o e) nr)]; exact s3 b o e) nu), upd_ne (ne_of_none (s3 b o e) nr)]
      exact s3 b o e
    refine k x _ (Same.free hf nx) (fun b o e => by rw [upd_ne (ne_of_none (hf b o e) nx)]; exact hf b o e) ?_
    rw [upd_same]
    unfold bordL
    rw [Per.above_zero hlp, List.map_cons, List.map_cons, ← List.map_reverse, List.reverse_reverse, List.map_map]
    rfl
theorem ok_periods {f : Addr} {fd : FuncData} (F : Fun K "periods" "periods" s_periods f fd) (T : Txt K mg) (C_borders : Cal P w K mg base 3 "borders" (sp_borders K)) : FnOk P w K mg base CX0 4 f fd ["word"] (sp_periods K) := by
  refine F.ok sc_periods (fun vs H Q E h => by repeat (first | (obtain ⟨rfl, _⟩ := h; rfl) | obtain ⟨_, h⟩ := h)) (fun cdv A outer s H vs Q E hr h => ?_)
  refine ⟨_, (pss_one (ps_ret (pe_callB cr_sortedI rfl T.n_sorted boot_sorted (pa_cons (pe_lc (own := [("length", 1)]) rfl sc_periods.nd (pi_list (pe_c C_borders hr (by decide) rfl (pa_cons (pv 0) pa_nil))) (blkOk_by (N := N_periods) (sc := defScope s_periods) (by decide +kernel)) (fun _ _ _ _ _ => (pg_name (i := 1) sc_periods.nd rfl (Or.inl rfl))) (fun _ _ _ _ _ => pts_nil) (fun _ _ _ _ _ => (pe_op op_sub (pe_callB cq_lenS rfl T.n_len boot_len (pa_cons (pv 0) pa_nil)) (pv 1)))) pa_nil)))), ?_⟩
  try dsimp only [cxOf, Cx.nox, Cx.wish]
  obtain ⟨l, rfl, hw, hl, k⟩ := h
  walk_at "go"
  refine ⟨l, rfl, hw, hl, fun p H1 np s1 h1 => ?_⟩
  dsimp only
  refine rd_qIl (SqL.of h1) ?_
  have hbl : (bordL l).length ≤ 300 := by
    unfold bordL Per.bl
    rw [List.length_map]
    have := List.length_filter_le (fun b => decide (Per.Bd (sg l) l.length b)) (List.range l.length)
    rw [List.length_range] at this
    omega
  refine lcL (bordL l) V.int (SqL.of h1) (fun _ => true) (fun b => .int ((l.length : Int) - b)) (by omega) (fun _ => rfl) (fun _ _ => pt_yes) (fun y hy _ H2 s2 Q2 q2 => ?_) (fun D H2 nD s2 hD => ?_)
  · walk_at "go"
    exact q2 _ (Same.refl _)
  rw [filter_yes] at hD
  walk_at "go"
  have e : (bordL l).map (fun b => V.int ((l.length : Int) - b)) = ((bordL l).map fun b => (l.length : Int) - b).map V.int := by rw [List.map_map]; rfl
  rw [e] at hD
  have e2 : perL l = ((bordL l).map fun b => (l.length : Int) - b).reverse := by
    unfold perL Per.pl bordL
    rw [List.map_reverse, List.map_map, List.map_map]
    congr 1
    refine List.map_congr_left fun b hb => ?_
    have := (Per.mem_bl.mp hb).1
    simp only [Function.comp]
    omega
  refine rd_sortedI (ms := perL l) (SqL.of hD) ?_ ?_ fun r nr => ?_
  · rw [e2]
    exact List.reverse_perm _
  · unfold perL
    rw [List.pairwise_map]
    refine List.Pairwise.imp (fun {a b} h => ?_) Per.pl_sorted
    omega
  · have s12 : Same H H2 := s1.trans s2
    exact k r _ (s12.free nr) (fun b o e => by rw [upd_ne (ne_of_none (s12 b o e) nr)]; exact s12 b o e) upd_same
theorem ok_root_of {f : Addr} {fd : FuncData} (F : Fun K "root_of" "root_of" s_root_of f fd) (T : Txt K mg) (C_check_filled : Cal P w K mg base 3 "check_filled" (sp_check_filled K)) (C_periods : Cal P w K mg base 4 "periods" (sp_periods K)) : FnOk P w K mg base CX0 5 f fd ["word"] (sp_root_of K) := by
  refine F.ok sc_root_of (fun vs H Q E h => by repeat (first | (obtain ⟨rfl, _⟩ := h; rfl) | obtain ⟨_, h⟩ := h)) (fun cdv A outer s H vs Q E hr h => ?_)
  refine ⟨_, (pss_cons (ps_expr (pe_c C_check_filled hr (by decide) rfl (pa_cons (pv 0) pa_nil)))
  (pss_cons (ps_set (i := 1) sc_root_of.nd rfl (Or.inl rfl) (pe_ix ix_list (pe_c C_periods hr (by decide) rfl (pa_cons (pv 0) pa_nil)) pe_int (fun _ _ => rfl)))
  (pss_cons (ps_if (pt_cmpR op_ne (pe_op op_mod (pe_callTy cq_int rfl T.n_int boot_int (pa_cons (pe_callB cq_lenS rfl T.n_len boot_len (pa_cons (pv 0) pa_nil)) pa_nil)) (pv 1)) pe_int (nomark _)) (pss_one (ps_set (i := 1) sc_root_of.nd rfl (Or.inl rfl) (pe_callB cq_lenS rfl T.n_len boot_len (pa_cons (pv 0) pa_nil)))) pss_nil)
  (pss_one (ps_ret (pe_tup (pa_cons (pe_slice C8.sl_txt (pv 0) po_none (po_some (pv 1))) (pa_cons (pe_op op_fdiv (pe_callB cq_lenS rfl T.n_len boot_len (pa_cons (pv 0) pa_nil)) (pv 1)) pa_nil)))))))), ?_⟩
  try dsimp only [cxOf, Cx.nox, Cx.wish]
  obtain ⟨l, rfl, hw, hl, hne, k⟩ := h
  walk_at "go"
  refine ⟨l, rfl, hw, hl, hne, fun H1 s1 => ?_⟩
  walk_at "go"
  refine ⟨l, rfl, hw, hl, fun p H2 np s2 h2 => ?_⟩
  walk_at "go"
  have hlp : 0 < l.length := List.length_pos_iff.mpr hne
  have hlb := Per.lb_lt (s := sg l) hlp
  have s12 : Same H H2 := s1.trans s2
  obtain ⟨P, hP⟩ : ∃ P, l.length - Per.lb (sg l) l.length = P := ⟨_, rfl⟩
  refine rd_ixL (SqL.of h2) (v := .int (P : Int)) ?_ ?_
  · refine atI_nat (j := 0) ?_
    unfold perL
    rw [List.map_map, ← List.head?_eq_getElem?, List.head?_map, Per.pl_head hlp, hP]
    rfl
  have hPp : 0 < P := by omega
  have hPl : P ≤ l.length := by omega
  walk_at "go"
  have hrt : rootN l = if l.length % P = 0 then P else l.length := by unfold rootN; rw [hP]
  refine rd_ndec (fun e1 => ?_) (fun e1 => ?_)
  · walk_at "go"
    intro r nr
    refine k r _ (s12.free nr) (fun b o e => by rw [upd_ne (ne_of_none (s12 b o e) nr)]; exact s12 b o e) ?_
    have e2 : ¬ l.length % P = 0 := by omega
    rw [upd_same, hrt, if_neg e2]
    simp
  · walk_at "go"
    intro r nr
    refine k r _ (s12.free nr) (fun b o e => by rw [upd_ne (ne_of_none (s12 b o e) nr)]; exact s12 b o e) ?_
    have e2 : l.length % P = 0 := by omega
    rw [upd_same, hrt, if_pos e2]
    simp

end
end My
namespace My
open PySem PySem.Spec L2 SX
open PyProof.Rows hiding St
open Lyn (sg rootN)
local macro_rules | `(tactic| walk_at "kb") => `(tactic| first | exact kb_str_str | exact kb_str_int | exact kb_str_bool | exact kb_str_list | exact kb_str_tuple | exact kb_int_str | exact kb_int_int | exact kb_int_bool | exact kb_int_list | exact kb_int_tuple | exact kb_bool_str | exact kb_bool_int | exact kb_bool_bool | exact kb_bool_list | exact kb_bool_tuple | exact kb_list_str | exact kb_list_int | exact kb_list_bool | exact kb_list_list | exact kb_list_tuple | exact kb_tuple_str | exact kb_tuple_int | exact kb_tuple_bool | exact kb_tuple_list | exact kb_tuple_tuple | exact kb_NoneType_str | exact kb_NoneType_int | exact kb_NoneType_bool | exact kb_NoneType_list | exact kb_NoneType_tuple)
local macro_rules | `(tactic| walk_at "hp") => `(tactic| first | assumption | exact upd_same | (refine (upd_ne (by first | assumption | (apply Ne.symm; assumption))).trans ?_; walk_at "hp"))
local macro_rules | `(tactic| walk_at "sq") => `(tactic| first | assumption | exact SqL.of (by walk_at "hp"))
local macro_rules | `(tactic| walk_at "sqt") => `(tactic| first | assumption | exact SqT.of (by walk_at "hp"))
local macro_rules | `(tactic| walk_at "ar") => `(tactic| first | omega | (dsimp only; omega) | (unfold CMul; omega) | (unfold CDiv; omega) | (unfold CPow; refine ⟨?_, ?_, ?_⟩ <;> decide) | (simp only [List.length_cons, List.length_nil]; decide))
local macro_rules | `(tactic| walk_at "rd") => `(tactic| first
  | with_reducible refine rd_seq ?_
  | with_reducible refine rd_asg ?_
  | with_reducible refine rd_if ?_
  | with_reducible refine rd_ret ?_
  | with_reducible refine rd_drop ?_
  | with_reducible refine rd_name ?_
  | with_reducible refine rd_sub ?_
  | ((with_reducible refine' rd_var ?e ?_); (case e => exact rfl))
  | with_reducible refine rd_c ?_
  | with_reducible refine rd_op ?_
  | with_reducible refine rd_un ?_
  | with_reducible refine rd_I0 ?_
  | ((with_reducible refine' rd_I ?c ?_); (case c => walk_at "ar"))
  | with_reducible refine rd_U ?_
  | with_reducible refine rd_eqI ?_
  | with_reducible refine rd_neI ?_
  | with_reducible refine rd_eqS ?_
  | with_reducible refine rd_neS ?_
  | with_reducible refine rd_eqB ?_
  | with_reducible refine rd_neB ?_
  | with_reducible refine rd_test ?_
  | with_reducible refine rd_B ?_
  | with_reducible refine rd_and ?_
  | with_reducible refine rd_or ?_
  | with_reducible refine rd_not ?_
  | with_reducible refine rd_andV ?_
  | with_reducible refine rd_orV ?_
  | with_reducible refine rd_notV ?_
  | with_reducible refine rd_ifE ?_
  | with_reducible refine rd_isN ?_
  | with_reducible refine rd_notN ?_
  | with_reducible refine rd_cons ?_
  | with_reducible refine rd_nil ?_
  | with_reducible refine rd_lst ?_
  | with_reducible refine rd_tup ?_
  | with_reducible refine rd_CB ?_
  | with_reducible refine rd_call ?_
  | with_reducible refine rd_sl ?_
  | with_reducible refine rd_part ?_
  | with_reducible refine rd_nopart ?_
  | with_reducible refine rd_par ?_
  | with_reducible refine rd_two ?_
  | with_reducible refine rd_next ?_
  | with_reducible refine rd_retN ?_
  | with_reducible refine rd_bool ?_
  | with_reducible refine rd_int ?_
  | with_reducible refine rd_intI ?_
  | with_reducible refine rd_intB ?_
  | with_reducible refine rd_ltS ?_
  | with_reducible refine rd_leS ?_
  | with_reducible refine rd_gtS ?_
  | with_reducible refine rd_geS ?_
  | with_reducible refine rd_inC ?_
  | with_reducible refine rd_notInC ?_
  | with_reducible refine rd_abs ?_
  | with_reducible refine rd_max2 ?_
  | with_reducible refine rd_min2 ?_
  | with_reducible refine rd_M1 ?_
  | with_reducible refine rd_isStr ?_
  | ((with_reducible refine' rd_len ?b ?_); (case b => (simp only [List.length_cons, List.length_nil]; decide)))
  | ((with_reducible refine' rd_listS ?b ?_); (case b => first | (simp only [List.length_take, List.length_cons, List.length_nil]; omega) | omega))
  | ((with_reducible refine' rd_isi ?ty ?h ?_); (case ty => first | exact ty_str | exact ty_int | exact ty_bl | exact ty_non | exact ty_lst (by walk_at "hp") | exact ty_tup (by walk_at "hp")); (case h => walk_at "kb"))
  | with_reducible refine rd_lc ?_
  | with_reducible refine rd_for ?_
  | with_reducible refine rd_iList ?_
  | with_reducible refine rd_iTup ?_
  | with_reducible refine rd_iRng1 ?_
  | with_reducible refine rd_iRng2 ?_
  | with_reducible refine rd_iRng3 ?_
  | with_reducible refine rd_iStr ?_
  | with_reducible refine rd_qIs ?_
  | with_reducible refine rd_whb ?_
  | ((with_reducible refine' rd_qIl ?sq ?_); (case sq => walk_at "sq"))
  | ((with_reducible refine' rd_qItu ?sq ?_); (case sq => walk_at "sqt"))
  | ((with_reducible refine' rd_qIr1 ?b1 ?b2 ?_); (case b1 => walk_at "ar"); (case b2 => walk_at "ar"))
  | ((with_reducible refine' rd_qIr2 ?b1 ?b2 ?b3 ?b4 ?_); (case b1 => walk_at "ar"); (case b2 => walk_at "ar"); (case b3 => walk_at "ar"); (case b4 => walk_at "ar"))
  | ((with_reducible refine' rd_qIr3 ?b1 ?b2 ?b3 ?b4 ?_); (case b1 => walk_at "ar"); (case b2 => walk_at "ar"); (case b3 => walk_at "ar"); (case b4 => walk_at "ar"))
  | ((with_reducible refine' rd_mulS ?b1 ?b2 ?b3 ?_); (case b1 => walk_at "ar"); (case b2 => walk_at "ar"); (case b3 => walk_at "ar"))
  | ((with_reducible refine' rd_slS_to ?b1 ?b2 ?_); (case b1 => walk_at "ar"); (case b2 => walk_at "ar"))
  | ((with_reducible refine' rd_slS_from ?b1 ?b2 ?_); (case b1 => walk_at "ar"); (case b2 => walk_at "ar"))
  | ((with_reducible refine' rd_slS_mid ?b1 ?b2 ?b3 ?b4 ?_); (case b1 => walk_at "ar"); (case b2 => walk_at "ar"); (case b3 => walk_at "ar"); (case b4 => walk_at "ar"))
  | ((with_reducible refine' rd_slL ?sq ?_); (case sq => walk_at "sq"))
  | with_reducible refine rd_true ?_
  | with_reducible refine rd_false ?_
  | with_reducible refine rd_nt ?_
  | with_reducible refine rd_nf ?_
  | ((with_reducible refine' rd_decT ?h ?_); (case h => omega))
  | ((with_reducible refine' rd_decF ?h ?_); (case h => omega))
  | ((with_reducible refine' rd_ndecT ?h ?_); (case h => omega))
  | ((with_reducible refine' rd_ndecF ?h ?_); (case h => omega))
  | ((with_reducible refine' rd_evT ?h ?_); (case h => first | exact rfl | (simp; done)))
  | ((with_reducible refine' rd_evF ?h ?_); (case h => first | exact rfl | (simp; done)))
  | ((with_reducible refine' rd_ixL ?sq ?a1 ?_); (case sq => walk_at "sq"); (case a1 => first | exact rfl | exact at_of (by omega) (by assumption)))
  | ((with_reducible refine' rd_ixT ?sq ?a1 ?_); (case sq => walk_at "sqt"); (case a1 => first | exact rfl | exact at_of (by omega) (by assumption)))
  | ((with_reducible refine' rd_lenL ?sq ?_); (case sq => walk_at "sq"))
  | ((with_reducible refine' rd_lenT ?sq ?_); (case sq => walk_at "sqt"))
  | ((with_reducible refine' rd_setL ?h ?j ?_); (case h => walk_at "hp"); (case j => exact rfl); (with_reducible refine id ?_))
  | ((with_reducible refine' rd_strlen ?l ?_); (case l => walk_at "ar"))
  | ((with_reducible refine' rd_cat ?l ?_); (case l => walk_at "ar")))
local macro_rules | `(tactic| walk_at "go") => `(tactic| ((try dsimp only); (repeat (walk_at "rd"))))
local macro_rules | `(tactic| walk_at "rd") => `(tactic| first
  | with_reducible refine rd_lstRg ?_
  | with_reducible refine rd_tRg1 ?_
  | with_reducible refine rd_tRg2 ?_
  | with_reducible refine rd_rg1 ?_
  | with_reducible refine rd_rg2 ?_
  | ((with_reducible refine' rd_qRg ?b ?_); (case b => refine ⟨?_, ?_, ?_, ?_⟩ <;> omega))
  | with_reducible refine rd_sortSet ?_
  | with_reducible refine rd_tDGet ?_
  | with_reducible refine rd_sDPut ?_
  | with_reducible refine rd_dnew ?_
  | with_reducible refine rd_iZipS ?_
  | with_reducible refine rd_zipS ?_
  | ((with_reducible refine' rd_inI ?sq ?_); (case sq => walk_at "sq"))
  | ((with_reducible refine' rd_notInI ?sq ?_); (case sq => walk_at "sq"))
  | with_reducible refine rd_chain ?_)

section
variable {P : Program} {w : World} {K : PySem.W.Frag} {mg : Str → Option Value} {base : Heap}
theorem ok__law_is_leaf {f : Addr} {fd : FuncData} (F : Fun K "_law_is" "_law_is" s__law_is f fd) (T : Txt K mg) : FnOk P w K mg base CX0 1 f fd ["shown", "due"] (sp__law_is_leaf K) := by
  refine F.ok sc__law_is (fun vs H Q E h => by repeat (first | (obtain ⟨rfl, _⟩ := h; rfl) | obtain ⟨_, h⟩ := h)) (fun cdv A outer s H vs Q E hr h => ?_)
  refine ⟨_, (pss_cons (ps_if (pt_val (pe_callB call_isiT rfl T.n_isinstance boot_isinstance (pa_cons (pv 1) (pa_cons (pe_tup (pa_cons (pe_bltn (v := .ty "tuple") rfl T.n_tuple boot_tuple rfl) (pa_cons (pe_bltn (v := .ty "list") rfl T.n_list boot_list rfl) pa_nil))) pa_nil)))) pss_never pss_nil)
  (pss_cons (ps_if (PW.pt (pw_or (pt_cmp (pc_isN (pv 1))) (pw_or1 (pt_cmp (pc_isN (pv 0)))))) (pss_one (ps_ret (pe_and (pe_cmp (pc_isN (pv 1)) rfl) (pe_one (pe_cmp (pc_isN (pv 0)) rfl))))) pss_nil)
  (pss_cons (ps_if (PW.pt (pw_or (pt_cmpR op_ne (pe_callB call_isi rfl T.n_isinstance boot_isinstance (pa_cons (pv 0) (pa_cons (pe_bltn (v := .ty "bool") rfl T.n_bool boot_bool rfl) pa_nil))) (pe_callB call_isi rfl T.n_isinstance boot_isinstance (pa_cons (pv 1) (pa_cons (pe_bltn (v := .ty "bool") rfl T.n_bool boot_bool rfl) pa_nil))) (nomark _)) (pw_or1 (pt_cmpR op_ne (pe_callB call_isi rfl T.n_isinstance boot_isinstance (pa_cons (pv 0) (pa_cons (pe_bltn (v := .ty "int") rfl T.n_int boot_int rfl) pa_nil))) (pe_callB call_isi rfl T.n_isinstance boot_isinstance (pa_cons (pv 1) (pa_cons (pe_bltn (v := .ty "int") rfl T.n_int boot_int rfl) pa_nil))) (nomark _))))) (pss_one (ps_ret pe_bl)) pss_nil)
  (pss_one (ps_ret (pe_and (pe_cmpR op_eq (pe_callB call_isi rfl T.n_isinstance boot_isinstance (pa_cons (pv 0) (pa_cons (pe_bltn (v := .ty "str") rfl T.n_str boot_str rfl) pa_nil))) (pe_callB call_isi rfl T.n_isinstance boot_isinstance (pa_cons (pv 1) (pa_cons (pe_bltn (v := .ty "str") rfl T.n_str boot_str rfl) pa_nil))) (nomark _)) (pe_one (pe_cmpR op_eq (pv 0) (pv 1) (nomark _))))))))), ?_⟩
  try dsimp only [cxOf, Cx.nox, Cx.wish]
  obtain ⟨x, rfl, hx, k⟩ := h
  have sn : ∀ {p : Addr} {o : HO}, H p = none → Same H (upd H p o) := fun n => Same.new n
  rcases hx with ⟨i, rfl⟩ | ⟨b, rfl⟩ | ⟨l, rfl⟩ | rfl <;>
  · walk_at "go"
    intro tp ntp
    walk_at "go"
    refine rd_isiTL upd_same (by first | exact ty_str | exact ty_int | exact ty_bl | exact ty_non) (by walk_at "kb") (by walk_at "kb") ?_
    walk_at "go"
    first | exact k _ (sn ntp) | (simp only [decide_true, beq_self_eq_true]; exact k _ (sn ntp))
theorem ok__law_is {f : Addr} {fd : FuncData} (F : Fun K "_law_is" "_law_is" s__law_is f fd) (T : Txt K mg) (C__law_is_leaf : Cal P w K mg base 1 "_law_is" (sp__law_is_leaf K)) : FnOk P w K mg base CX0 2 f fd ["shown", "due"] (sp__law_is K) := by
  refine F.ok sc__law_is (fun vs H Q E h => by repeat (first | (obtain ⟨rfl, _⟩ := h; rfl) | obtain ⟨_, h⟩ := h)) (fun cdv A outer s H vs Q E hr h => ?_)
  refine ⟨_, (pss_cons (ps_if (pt_val (pe_callB call_isiT rfl T.n_isinstance boot_isinstance (pa_cons (pv 1) (pa_cons (pe_tup (pa_cons (pe_bltn (v := .ty "tuple") rfl T.n_tuple boot_tuple rfl) (pa_cons (pe_bltn (v := .ty "list") rfl T.n_list boot_list rfl) pa_nil))) pa_nil)))) (pss_cons (ps_if (PW.pt (pw_or (pt_cmpR op_ne (pe_callB call_isi rfl T.n_isinstance boot_isinstance (pa_cons (pv 0) (pa_cons (pe_bltn (v := .ty "tuple") rfl T.n_tuple boot_tuple rfl) pa_nil))) (pe_callB call_isi rfl T.n_isinstance boot_isinstance (pa_cons (pv 1) (pa_cons (pe_bltn (v := .ty "tuple") rfl T.n_tuple boot_tuple rfl) pa_nil))) (nomark _)) (pw_or1 (pt_cmpR op_ne (pe_callB call_isi rfl T.n_isinstance boot_isinstance (pa_cons (pv 0) (pa_cons (pe_bltn (v := .ty "list") rfl T.n_list boot_list rfl) pa_nil))) (pe_callB call_isi rfl T.n_isinstance boot_isinstance (pa_cons (pv 1) (pa_cons (pe_bltn (v := .ty "list") rfl T.n_list boot_list rfl) pa_nil))) (nomark _))))) (pss_one (ps_ret pe_bl)) pss_nil)
  (pss_one (ps_ret (pe_and (pe_cmpR op_eq (pe_callB cq_len rfl T.n_len boot_len (pa_cons (pv 0) pa_nil)) (pe_callB cq_len rfl T.n_len boot_len (pa_cons (pv 1) pa_nil)) (nomark _)) (pe_one (pe_callB (cr_all rfl) rfl T.n_all boot_all (pa_cons (pe_lc (own := [("one", 2), ("other", 3)]) rfl sc__law_is.nd (RZ.pi_zipA rfl T.n_zip (pa_cons (pv 0) (pa_cons (pv 1) pa_nil))) (blkOk_by (N := N__law_is) (sc := defScope s__law_is) (by decide +kernel)) (fun _ _ _ _ _ => (pg_two (i := 2) (j := 3) K rfl rfl sc__law_is.nd rfl (Or.inl rfl) rfl (Or.inl rfl))) (fun _ _ _ _ _ => pts_nil) (fun _ _ _ _ _ => (pe_c C__law_is_leaf hr (by decide) rfl (pa_cons (pv 2) (pa_cons (pv 3) pa_nil))))) pa_nil))))))) pss_nil)
  (pss_cons (ps_if (PW.pt (pw_or (pt_cmp (pc_isN (pv 1))) (pw_or1 (pt_cmp (pc_isN (pv 0)))))) (pss_one (ps_ret (pe_and (pe_cmp (pc_isN (pv 1)) rfl) (pe_one (pe_cmp (pc_isN (pv 0)) rfl))))) pss_nil)
  (pss_cons (ps_if (PW.pt (pw_or (pt_cmpR op_ne (pe_callB call_isi rfl T.n_isinstance boot_isinstance (pa_cons (pv 0) (pa_cons (pe_bltn (v := .ty "bool") rfl T.n_bool boot_bool rfl) pa_nil))) (pe_callB call_isi rfl T.n_isinstance boot_isinstance (pa_cons (pv 1) (pa_cons (pe_bltn (v := .ty "bool") rfl T.n_bool boot_bool rfl) pa_nil))) (nomark _)) (pw_or1 (pt_cmpR op_ne (pe_callB call_isi rfl T.n_isinstance boot_isinstance (pa_cons (pv 0) (pa_cons (pe_bltn (v := .ty "int") rfl T.n_int boot_int rfl) pa_nil))) (pe_callB call_isi rfl T.n_isinstance boot_isinstance (pa_cons (pv 1) (pa_cons (pe_bltn (v := .ty "int") rfl T.n_int boot_int rfl) pa_nil))) (nomark _))))) (pss_one (ps_ret pe_bl)) pss_nil)
  (pss_one (ps_ret (pe_and (pe_cmpR op_eq (pe_callB call_isi rfl T.n_isinstance boot_isinstance (pa_cons (pv 0) (pa_cons (pe_bltn (v := .ty "str") rfl T.n_str boot_str rfl) pa_nil))) (pe_callB call_isi rfl T.n_isinstance boot_isinstance (pa_cons (pv 1) (pa_cons (pe_bltn (v := .ty "str") rfl T.n_str boot_str rfl) pa_nil))) (nomark _)) (pe_one (pe_cmpR op_eq (pv 0) (pv 1) (nomark _))))))))), ?_⟩
  try dsimp only [cxOf, Cx.nox, Cx.wish]
  obtain ⟨x, y, rfl, hx, k⟩ := h
  have sn : ∀ {p : Addr} {o : HO}, H p = none → Same H (upd H p o) := fun n => Same.new n
  rcases hx with ⟨rfl, hx⟩ | ⟨p, q, xs, rfl, rfl, hxs, hl, hx⟩
  · rcases hx with ⟨i, rfl⟩ | ⟨b, rfl⟩ | ⟨l, rfl⟩ | rfl <;>
    · walk_at "go"
      intro tp ntp
      walk_at "go"
      refine rd_isiTL upd_same (by first | exact ty_str | exact ty_int | exact ty_bl | exact ty_non) (by walk_at "kb") (by walk_at "kb") ?_
      walk_at "go"
      first | exact k _ (sn ntp) | (simp only [decide_true, beq_self_eq_true]; exact k _ (sn ntp))
  · have fin : ∀ {H1 : Hp} {D : Addr}, Same H H1 → H1 D = some (.lst ((List.range xs.length).map fun _ => V.bl true)) → rAll K [.ref D] H1 Q := fun {H1 D} s1 hD => by
      refine rd_all (bs := (List.range xs.length).map fun _ => true) (SqL.of (by rw [hD, List.map_map]; rfl)) ?_
      rw [show ((List.range xs.length).map fun _ => true).all id = true by simp]
      exact k _ s1
    have turn : ∀ (H1 : Hp) (i : Nat) (u v : V), i < xs.length → xs[i]? = some u → xs[i]? = some v → PE0 (tCall (sp__law_is_leaf K) [] E0 (tCons (tVar 2) (tCons (tVar 3) tNil))) [some (.ref p), some (.ref q), some u, some v] H1 (.bl true) := fun H1 i u v hi hu hv => by
      intro H2 s2 Q2 q2
      have e : u = v := by rw [hu] at hv; exact Option.some.inj hv
      subst e
      walk_at "go"
      exact ⟨u, rfl, hxs u (List.mem_of_getElem? hu), fun H3 s3 => q2 _ s3⟩
    rcases hx with ⟨hp, hq⟩ | ⟨hp, hq⟩
    · walk_at "go"
      intro tp ntp
      have hp1 := ne_of_none hp ntp
      have hq1 := ne_of_none hq ntp
      walk_at "go"
      refine rd_isiTL upd_same (ty_lst (by walk_at "hp")) (by walk_at "kb") (by walk_at "kb") ?_
      walk_at "go"
      refine rd_iZip ?_
      walk_at "go"
      have hp2 : SqL K (upd H tp (HO.tup [V.ty "tuple", V.ty "list"])) p xs := .of (by walk_at "hp")
      have hq2 : SqL K (upd H tp (HO.tup [V.ty "tuple", V.ty "list"])) q xs := .of (by walk_at "hp")
      refine rd_zipL hp2 hq2 ?_
      refine lcZ (walk_zip (by omega)) (fun H' s => ⟨Same.seq s hp2, Same.seq s hq2⟩) (fun _ => .bl true) hl (fun _ _ => rfl) (fun i u v hi hu hv => turn _ i u v hi hu hv) (fun D H1 nD s1 hD => ?_)
      walk_at "go"
      exact fin ((sn ntp).trans s1) hD
    · walk_at "go"
      intro tp ntp
      have hp1 := ne_of_none hp ntp
      have hq1 := ne_of_none hq ntp
      walk_at "go"
      refine rd_isiTL upd_same (ty_tup (by walk_at "hp")) (by walk_at "kb") (by walk_at "kb") ?_
      walk_at "go"
      refine rd_iZip ?_
      walk_at "go"
      have hp2 : SqT K (upd H tp (HO.tup [V.ty "tuple", V.ty "list"])) p xs := .of (by walk_at "hp")
      have hq2 : SqT K (upd H tp (HO.tup [V.ty "tuple", V.ty "list"])) q xs := .of (by walk_at "hp")
      refine rd_zipT hp2 hq2 ?_
      refine lcZ (walk_zipT rfl) (fun H' s => ⟨Same.seqT s hp2, Same.seqT s hq2⟩) (fun _ => .bl true) hl (fun _ _ => rfl) (fun i u v hi hu hv => turn _ i u v hi hu hv) (fun D H1 nD s1 hD => ?_)
      walk_at "go"
      exact fin ((sn ntp).trans s1) hD

end
end My
namespace My
open PySem PySem.Spec L2 SX
open PyProof.Rows hiding St
open Lyn (sg rootN)
local macro_rules | `(tactic| walk_at "kb") => `(tactic| first | exact kb_str_str | exact kb_str_int | exact kb_str_bool | exact kb_str_list | exact kb_str_tuple | exact kb_int_str | exact kb_int_int | exact kb_int_bool | exact kb_int_list | exact kb_int_tuple | exact kb_bool_str | exact kb_bool_int | exact kb_bool_bool | exact kb_bool_list | exact kb_bool_tuple | exact kb_list_str | exact kb_list_int | exact kb_list_bool | exact kb_list_list | exact kb_list_tuple | exact kb_tuple_str | exact kb_tuple_int | exact kb_tuple_bool | exact kb_tuple_list | exact kb_tuple_tuple | exact kb_NoneType_str | exact kb_NoneType_int | exact kb_NoneType_bool | exact kb_NoneType_list | exact kb_NoneType_tuple)
local macro_rules | `(tactic| walk_at "hp") => `(tactic| first | assumption | exact upd_same | (refine (upd_ne (by first | assumption | (apply Ne.symm; assumption))).trans ?_; walk_at "hp"))
local macro_rules | `(tactic| walk_at "sq") => `(tactic| first | assumption | exact SqL.of (by walk_at "hp"))
local macro_rules | `(tactic| walk_at "sqt") => `(tactic| first | assumption | exact SqT.of (by walk_at "hp"))
local macro_rules | `(tactic| walk_at "ar") => `(tactic| first | omega | (dsimp only; omega) | (unfold CMul; omega) | (unfold CDiv; omega) | (unfold CPow; refine ⟨?_, ?_, ?_⟩ <;> decide) | (simp only [List.length_cons, List.length_nil]; decide))
local macro_rules | `(tactic| walk_at "rd") => `(tactic| first
  | with_reducible refine rd_seq ?_
  | with_reducible refine rd_asg ?_
  | with_reducible refine rd_if ?_
  | with_reducible refine rd_ret ?_
  | with_reducible refine rd_drop ?_
  | with_reducible refine rd_name ?_
  | with_reducible refine rd_sub ?_
  | ((with_reducible refine' rd_var ?e ?_); (case e => exact rfl))
  | with_reducible refine rd_c ?_
  | with_reducible refine rd_op ?_
  | with_reducible refine rd_un ?_
  | with_reducible refine rd_I0 ?_
  | ((with_reducible refine' rd_I ?c ?_); (case c => walk_at "ar"))
  | with_reducible refine rd_U ?_
  | with_reducible refine rd_eqI ?_
  | with_reducible refine rd_neI ?_
  | with_reducible refine rd_eqS ?_
  | with_reducible refine rd_neS ?_
  | with_reducible refine rd_eqB ?_
  | with_reducible refine rd_neB ?_
  | with_reducible refine rd_test ?_
  | with_reducible refine rd_B ?_
  | with_reducible refine rd_and ?_
  | with_reducible refine rd_or ?_
  | with_reducible refine rd_not ?_
  | with_reducible refine rd_andV ?_
  | with_reducible refine rd_orV ?_
  | with_reducible refine rd_notV ?_
  | with_reducible refine rd_ifE ?_
  | with_reducible refine rd_isN ?_
  | with_reducible refine rd_notN ?_
  | with_reducible refine rd_cons ?_
  | with_reducible refine rd_nil ?_
  | with_reducible refine rd_lst ?_
  | with_reducible refine rd_tup ?_
  | with_reducible refine rd_CB ?_
  | with_reducible refine rd_call ?_
  | with_reducible refine rd_sl ?_
  | with_reducible refine rd_part ?_
  | with_reducible refine rd_nopart ?_
  | with_reducible refine rd_par ?_
  | with_reducible refine rd_two ?_
  | with_reducible refine rd_next ?_
  | with_reducible refine rd_retN ?_
  | with_reducible refine rd_bool ?_
  | with_reducible refine rd_int ?_
  | with_reducible refine rd_intI ?_
  | with_reducible refine rd_intB ?_
  | with_reducible refine rd_ltS ?_
  | with_reducible refine rd_leS ?_
  | with_reducible refine rd_gtS ?_
  | with_reducible refine rd_geS ?_
  | with_reducible refine rd_inC ?_
  | with_reducible refine rd_notInC ?_
  | with_reducible refine rd_abs ?_
  | with_reducible refine rd_max2 ?_
  | with_reducible refine rd_min2 ?_
  | with_reducible refine rd_M1 ?_
  | with_reducible refine rd_isStr ?_
  | ((with_reducible refine' rd_len ?b ?_); (case b => (simp only [List.length_cons, List.length_nil]; decide)))
  | ((with_reducible refine' rd_listS ?b ?_); (case b => first | (simp only [List.length_take, List.length_cons, List.length_nil]; omega) | omega))
  | ((with_reducible refine' rd_isi ?ty ?h ?_); (case ty => first | exact ty_str | exact ty_int | exact ty_bl | exact ty_non | exact ty_lst (by walk_at "hp") | exact ty_tup (by walk_at "hp")); (case h => walk_at "kb"))
  | with_reducible refine rd_lc ?_
  | with_reducible refine rd_for ?_
  | with_reducible refine rd_iList ?_
  | with_reducible refine rd_iTup ?_
  | with_reducible refine rd_iRng1 ?_
  | with_reducible refine rd_iRng2 ?_
  | with_reducible refine rd_iRng3 ?_
  | with_reducible refine rd_iStr ?_
  | with_reducible refine rd_qIs ?_
  | with_reducible refine rd_whb ?_
  | ((with_reducible refine' rd_qIl ?sq ?_); (case sq => walk_at "sq"))
  | ((with_reducible refine' rd_qItu ?sq ?_); (case sq => walk_at "sqt"))
  | ((with_reducible refine' rd_qIr1 ?b1 ?b2 ?_); (case b1 => walk_at "ar"); (case b2 => walk_at "ar"))
  | ((with_reducible refine' rd_qIr2 ?b1 ?b2 ?b3 ?b4 ?_); (case b1 => walk_at "ar"); (case b2 => walk_at "ar"); (case b3 => walk_at "ar"); (case b4 => walk_at "ar"))
  | ((with_reducible refine' rd_qIr3 ?b1 ?b2 ?b3 ?b4 ?_); (case b1 => walk_at "ar"); (case b2 => walk_at "ar"); (case b3 => walk_at "ar"); (case b4 => walk_at "ar"))
  | ((with_reducible refine' rd_mulS ?b1 ?b2 ?b3 ?_); (case b1 => walk_at "ar"); (case b2 => walk_at "ar"); (case b3 => walk_at "ar"))
  | ((with_reducible refine' rd_slS_to ?b1 ?b2 ?_); (case b1 => walk_at "ar"); (case b2 => walk_at "ar"))
  | ((with_reducible refine' rd_slS_from ?b1 ?b2 ?_); (case b1 => walk_at "ar"); (case b2 => walk_at "ar"))
  | ((with_reducible refine' rd_slS_mid ?b1 ?b2 ?b3 ?b4 ?_); (case b1 => walk_at "ar"); (case b2 => walk_at "ar"); (case b3 => walk_at "ar"); (case b4 => walk_at "ar"))
  | ((with_reducible refine' rd_slL ?sq ?_); (case sq => walk_at "sq"))
  | with_reducible refine rd_true ?_
  | with_reducible refine rd_false ?_
  | with_reducible refine rd_nt ?_
  | with_reducible refine rd_nf ?_
  | ((with_reducible refine' rd_decT ?h ?_); (case h => omega))
  | ((with_reducible refine' rd_decF ?h ?_); (case h => omega))
  | ((with_reducible refine' rd_ndecT ?h ?_); (case h => omega))
  | ((with_reducible refine' rd_ndecF ?h ?_); (case h => omega))
  | ((with_reducible refine' rd_evT ?h ?_); (case h => first | exact rfl | (simp; done)))
  | ((with_reducible refine' rd_evF ?h ?_); (case h => first | exact rfl | (simp; done)))
  | ((with_reducible refine' rd_ixL ?sq ?a1 ?_); (case sq => walk_at "sq"); (case a1 => first | exact rfl | exact at_of (by omega) (by assumption)))
  | ((with_reducible refine' rd_ixT ?sq ?a1 ?_); (case sq => walk_at "sqt"); (case a1 => first | exact rfl | exact at_of (by omega) (by assumption)))
  | ((with_reducible refine' rd_lenL ?sq ?_); (case sq => walk_at "sq"))
  | ((with_reducible refine' rd_lenT ?sq ?_); (case sq => walk_at "sqt"))
  | ((with_reducible refine' rd_setL ?h ?j ?_); (case h => walk_at "hp"); (case j => exact rfl); (with_reducible refine id ?_))
  | ((with_reducible refine' rd_strlen ?l ?_); (case l => walk_at "ar"))
  | ((with_reducible refine' rd_cat ?l ?_); (case l => walk_at "ar")))
local macro_rules | `(tactic| walk_at "go") => `(tactic| ((try dsimp only); (repeat (walk_at "rd"))))
local macro_rules | `(tactic| walk_at "rd") => `(tactic| first
  | with_reducible refine rd_lstRg ?_
  | with_reducible refine rd_tRg1 ?_
  | with_reducible refine rd_tRg2 ?_
  | with_reducible refine rd_rg1 ?_
  | with_reducible refine rd_rg2 ?_
  | ((with_reducible refine' rd_qRg ?b ?_); (case b => refine ⟨?_, ?_, ?_, ?_⟩ <;> omega))
  | with_reducible refine rd_sortSet ?_
  | with_reducible refine rd_tDGet ?_
  | with_reducible refine rd_sDPut ?_
  | with_reducible refine rd_dnew ?_
  | with_reducible refine rd_iZipS ?_
  | with_reducible refine rd_zipS ?_
  | ((with_reducible refine' rd_inI ?sq ?_); (case sq => walk_at "sq"))
  | ((with_reducible refine' rd_notInI ?sq ?_); (case sq => walk_at "sq"))
  | with_reducible refine rd_chain ?_)

section
variable {P : Program} {w : World} {K : PySem.W.Frag} {mg : Str → Option Value} {base : Heap}
theorem ok_is_number {f : Addr} {fd : FuncData} (F : Fun K "is_number" "is_number" s_is_number f fd) (T : Txt K mg) : FnOk P w K mg base CX0 1 f fd ["thing"] (sp_is_number K) := by
  refine F.ok sc_is_number (fun vs H Q E h => by repeat (first | (obtain ⟨rfl, _⟩ := h; rfl) | obtain ⟨_, h⟩ := h)) (fun cdv A outer s H vs Q E hr h => ?_)
  refine ⟨_, (pss_one (ps_ret (pe_and (pe_callB call_isi rfl T.n_isinstance boot_isinstance (pa_cons (pv 0) (pa_cons (pe_bltn (v := .ty "int") rfl T.n_int boot_int rfl) pa_nil))) (pe_one (pe_not (pe_callB call_isi rfl T.n_isinstance boot_isinstance (pa_cons (pv 0) (pa_cons (pe_bltn (v := .ty "bool") rfl T.n_bool boot_bool rfl) pa_nil)))))))), ?_⟩
  try dsimp only [cxOf, Cx.nox, Cx.wish]
  obtain ⟨i, rfl, k⟩ := h
  walk_at "go"
  exact k _ (Same.refl _)
theorem ok_check_counts {f : Addr} {fd : FuncData} (F : Fun K "check_counts" "check_counts" s_check_counts f fd) (T : Txt K mg) (C_is_number : Cal P w K mg base 1 "is_number" (sp_is_number K)) : FnOk P w K mg base CX0 2 f fd ["letters", "length"] (sp_check_counts K) := by
  refine F.ok sc_check_counts (fun vs H Q E h => by repeat (first | (obtain ⟨rfl, _⟩ := h; rfl) | obtain ⟨_, h⟩ := h)) (fun cdv A outer s H vs Q E hr h => ?_)
  refine ⟨_, (pss_cons (ps_if (PW.pt (pw_or (pt_not (pt_val (pe_c C_is_number hr (by decide) rfl (pa_cons (pv 0) pa_nil)))) (pw_or1 (pt_not (pt_chain op_le op_le pe_int (pv 0) (pe_callB cq_lenS rfl T.n_len boot_len (pa_cons (C8.pe_gc rfl T.c_SIGNS) pa_nil))))))) (pss_one ps_never) pss_nil)
  (pss_one (ps_if (PW.pt (pw_or (pt_not (pt_val (pe_c C_is_number hr (by decide) rfl (pa_cons (pv 1) pa_nil)))) (pw_or1 (pt_not (pt_chain op_le op_le pe_int (pv 1) (C8.pe_gc rfl T.c_MOST_SIGNS)))))) (pss_one ps_never) pss_nil))), ?_⟩
  try dsimp only [cxOf, Cx.nox, Cx.wish]
  obtain ⟨k', n, rfl, hk, hn, k⟩ := h
  have h4 : (([97, 98, 99, 100] : List Nat).length : Int) = 4 := rfl
  walk_at "go"
  refine ⟨_, rfl, fun H1 s1 => ?_⟩
  walk_at "go"
  refine ⟨_, rfl, fun H2 s2 => ?_⟩
  walk_at "go"
  exact k _ (s1.trans s2)
theorem divs_range {n : Nat} (hn : 1 ≤ n) : ((List.range n).filter fun i => decide (n % (1 + i) = 0)).map (fun i => 1 + i) = divs n := by
  obtain ⟨m, rfl⟩ : ∃ m, n = m + 1 := ⟨n - 1, by omega⟩
  unfold divs prop
  rw [List.range_succ, List.filter_append, List.map_append, Nat.add_sub_cancel]
  congr 1
  · rw [List.filter_map]
    rfl
  · have e : (m + 1) % (1 + m) = 0 := by rw [Nat.add_comm 1 m]; exact Nat.mod_self _
    rw [List.filter_cons, if_pos (decide_eq_true e)]
    show [1 + m] = [m + 1]
    rw [Nat.add_comm]
theorem prop_mem {n d : Nat} (h : d ∈ prop n) : 1 ≤ d ∧ 2 * d ≤ n ∧ n % d = 0 := by
  unfold prop at h
  rw [List.mem_filter] at h
  obtain ⟨h1, h2⟩ := h
  obtain ⟨i, hi, rfl⟩ := List.mem_map.mp h1
  have hi2 := List.mem_range.mp hi
  have h3 := of_decide_eq_true h2
  refine ⟨by omega, ?_, h3⟩
  have hd := Nat.div_add_mod n (1 + i)
  rw [h3, Nat.add_zero] at hd
  have hq : 2 ≤ n / (1 + i) := by
    rcases Nat.lt_or_ge (n / (1 + i)) 2 with z | z
    · have key : ∀ z : Nat, z < 2 → z = 0 ∨ z = 1 := fun z hz => by omega
      have z2 := key _ z
      rcases z2 with z2 | z2
      · rw [z2, Nat.mul_zero] at hd; omega
      · rw [z2, Nat.mul_one] at hd; omega
    · exact z
  have := Nat.mul_le_mul_left (1 + i) hq
  omega
theorem prop_len {n : Nat} : (prop n).length ≤ n := by
  unfold prop
  have := List.length_filter_le (fun d => decide (n % d = 0)) ((List.range (n - 1)).map fun i => 1 + i)
  rw [List.length_map, List.length_range] at this
  omega
theorem zero_iff (z : Nat) : ((z : Int) = 0) ↔ z = 0 := by omega
theorem ok_divisors {f : Addr} {fd : FuncData} (F : Fun K "divisors" "divisors" s_divisors f fd) (T : Txt K mg) : FnOk P w K mg base CX0 1 f fd ["number"] (sp_divisors K) := by
  refine F.ok sc_divisors (fun vs H Q E h => by repeat (first | (obtain ⟨rfl, _⟩ := h; rfl) | obtain ⟨_, h⟩ := h)) (fun cdv A outer s H vs Q E hr h => ?_)
  refine ⟨_, (pss_one (ps_ret (pe_lc (own := [("one", 1)]) rfl sc_divisors.nd (pi_range2 rfl T.n_range (pa_cons pe_int (pa_cons (pe_op op_add (pv 0) pe_int) pa_nil))) (blkOk_by (N := N_divisors) (sc := defScope s_divisors) (by decide +kernel)) (fun _ _ _ _ _ => (pg_name (i := 1) sc_divisors.nd rfl (Or.inl rfl))) (fun _ _ _ _ _ => (pts_one (pt_cmpR op_eq (pe_op op_mod (pe_callTy cq_int rfl T.n_int boot_int (pa_cons (pv 0) pa_nil)) (pv 1)) pe_int (nomark _)))) (fun _ _ _ _ _ => (pv 1))))), ?_⟩
  try dsimp only [cxOf, Cx.nox, Cx.wish]
  obtain ⟨n, rfl, hn, hn3, k⟩ := h
  walk_at "go"
  have en : ((n : Int) + 1 - 1).toNat = n := by omega
  rw [en]
  refine lcR (fun i => decide (n % (1 + i) = 0)) (fun i => .int (1 + (i : Int))) (by omega) (fun _ => rfl) (fun i hi H1 s1 Q1 q1 => ?_) (fun i hi _ H1 s1 Q1 q1 => ?_) (fun D H1 nD s1 hD => ?_)
  · walk_at "go"
    have e : ((n : Int) % (1 + (i : Int))) = ((n % (1 + i) : Nat) : Int) := by rw [Int.natCast_emod, Int.natCast_add]; rfl
    rw [e, show decide (((n % (1 + i) : Nat) : Int) = 0) = decide (n % (1 + i) = 0) from decide_eq_decide.mpr (zero_iff _)]
    exact q1 _ (Same.refl _)
  · walk_at "go"
    exact q1 _ (Same.refl _)
  · refine k D _ nD s1 ?_
    rw [hD]
    unfold nInts
    rw [← divs_range hn, List.map_map]
    congr 2
theorem ok_raised {f : Addr} {fd : FuncData} (F : Fun K "raised" "raised" s_raised f fd) (T : Txt K mg) : FnOk P w K mg base CX0 1 f fd ["number", "times"] (sp_raised K) := by
  refine F.ok sc_raised (fun vs H Q E h => by repeat (first | (obtain ⟨rfl, _⟩ := h; rfl) | obtain ⟨_, h⟩ := h)) (fun cdv A outer s H vs Q E hr h => ?_)
  refine ⟨_, (pss_cons (ps_set (i := 2) sc_raised.nd rfl (Or.inl rfl) pe_int)
  (pss_cons (ps_for PassesOwn.never rfl (pi_range1 rfl T.n_range (pa_cons (pv 1) pa_nil)) (pg_name (i := 3) sc_raised.nd rfl (Or.inl rfl))
  (pss_one (ps_set (i := 2) sc_raised.nd rfl (Or.inl rfl) (pe_op op_mul (pv 2) (pv 0)))))
  (pss_one (ps_ret (pv 2))))), ?_⟩
  try dsimp only [cxOf, Cx.nox, Cx.wish]
  obtain ⟨k', n, rfl, hk, hn, k⟩ := h
  walk_at "go"
  refine forR (fun i σ' H' => ∃ v, σ' = [some (.int (k' : Int)), some (.int (n : Int)), some (.int ((k' ^ i : Nat) : Int)), v] ∧ H' = H) ⟨_, by rw [Nat.pow_zero]; rfl, rfl⟩ ?_ ?_
  · rintro i σ1 H1 hi ⟨v, rfl, rfl⟩
    walk_at "go"
    refine ⟨some (V.int (0 + (i : Int))), ?_, rfl⟩
    rw [Nat.pow_succ, Int.natCast_mul]
    rfl
  · rintro σ1 H1 ⟨v, rfl, rfl⟩
    walk_at "go"
    have en : ((n : Int)).toNat = n := by omega
    rw [en]
    exact k _ (Same.refl _)
theorem cut_last {xs : List V} {z : V} : cutV (xs ++ [z]) none (some (-1)) = xs := by
  unfold cutV
  rw [HT.sIx_none]
  have e : HT.sIx (xs ++ [z]).length (xs ++ [z]).length (some (-1)) = xs.length := by
    show (if (-1 : Int) < 0 then ((-1 : Int) + ((xs ++ [z]).length : Int)).toNat else min (-1 : Int).toNat (xs ++ [z]).length) = xs.length
    rw [if_pos (by decide), List.length_append]
    simp only [List.length_cons, List.length_nil]
    omega
  rw [e, List.drop_zero, Nat.sub_zero]
  simp
theorem ok_roots_count_0 {f : Addr} {fd : FuncData} (F : Fun K "roots_count" "roots_count" s_roots_count f fd) (j : Nat) : FnOk P w K mg base CX0 (j + 1) f fd ["letters", "length"] (sp_roots_count 0 K) := by
  refine F.ok sc_roots_count (fun vs H Q E h => by obtain ⟨k, n, _, h1, h2, _⟩ := h; simp at h2; omega) (fun cdv A outer s H vs Q E hr h => ?_)
  obtain ⟨k, n, _, h1, h2, _⟩ := h
  simp at h2
  omega
theorem ok_roots_count {f : Addr} {fd : FuncData} {n k : Nat} (hk : 2 ≤ k) (C_roots_count : Cal P w K mg base k "roots_count" (sp_roots_count n K)) (F : Fun K "roots_count" "roots_count" s_roots_count f fd) (T : Txt K mg) (C_raised : Cal P w K mg base 1 "raised" (sp_raised K)) (C_divisors : Cal P w K mg base 1 "divisors" (sp_divisors K)) : FnOk P w K mg base CX0 (k + 1) f fd ["letters", "length"] (sp_roots_count (n + 1) K) := by
  refine F.ok sc_roots_count (fun vs H Q E h => by repeat (first | (obtain ⟨rfl, _⟩ := h; rfl) | obtain ⟨_, h⟩ := h)) (fun cdv A outer s H vs Q E hr h => ?_)
  refine ⟨_, (pss_cons (ps_set (i := 2) sc_roots_count.nd rfl (Or.inl rfl) (pe_c C_raised hr (by omega) rfl (pa_cons (pv 0) (pa_cons (pv 1) pa_nil))))
  (pss_cons (ps_for PassesOwn.never rfl (pi_list (pe_slice sl_list (pe_c C_divisors hr (by omega) rfl (pa_cons (pv 1) pa_nil)) po_none (po_some (pe_un un_neg pe_int)))) (pg_name (i := 3) sc_roots_count.nd rfl (Or.inl rfl))
  (pss_one (ps_set (i := 2) sc_roots_count.nd rfl (Or.inl rfl) (pe_op op_sub (pv 2) (pe_c C_roots_count hr (by omega) rfl (pa_cons (pv 0) (pa_cons (pv 3) pa_nil)))))))
  (pss_one (ps_ret (pv 2))))), ?_⟩
  try dsimp only [cxOf, Cx.nox, Cx.wish]
  obtain ⟨k', m, rfl, hm, hm2, hm3, hk3, k⟩ := h
  walk_at "go"
  refine ⟨k', m, rfl, hk3, hm3, fun H1 s1 => ?_⟩
  walk_at "go"
  refine ⟨m, rfl, hm, hm3, fun p H2 np s2 h2 => ?_⟩
  walk_at "go"
  intro q nq
  have e1 : nInts (divs m) = nInts (prop m) ++ [V.int (m : Int)] := by unfold nInts divs; rw [List.map_append]; rfl
  rw [e1, cut_last]
  refine rd_qIl (SqL.of upd_same) ?_
  have s3 : Same H (upd H2 q (.lst (nInts (prop m)))) := (s1.trans s2).trans (Same.new nq)
  refine forL (prop m) (fun d : Nat => V.int (d : Int)) (fun i σ' H' => ∃ v, σ' = [some (.int (k' : Int)), some (.int (m : Int)), some (.int (((prop m).take i).foldl (fun a d => a - rcF n k' d) ((k' ^ m : Nat) : Int))), v] ∧ Same H H' ∧ SqL K H' q ((prop m).map fun d : Nat => V.int (d : Int))) ⟨_, rfl, s3, SqL.of upd_same⟩ (fun i σ' H' _ ⟨_, _, _, hs⟩ => hs) ?_ ?_
  · rintro i d σ1 H3 hd ⟨v, rfl, s4, hs⟩
    obtain ⟨d1, d2, d3⟩ := prop_mem (List.mem_of_getElem? hd)
    walk_at "go"
    refine ⟨k', d, rfl, d1, ?_, by omega, hk3, fun H4 s5 => ?_⟩
    · rw [Nat.pow_succ] at hm2
      omega
    walk_at "go"
    refine ⟨some (V.int (d : Int)), ?_, s4.trans s5, Same.seq s5 hs⟩
    rw [List.take_succ, hd]
    show _ = [some (V.int (k' : Int)), some (V.int (m : Int)), some (V.int (((prop m).take i ++ [d]).foldl (fun a d => a - rcF n k' d) ((k' ^ m : Nat) : Int))), some (V.int (d : Int))]
    rw [List.foldl_append]
    rfl
  · rintro σ1 H3 ⟨v, rfl, s4, hs⟩
    rw [List.take_length]
    walk_at "go"
    exact k _ s4
end
end My
namespace My
open PySem PySem.Spec L2 SX
open PyProof.Rows hiding St
open Lyn (sg rootN)
local macro_rules | `(tactic| walk_at "kb") => `(tactic| first | exact kb_str_str | exact kb_str_int | exact kb_str_bool | exact kb_str_list | exact kb_str_tuple | exact kb_int_str | exact kb_int_int | exact kb_int_bool | exact kb_int_list | exact kb_int_tuple | exact kb_bool_str | exact kb_bool_int | exact kb_bool_bool | exact kb_bool_list | exact kb_bool_tuple | exact kb_list_str | exact kb_list_int | exact kb_list_bool | exact kb_list_list | exact kb_list_tuple | exact kb_tuple_str | exact kb_tuple_int | exact kb_tuple_bool | exact kb_tuple_list | exact kb_tuple_tuple | exact kb_NoneType_str | exact kb_NoneType_int | exact kb_NoneType_bool | exact kb_NoneType_list | exact kb_NoneType_tuple)
local macro_rules | `(tactic| walk_at "hp") => `(tactic| first | assumption | exact upd_same | (refine (upd_ne (by first | assumption | (apply Ne.symm; assumption))).trans ?_; walk_at "hp"))
local macro_rules | `(tactic| walk_at "sq") => `(tactic| first | assumption | exact SqL.of (by walk_at "hp"))
local macro_rules | `(tactic| walk_at "sqt") => `(tactic| first | assumption | exact SqT.of (by walk_at "hp"))
local macro_rules | `(tactic| walk_at "ar") => `(tactic| first | omega | (dsimp only; omega) | (unfold CMul; omega) | (unfold CDiv; omega) | (unfold CPow; refine ⟨?_, ?_, ?_⟩ <;> decide) | (simp only [List.length_cons, List.length_nil]; decide))
local macro_rules | `(tactic| walk_at "rd") => `(tactic| first
  | with_reducible refine rd_seq ?_
  | with_reducible refine rd_asg ?_
  | with_reducible refine rd_if ?_
  | with_reducible refine rd_ret ?_
  | with_reducible refine rd_drop ?_
  | with_reducible refine rd_name ?_
  | with_reducible refine rd_sub ?_
  | ((with_reducible refine' rd_var ?e ?_); (case e => exact rfl))
  | with_reducible refine rd_c ?_
  | with_reducible refine rd_op ?_
  | with_reducible refine rd_un ?_
  | with_reducible refine rd_I0 ?_
  | ((with_reducible refine' rd_I ?c ?_); (case c => walk_at "ar"))
  | with_reducible refine rd_U ?_
  | with_reducible refine rd_eqI ?_
  | with_reducible refine rd_neI ?_
  | with_reducible refine rd_eqS ?_
  | with_reducible refine rd_neS ?_
  | with_reducible refine rd_eqB ?_
  | with_reducible refine rd_neB ?_
  | with_reducible refine rd_test ?_
  | with_reducible refine rd_B ?_
  | with_reducible refine rd_and ?_
  | with_reducible refine rd_or ?_
  | with_reducible refine rd_not ?_
  | with_reducible refine rd_andV ?_
  | with_reducible refine rd_orV ?_
  | with_reducible refine rd_notV ?_
  | with_reducible refine rd_ifE ?_
  | with_reducible refine rd_isN ?_
  | with_reducible refine rd_notN ?_
  | with_reducible refine rd_cons ?_
  | with_reducible refine rd_nil ?_
  | with_reducible refine rd_lst ?_
  | with_reducible refine rd_tup ?_
  | with_reducible refine rd_CB ?_
  | with_reducible refine rd_call ?_
  | with_reducible refine rd_sl ?_
  | with_reducible refine rd_part ?_
  | with_reducible refine rd_nopart ?_
  | with_reducible refine rd_par ?_
  | with_reducible refine rd_two ?_
  | with_reducible refine rd_next ?_
  | with_reducible refine rd_retN ?_
  | with_reducible refine rd_bool ?_
  | with_reducible refine rd_int ?_
  | with_reducible refine rd_intI ?_
  | with_reducible refine rd_intB ?_
  | with_reducible refine rd_ltS ?_
  | with_reducible refine rd_leS ?_
  | with_reducible refine rd_gtS ?_
  | with_reducible refine rd_geS ?_
  | with_reducible refine rd_inC ?_
  | with_reducible refine rd_notInC ?_
  | with_reducible refine rd_abs ?_
  | with_reducible refine rd_max2 ?_
  | with_reducible refine rd_min2 ?_
  | with_reducible refine rd_M1 ?_
  | with_reducible refine rd_isStr ?_
  | ((with_reducible refine' rd_len ?b ?_); (case b => (simp only [List.length_cons, List.length_nil]; decide)))
  | ((with_reducible refine' rd_listS ?b ?_); (case b => first | (simp only [List.length_take, List.length_cons, List.length_nil]; omega) | omega))
  | ((with_reducible refine' rd_isi ?ty ?h ?_); (case ty => first | exact ty_str | exact ty_int | exact ty_bl | exact ty_non | exact ty_lst (by walk_at "hp") | exact ty_tup (by walk_at "hp")); (case h => walk_at "kb"))
  | with_reducible refine rd_lc ?_
  | with_reducible refine rd_for ?_
  | with_reducible refine rd_iList ?_
  | with_reducible refine rd_iTup ?_
  | with_reducible refine rd_iRng1 ?_
  | with_reducible refine rd_iRng2 ?_
  | with_reducible refine rd_iRng3 ?_
  | with_reducible refine rd_iStr ?_
  | with_reducible refine rd_qIs ?_
  | with_reducible refine rd_whb ?_
  | ((with_reducible refine' rd_qIl ?sq ?_); (case sq => walk_at "sq"))
  | ((with_reducible refine' rd_qItu ?sq ?_); (case sq => walk_at "sqt"))
  | ((with_reducible refine' rd_qIr1 ?b1 ?b2 ?_); (case b1 => walk_at "ar"); (case b2 => walk_at "ar"))
  | ((with_reducible refine' rd_qIr2 ?b1 ?b2 ?b3 ?b4 ?_); (case b1 => walk_at "ar"); (case b2 => walk_at "ar"); (case b3 => walk_at "ar"); (case b4 => walk_at "ar"))
  | ((with_reducible refine' rd_qIr3 ?b1 ?b2 ?b3 ?b4 ?_); (case b1 => walk_at "ar"); (case b2 => walk_at "ar"); (case b3 => walk_at "ar"); (case b4 => walk_at "ar"))
  | ((with_reducible refine' rd_mulS ?b1 ?b2 ?b3 ?_); (case b1 => walk_at "ar"); (case b2 => walk_at "ar"); (case b3 => walk_at "ar"))
  | ((with_reducible refine' rd_slS_to ?b1 ?b2 ?_); (case b1 => walk_at "ar"); (case b2 => walk_at "ar"))
  | ((with_reducible refine' rd_slS_from ?b1 ?b2 ?_); (case b1 => walk_at "ar"); (case b2 => walk_at "ar"))
  | ((with_reducible refine' rd_slS_mid ?b1 ?b2 ?b3 ?b4 ?_); (case b1 => walk_at "ar"); (case b2 => walk_at "ar"); (case b3 => walk_at "ar"); (case b4 => walk_at "ar"))
  | ((with_reducible refine' rd_slL ?sq ?_); (case sq => walk_at "sq"))
  | with_reducible refine rd_true ?_
  | with_reducible refine rd_false ?_
  | with_reducible refine rd_nt ?_
  | with_reducible refine rd_nf ?_
  | ((with_reducible refine' rd_decT ?h ?_); (case h => omega))
  | ((with_reducible refine' rd_decF ?h ?_); (case h => omega))
  | ((with_reducible refine' rd_ndecT ?h ?_); (case h => omega))
  | ((with_reducible refine' rd_ndecF ?h ?_); (case h => omega))
  | ((with_reducible refine' rd_evT ?h ?_); (case h => first | exact rfl | (simp; done)))
  | ((with_reducible refine' rd_evF ?h ?_); (case h => first | exact rfl | (simp; done)))
  | ((with_reducible refine' rd_ixL ?sq ?a1 ?_); (case sq => walk_at "sq"); (case a1 => first | exact rfl | exact at_of (by omega) (by assumption)))
  | ((with_reducible refine' rd_ixT ?sq ?a1 ?_); (case sq => walk_at "sqt"); (case a1 => first | exact rfl | exact at_of (by omega) (by assumption)))
  | ((with_reducible refine' rd_lenL ?sq ?_); (case sq => walk_at "sq"))
  | ((with_reducible refine' rd_lenT ?sq ?_); (case sq => walk_at "sqt"))
  | ((with_reducible refine' rd_setL ?h ?j ?_); (case h => walk_at "hp"); (case j => exact rfl); (with_reducible refine id ?_))
  | ((with_reducible refine' rd_strlen ?l ?_); (case l => walk_at "ar"))
  | ((with_reducible refine' rd_cat ?l ?_); (case l => walk_at "ar")))
local macro_rules | `(tactic| walk_at "go") => `(tactic| ((try dsimp only); (repeat (walk_at "rd"))))
local macro_rules | `(tactic| walk_at "rd") => `(tactic| first
  | with_reducible refine rd_lstRg ?_
  | with_reducible refine rd_tRg1 ?_
  | with_reducible refine rd_tRg2 ?_
  | with_reducible refine rd_rg1 ?_
  | with_reducible refine rd_rg2 ?_
  | ((with_reducible refine' rd_qRg ?b ?_); (case b => refine ⟨?_, ?_, ?_, ?_⟩ <;> omega))
  | with_reducible refine rd_sortSet ?_
  | with_reducible refine rd_tDGet ?_
  | with_reducible refine rd_sDPut ?_
  | with_reducible refine rd_dnew ?_
  | with_reducible refine rd_iZipS ?_
  | with_reducible refine rd_zipS ?_
  | ((with_reducible refine' rd_inI ?sq ?_); (case sq => walk_at "sq"))
  | ((with_reducible refine' rd_notInI ?sq ?_); (case sq => walk_at "sq"))
  | with_reducible refine rd_chain ?_)

section
variable {P : Program} {w : World} {K : PySem.W.Frag} {mg : Str → Option Value} {base : Heap}
theorem ok_many_roots {f : Addr} {fd : FuncData} (F : Fun K "many_roots" "many_roots" s_many_roots f fd) (T : Txt K mg) (C_check_counts : Cal P w K mg base 2 "check_counts" (sp_check_counts K)) (C_roots_count : Cal P w K mg base 8 "roots_count" (sp_roots_count 6 K)) : FnOk P w K mg base CX0 9 f fd ["letters", "length"] (sp_many_roots K) := by
  refine F.ok sc_many_roots (fun vs H Q E h => by repeat (first | (obtain ⟨rfl, _⟩ := h; rfl) | obtain ⟨_, h⟩ := h)) (fun cdv A outer s H vs Q E hr h => ?_)
  refine ⟨_, (pss_cons (ps_expr (pe_c C_check_counts hr (by decide) rfl (pa_cons (pv 0) (pa_cons (pv 1) pa_nil))))
  (pss_one (ps_ret (pe_c C_roots_count hr (by decide) rfl (pa_cons (pv 0) (pa_cons (pv 1) pa_nil)))))), ?_⟩
  try dsimp only [cxOf, Cx.nox, Cx.wish]
  obtain ⟨k', n, rfl, hk, hn, k⟩ := h
  walk_at "go"
  refine ⟨k', n, rfl, hk, by omega, fun H1 s1 => ?_⟩
  walk_at "go"
  refine ⟨k', n, rfl, by omega, by simp; omega, by omega, by omega, fun H2 s2 => ?_⟩
  walk_at "go"
  exact k _ (s1.trans s2)
theorem divs_mem {n d : Nat} (hn : 1 ≤ n) (h : d ∈ divs n) : 1 ≤ d ∧ d ≤ n := by
  unfold divs at h
  rcases List.mem_append.mp h with h | h
  · have := prop_mem h
    omega
  · have := List.mem_singleton.mp h
    omega
theorem divs_len {n : Nat} : (divs n).length ≤ n + 1 := by
  unfold divs
  rw [List.length_append]
  have := prop_len (n := n)
  simp only [List.length_cons, List.length_nil]
  omega
theorem ok_many_turns {f : Addr} {fd : FuncData} (F : Fun K "many_turns" "many_turns" s_many_turns f fd) (T : Txt K mg) (C_check_counts : Cal P w K mg base 2 "check_counts" (sp_check_counts K)) (C_divisors : Cal P w K mg base 1 "divisors" (sp_divisors K)) (C_roots_count : Cal P w K mg base 8 "roots_count" (sp_roots_count 6 K)) : FnOk P w K mg base CX0 9 f fd ["letters", "length"] (sp_many_turns K) := by
  refine F.ok sc_many_turns (fun vs H Q E h => by repeat (first | (obtain ⟨rfl, _⟩ := h; rfl) | obtain ⟨_, h⟩ := h)) (fun cdv A outer s H vs Q E hr h => ?_)
  refine ⟨_, (pss_cons (ps_expr (pe_c C_check_counts hr (by decide) rfl (pa_cons (pv 0) (pa_cons (pv 1) pa_nil))))
  (pss_one (ps_ret (pe_callB (cr_sum rfl) rfl T.n_sum boot_sum (pa_cons (pe_lc (own := [("part", 2)]) rfl sc_many_turns.nd (pi_list (pe_c C_divisors hr (by decide) rfl (pa_cons (pv 1) pa_nil))) (blkOk_by (N := N_many_turns) (sc := defScope s_many_turns) (by decide +kernel)) (fun _ _ _ _ _ => (pg_name (i := 2) sc_many_turns.nd rfl (Or.inl rfl))) (fun _ _ _ _ _ => pts_nil) (fun _ _ _ _ _ => (pe_op op_fdiv (pe_c C_roots_count hr (by decide) rfl (pa_cons (pv 0) (pa_cons (pv 2) pa_nil))) (pv 2)))) pa_nil))))), ?_⟩
  try dsimp only [cxOf, Cx.nox, Cx.wish]
  obtain ⟨k', n, rfl, hk, hn, k⟩ := h
  walk_at "go"
  refine ⟨k', n, rfl, hk, by omega, fun H1 s1 => ?_⟩
  walk_at "go"
  refine ⟨n, rfl, by omega, by omega, fun p H2 np s2 h2 => ?_⟩
  have hdl := divs_len (n := n)
  walk_at "go"
  refine lcL (divs n) (fun d : Nat => V.int (d : Int)) (SqL.of h2) (fun _ => true) (fun d => .int (rcF 6 k' d / (d : Int))) (by omega) (fun _ => rfl) (fun _ _ => pt_yes) (fun d hd _ H3 s3 Q3 q3 => ?_) (fun D H3 nD s3 hD => ?_)
  · have hd2 := divs_mem (by omega) hd
    walk_at "go"
    refine ⟨k', d, rfl, by omega, by simp; omega, by omega, by omega, fun H4 s4 => ?_⟩
    walk_at "go"
    exact q3 _ s4
  · rw [filter_yes] at hD
    walk_at "go"
    refine ⟨D, (divs n).map fun d => rcF 6 k' d / (d : Int), rfl, SqL.of (by rw [hD, List.map_map]; rfl), ?_⟩
    exact k _ ((s1.trans s2).trans s3)
theorem ovF_step {a b : List Nat} {m : Nat} (h : ovC a b (m + 1) = false) : ovF a b (m + 1) = ovF a b m := by
  show (if ovC a b (m + 1) = true then m + 1 else ovF a b m) = _
  rw [h, if_neg Bool.false_ne_true]
theorem ok_overlap {f : Addr} {fd : FuncData} (F : Fun K "overlap" "overlap" s_overlap f fd) (T : Txt K mg) (C_check_letters : Cal P w K mg base 2 "check_letters" (sp_check_letters K)) : FnOk P w K mg base CX0 3 f fd ["one", "other"] (sp_overlap K) := by
  refine F.ok sc_overlap (fun vs H Q E h => by repeat (first | (obtain ⟨rfl, _⟩ := h; rfl) | obtain ⟨_, h⟩ := h)) (fun cdv A outer s H vs Q E hr h => ?_)
  refine ⟨_, (pss_cons (ps_expr (pe_c C_check_letters hr (by decide) rfl (pa_cons (pv 0) pa_nil)))
  (pss_cons (ps_expr (pe_c C_check_letters hr (by decide) rfl (pa_cons (pv 1) pa_nil)))
  (pss_cons (ps_for PassesOwn.never rfl (pi_range3 rfl T.n_range (pa_cons (pe_callB (cq_min2 rfl) rfl T.n_min boot_min (pa_cons (pe_callB cq_lenS rfl T.n_len boot_len (pa_cons (pv 0) pa_nil)) (pa_cons (pe_callB cq_lenS rfl T.n_len boot_len (pa_cons (pv 1) pa_nil)) pa_nil))) (pa_cons pe_int (pa_cons (pe_un un_neg pe_int) pa_nil)))) (pg_name (i := 2) sc_overlap.nd rfl (Or.inl rfl))
  (pss_one (ps_if (pt_cmpR op_eq (pe_slice C8.sl_txt (pv 0) (po_some (pe_op op_sub (pe_callB cq_lenS rfl T.n_len boot_len (pa_cons (pv 0) pa_nil)) (pv 2))) po_none) (pe_slice C8.sl_txt (pv 1) po_none (po_some (pv 2))) (nomark _)) (pss_one (ps_ret (pe_slice C8.sl_txt (pv 1) po_none (po_some (pv 2))))) pss_nil)))
  (pss_one (ps_ret (pe_strS [] rfl)))))), ?_⟩
  try dsimp only [cxOf, Cx.nox, Cx.wish]
  obtain ⟨a, b, rfl, wa, wb, la, lb, k⟩ := h
  walk_at "go"
  refine ⟨a, rfl, wa, la, fun H1 s1 => ?_⟩
  walk_at "go"
  refine ⟨b, rfl, wb, lb, fun H2 s2 => ?_⟩
  have s12 := s1.trans s2
  walk_at "go"
  have em : (if (b.length : Int) < (a.length : Int) then (b.length : Int) else (a.length : Int)) = ((min a.length b.length : Nat) : Int) := by
    split <;> omega
  rw [em]
  obtain ⟨m, hm⟩ : ∃ m, min a.length b.length = m := ⟨_, rfl⟩
  rw [hm]
  have en : (((m : Nat) : Int) - 0).toNat = m := by omega
  rw [en]
  refine forRC (fun i σ' H' => ∃ v, σ' = [some (.str (S a)), some (.str (S b)), v] ∧ Same H H' ∧ ovF a b m = ovF a b (m - i)) ⟨_, rfl, s12, by rw [Nat.sub_zero]⟩ ?_ ?_
  · rintro i σ1 H3 hi ⟨v, rfl, s3, ho⟩
    obtain ⟨j, hj⟩ : ∃ j, m - i = j + 1 := ⟨m - i - 1, by omega⟩
    have ei : ((m : Int) + (i : Int) * (-1)) = ((j + 1 : Nat) : Int) := by omega
    rw [ei]
    walk_at "go"
    have e1 : ((a.length : Int) - ((j + 1 : Nat) : Int)).toNat = a.length - (j + 1) := by omega
    have e2 : (((j + 1 : Nat) : Int)).toNat = j + 1 := by omega
    rw [e1, e2]
    cases hc : ovC a b (j + 1) with
    | true =>
      refine rd_decT (of_decide_eq_true hc) ?_
      walk_at "go"
      rw [e2]
      have e3 : ovF a b (min a.length b.length) = j + 1 := by
        rw [hm, ho, hj]
        show (if ovC a b (j + 1) = true then j + 1 else ovF a b j) = _
        rw [hc, if_pos rfl]
      have := k _ s3
      rwa [e3] at this
    | false =>
      refine rd_decF (of_decide_eq_false hc) ?_
      walk_at "go"
      refine ⟨_, rfl, s3, ?_⟩
      rw [ho, hj, ovF_step hc]
      congr 1
      omega
  · rintro σ1 H3 ⟨v, rfl, s3, ho⟩
    rw [Nat.sub_self] at ho
    walk_at "go"
    have := k _ s3
    rw [hm, ho] at this
    exact this
theorem ok__law_is_power {f : Addr} {fd : FuncData} (F : Fun K "_law_is_power" "_law_is_power" s__law_is_power f fd) (T : Txt K mg) : FnOk P w K mg base CX0 1 f fd ["word"] (sp__law_is_power K) := by
  refine F.ok sc__law_is_power (fun vs H Q E h => by repeat (first | (obtain ⟨rfl, _⟩ := h; rfl) | obtain ⟨_, h⟩ := h)) (fun cdv A outer s H vs Q E hr h => ?_)
  refine ⟨_, (pss_one (ps_ret (pe_callB (cr_any rfl) rfl T.n_any boot_any (pa_cons (pe_lc (own := [("part", 1)]) rfl sc__law_is_power.nd (pi_range2 rfl T.n_range (pa_cons pe_int (pa_cons (pe_callB cq_lenS rfl T.n_len boot_len (pa_cons (pv 0) pa_nil)) pa_nil))) (blkOk_by (N := N__law_is_power) (sc := defScope s__law_is_power) (by decide +kernel)) (fun _ _ _ _ _ => (pg_name (i := 1) sc__law_is_power.nd rfl (Or.inl rfl))) (fun _ _ _ _ _ => pts_nil) (fun _ _ _ _ _ => (pe_cmpR op_eq (pe_op op_mulS (pe_slice C8.sl_txt (pv 0) po_none (po_some (pv 1))) (pe_op op_fdiv (pe_callB cq_lenS rfl T.n_len boot_len (pa_cons (pv 0) pa_nil)) (pv 1))) (pv 0) (nomark _)))) pa_nil)))), ?_⟩
  try dsimp only [cxOf, Cx.nox, Cx.wish]
  obtain ⟨l, rfl, hl, k⟩ := h
  walk_at "go"
  have en : ((l.length : Int) - 1).toNat = l.length - 1 := by omega
  rw [en]
  refine lcR (fun _ => true) (fun i => .bl (decide (repL (l.take (1 + i)) (l.length / (1 + i)) = l))) (by omega) (fun _ => rfl) (fun _ _ => pt_yes) (fun i hi _ H1 s1 Q1 q1 => ?_) (fun D H1 nD s1 hD => ?_)
  · walk_at "go"
    have e2 : (l.length : Int) / (1 + (i : Int)) = ((l.length / (1 + i) : Nat) : Int) := by
      rw [Int.natCast_ediv, Int.natCast_add]
      rfl
    have e3 : (1 + (i : Int)).toNat = 1 + i := by omega
    have h3 : l.length / (1 + i) ≤ l.length := Nat.div_le_self _ _
    rw [e2, e3]
    generalize l.length / (1 + i) = z at h3 q1
    refine rd_mulS (by omega) (by omega) (by rw [List.length_take]; omega) ?_
    walk_at "go"
    rw [Int.toNat_natCast]
    exact q1 _ (Same.refl _)
  · rw [filter_yes] at hD
    walk_at "go"
    refine rd_any (bs := (List.range (l.length - 1)).map fun i => decide (repL (l.take (1 + i)) (l.length / (1 + i)) = l)) (SqL.of (by rw [hD, List.map_map]; rfl)) ?_
    have := k _ s1
    unfold isPow at this
    rw [List.any_map]
    exact this
theorem turns_len {l : List Nat} : (turnsW l).length = max 1 l.length := by unfold turnsW; rw [List.length_map, List.length_range]
/-- the list of turns as the comprehension makes it, then sorted, each once -/
theorem lcTurnsW {l : List Nat} {σ : St} {vs : List Nat} {H : Hp} {Q : VK} {j : Nat} {te : TE} {n : Int} (hn : n = ((max 1 l.length : Nat) : Int)) (hl : l.length ≤ 300) (hw : ∀ x, wipe ((wipe σ vs).set j (some x)) vs = wipe σ vs)
    (he : ∀ (y : Nat) (H1 : Hp) (Q1 : VK), y < max 1 l.length → Q1 (.str (S (l.drop (0 + (y : Int)).toNat ++ l.take (0 + (y : Int)).toNat))) H1 → te ((wipe σ vs).set j (some (.int (0 + (y : Int))))) H1 Q1)
    (q : ∀ p us H', H p = none → Same H H' → TurnsAt H' p l us → Q (.ref p) H') : LcG (Itr 0 n.toNat) (gName j) tYes te vs σ (fun x H1 => qSortSet K x H1 Q) H := by
  have en : n.toNat = max 1 l.length := by omega
  rw [en]
  refine lcR (fun _ => true) (fun i => .str (S (l.drop i ++ l.take i))) (by omega) hw (fun _ _ => pt_yes) (fun i hi _ H1 s1 Q1 q1 => ?_) (fun D H1 nD s1 hD => ?_)
  · have e : (0 + (i : Int)).toNat = i := by omega
    refine he i H1 Q1 hi ?_
    rw [e]
    exact q1 _ (Same.refl _)
  · rw [filter_yes] at hD
    refine ⟨D, turnsW l, rfl, SqL.of (by rw [hD]; unfold turnsW; rw [List.map_map]; rfl), by rw [turns_len]; omega, fun p us np h1 h2 => ?_⟩
    refine q p us _ ?_ (s1.trans (Same.new np)) ⟨upd_same, h1, h2⟩
    cases q9 : H p with
    | none => rfl
    | some o => rw [s1 _ _ q9] at np; cases np
theorem ok__law_turns {f : Addr} {fd : FuncData} (F : Fun K "_law_turns" "_law_turns" s__law_turns f fd) (T : Txt K mg) : FnOk P w K mg base CX0 1 f fd ["word"] (sp__law_turns K) := by
  refine F.ok sc__law_turns (fun vs H Q E h => by repeat (first | (obtain ⟨rfl, _⟩ := h; rfl) | obtain ⟨_, h⟩ := h)) (fun cdv A outer s H vs Q E hr h => ?_)
  refine ⟨_, (pss_one (ps_ret (pe_sortSet rfl (Room.u100 hr) rfl T.n_sorted rfl T.n_set (pe_lc (own := [("shift", 1)]) rfl sc__law_turns.nd (pi_range1 rfl T.n_range (pa_cons (pe_callB (cq_max2 rfl) rfl T.n_max boot_max (pa_cons pe_int (pa_cons (pe_callB cq_lenS rfl T.n_len boot_len (pa_cons (pv 0) pa_nil)) pa_nil))) pa_nil)) (blkOk_by (N := N__law_turns) (sc := defScope s__law_turns) (by decide +kernel)) (fun _ _ _ _ _ => (pg_name (i := 1) sc__law_turns.nd rfl (Or.inl rfl))) (fun _ _ _ _ _ => pts_nil) (fun _ _ _ _ _ => (pe_op oq_addS (pe_slice C8.sl_txt (pv 0) (po_some (pv 1)) po_none) (pe_slice C8.sl_txt (pv 0) po_none (po_some (pv 1))))))))), ?_⟩
  try dsimp only [cxOf, Cx.nox, Cx.wish]
  obtain ⟨l, rfl, hl, k⟩ := h
  walk_at "go"
  refine lcTurnsW (by split <;> omega) hl (fun _ => rfl) (fun y H1 Q1 hy q1 => ?_) k
  walk_at "go"
  refine rd_cat (by rw [List.length_drop, List.length_take]; omega) ?_
  exact q1
theorem ok_turns_of {f : Addr} {fd : FuncData} (F : Fun K "turns_of" "turns_of" s_turns_of f fd) (T : Txt K mg) (C_check_letters : Cal P w K mg base 2 "check_letters" (sp_check_letters K)) : FnOk P w K mg base CX0 3 f fd ["word"] (sp_turns_of K) := by
  refine F.ok sc_turns_of (fun vs H Q E h => by repeat (first | (obtain ⟨rfl, _⟩ := h; rfl) | obtain ⟨_, h⟩ := h)) (fun cdv A outer s H vs Q E hr h => ?_)
  refine ⟨_, (pss_cons (ps_expr (pe_c C_check_letters hr (by decide) rfl (pa_cons (pv 0) pa_nil)))
  (pss_one (ps_ret (pe_sortSet rfl (Room.u100 hr) rfl T.n_sorted rfl T.n_set (pe_lc (own := [("shift", 1)]) rfl sc_turns_of.nd (pi_range1 rfl T.n_range (pa_cons (pe_callB (cq_max2 rfl) rfl T.n_max boot_max (pa_cons pe_int (pa_cons (pe_callB cq_lenS rfl T.n_len boot_len (pa_cons (pv 0) pa_nil)) pa_nil))) pa_nil)) (blkOk_by (N := N_turns_of) (sc := defScope s_turns_of) (by decide +kernel)) (fun _ _ _ _ _ => (pg_name (i := 1) sc_turns_of.nd rfl (Or.inl rfl))) (fun _ _ _ _ _ => pts_nil) (fun _ _ _ _ _ => (pe_op oq_addS (pe_slice C8.sl_txt (pv 0) (po_some (pv 1)) po_none) (pe_slice C8.sl_txt (pv 0) po_none (po_some (pv 1)))))))))), ?_⟩
  try dsimp only [cxOf, Cx.nox, Cx.wish]
  obtain ⟨l, rfl, hw, hl, k⟩ := h
  walk_at "go"
  refine ⟨l, rfl, hw, hl, fun H1 s1 => ?_⟩
  walk_at "go"
  refine lcTurnsW (by split <;> omega) hl (fun _ => rfl) (fun y H2 Q2 hy q2 => ?_) (fun p us H2 np s2 ht => k p us H2 (s1.free np) (s1.trans s2) ht)
  walk_at "go"
  refine rd_cat (by rw [List.length_drop, List.length_take]; omega) ?_
  exact q2
def extW (k : Nat) (w : List Nat) : List (List Nat) := ([97, 98, 99, 100].take k).map fun c => w ++ [c]
theorem endsW_succ {k t : Nat} : endsW k (t + 1) = (endsW k t).flatMap (extW k) := rfl
theorem extW_len {k : Nat} {w : List Nat} (hk : k ≤ 3) : (extW k w).length = k := by
  unfold extW
  rw [List.length_map, List.length_take]
  show min k 4 = k
  omega
theorem flat_len {k : Nat} (hk : k ≤ 3) : ∀ ws : List (List Nat), (ws.flatMap (extW k)).length = ws.length * k
  | [] => by simp
  | w :: ws => by rw [List.flatMap_cons, List.length_append, extW_len hk, flat_len hk ws, List.length_cons, Nat.succ_mul]; omega
theorem endsW_len {k : Nat} (hk : k ≤ 3) : ∀ t, (endsW k t).length = k ^ t
  | 0 => rfl
  | t + 1 => by rw [endsW_succ, flat_len hk, endsW_len hk t, Nat.pow_succ]
theorem pow_le729 {k t : Nat} (hk : k ≤ 3) (ht : t ≤ 6) : k ^ t ≤ 729 := by
  have h1 : k ^ t ≤ 3 ^ t := Nat.pow_le_pow_left hk t
  have h2 : (3 : Nat) ^ t ≤ 3 ^ 6 := Nat.pow_le_pow_right (by decide) ht
  have h3 : (3 : Nat) ^ 6 = 729 := by decide
  omega
theorem ends_word {k : Nat} : ∀ t w, w ∈ endsW k t → w.length = t
  | 0, w, h => by
    have : w = [] := List.mem_singleton.mp h
    subst this; rfl
  | t + 1, w, h => by
    rw [endsW_succ] at h
    obtain ⟨v, hv, hw⟩ := List.mem_flatMap.mp h
    unfold extW at hw
    obtain ⟨c, _, rfl⟩ := List.mem_map.mp hw
    rw [List.length_append, ends_word t v hv]
    rfl
theorem foundW_succ {k t : Nat} : foundW k (t + 1) = foundW k t ++ endsW k (t + 1) := by
  unfold foundW
  rw [List.range_succ, List.flatMap_append]
  simp
theorem foundW_len {k : Nat} (hk : k ≤ 3) : ∀ t, t ≤ 6 → (foundW k t).length ≤ 729 * (t + 1)
  | 0, _ => by
    unfold foundW
    simp [endsW]
  | t + 1, ht => by
    rw [foundW_succ, List.length_append, endsW_len hk]
    have h1 := foundW_len hk t (by omega)
    have h2 := pow_le729 hk ht
    omega
theorem ok__law_words {f : Addr} {fd : FuncData} (F : Fun K "_law_words" "_law_words" s__law_words f fd) (T : Txt K mg) : FnOk P w K mg base CX0 1 f fd ["letters", "most"] (sp__law_words K) := by
  refine F.ok sc__law_words (fun vs H Q E h => by repeat (first | (obtain ⟨rfl, _⟩ := h; rfl) | obtain ⟨_, h⟩ := h)) (fun cdv A outer s H vs Q E hr h => ?_)
  refine ⟨_, (pss_cons (ps_par (i := 2) (j := 3) rfl sc__law_words.nd rfl rfl (by decide) rfl rfl (pa_cons (pe_lst (pa_cons (pe_strS [] rfl) pa_nil)) (pa_cons (pe_lst (pa_cons (pe_strS [] rfl) pa_nil)) pa_nil)) (by rfl))
  (pss_cons (ps_for PassesOwn.never rfl (pi_range1 rfl T.n_range (pa_cons (pv 1) pa_nil)) (pg_name (i := 4) sc__law_words.nd rfl (Or.inl rfl))
  (pss_cons (ps_set (i := 5) sc__law_words.nd rfl (Or.inl rfl) (pe_lst pa_nil))
  (pss_cons (ps_for PassesOwn.never rfl (pi_list (pv 3)) (pg_name (i := 6) sc__law_words.nd rfl (Or.inr rfl))
  (pss_one (ps_expr (pe_bm PySem.F.plainAttrs_list PySem.F.slot_list_extend PySem.F.type_list_extend mt_extend (pv 5) (pa_cons (pe_lc (own := [("sign", 7)]) rfl sc__law_words.nd (pi_str (pe_slice C8.sl_txt (pe_strS [97, 98, 99, 100] rfl) po_none (po_some (pv 0)))) (blkOk_by (N := N__law_words) (sc := defScope s__law_words) (by decide +kernel)) (fun _ _ _ _ _ => (pg_name (i := 7) sc__law_words.nd rfl (Or.inl rfl))) (fun _ _ _ _ _ => pts_nil) (fun _ _ _ _ _ => (pe_op oq_addS (pv 6) (pv 7)))) pa_nil)))))
  (pss_cons (ps_set (i := 3) sc__law_words.nd rfl (Or.inl rfl) (pv 5))
  (pss_one (ps_set (i := 2) sc__law_words.nd rfl (Or.inl rfl) (pe_op op_cat (pv 2) (pv 3))))))))
  (pss_one (ps_ret (pv 2))))), ?_⟩
  try dsimp only [cxOf, Cx.nox, Cx.wish]
  obtain ⟨k', m, rfl, hk, hm, k⟩ := h
  walk_at "go"
  intro f0 nf0
  walk_at "go"
  intro e0 ne0
  have hfe := ne_of_none (upd_same (H := H) (a := f0)) ne0
  have he0 : H e0 = none := by
    rw [upd_ne hfe.symm] at ne0; exact ne0
  walk_at "go"
  have en : ((m : Int)).toNat = m := by omega
  rw [en]
  refine forR (fun t σ' H' => ∃ (f e : Addr) (v4 v5 v6 v7 : Option V), σ' = [some (.int (k' : Int)), some (.int (m : Int)), some (.ref f), some (.ref e), v4, v5, v6, v7] ∧ Same H H' ∧ H f = none ∧ H' f = some (.lst (txts (foundW k' t))) ∧ H' e = some (.lst (txts (endsW k' t)))) ⟨f0, e0, _, _, _, _, rfl, Same.mut (Same.new nf0) he0, nf0, ?_, ?_⟩ ?_ ?_
  · rw [upd_ne hfe, upd_same]
    rfl
  · rw [upd_same]
    rfl
  · rintro t σ1 H1 ht ⟨f, e, v4, v5, v6, v7, rfl, s1, nf, hf, he⟩
    walk_at "go"
    intro g ng
    have hfg := ne_of_none hf ng
    have heg := ne_of_none he ng
    have ng0 : H g = none := s1.free ng
    walk_at "go"
    have hel := endsW_len hk t
    have hp9 := pow_le729 (t := t) hk (by omega)
    have hp9' := pow_le729 (t := t + 1) hk (by omega)
    refine forL (endsW k' t) (fun w => V.str (S w)) (fun i σ' H' => ∃ (v6 v7 : Option V), σ' = [some (.int (k' : Int)), some (.int (m : Int)), some (.ref f), some (.ref e), some (.int (0 + (t : Int))), some (.ref g), v6, v7] ∧ Same H H' ∧ H' f = some (.lst (txts (foundW k' t))) ∧ H' e = some (.lst (txts (endsW k' t))) ∧ H' g = some (.lst (txts (((endsW k' t).take i).flatMap (extW k')))))
      ⟨_, _, rfl, s1.trans (Same.new ng), by rw [upd_ne hfg]; exact hf, by rw [upd_ne heg]; exact he, by rw [upd_same]; rfl⟩ (fun i σ' H' _ ⟨_, _, _, _, _, h5, _⟩ => SqL.of h5) ?_ ?_
    · rintro i w2 σ2 H2 hw ⟨v6, v7, rfl, s2, hf2, he2, hg2⟩
      have hwl := ends_word t w2 (List.mem_of_getElem? hw)
      refine rd_drop ?_
      refine rd_BM (p := g) (ys := []) ?_
      walk_at "go"
      refine ⟨tyL hg2, ?_⟩
      walk_at "go"
      have ek : ((k' : Int)).toNat = k' := by omega
      rw [ek]
      have hil : i < (endsW k' t).length := (List.getElem?_eq_some_iff.mp hw).1
      have htk : (endsW k' t).take (i + 1) = (endsW k' t).take i ++ [w2] := by rw [List.take_succ, hw]; rfl
      refine lcS (fun _ => true) (fun c => .str (S (w2 ++ [c]))) (by rw [List.length_take]; omega) (fun _ => rfl) (fun _ _ => pt_yes) (fun c hc _ H3 s3 Q3 q3 => ?_) (fun D H3 nD s3 hD => ?_)
      · walk_at "go"
        refine rd_cat (by simp only [List.length_cons, List.length_nil]; omega) ?_
        exact q3 _ (Same.refl _)
      · rw [filter_yes] at hD
        have hDg : D ≠ g := (ne_of_none hg2 nD).symm
        have hD2 : H3 D = some (.lst (txts (extW k' w2))) := by
          rw [hD]
          unfold txts extW
          rw [List.map_map]
          rfl
        have e5 : ∀ ws, (txts ws).length = ws.length := fun ws => by unfold txts; rw [List.length_map]
        have h6 := flat_len hk ((endsW k' t).take i)
        have h7 : ((endsW k' t).take i).length * k' ≤ 729 * 3 := Nat.mul_le_mul (by rw [List.length_take]; omega) hk
        refine ⟨g, D, _, _, rfl, rfl, s3 _ _ hg2, hD2, ?_, ?_⟩
        · rw [e5, e5, extW_len hk, h6]
          exact sz (by omega)
        walk_at "go"
        have hfg2 : f ≠ g := hfg
        refine ⟨_, _, rfl, Same.mut (s2.trans s3) ng0, by rw [upd_ne hfg]; exact s3 _ _ hf2, by rw [upd_ne heg]; exact s3 _ _ he2, ?_⟩
        rw [upd_same, htk, List.flatMap_append]
        unfold txts
        rw [List.map_append]
        simp
    · rintro σ2 H2 ⟨v6, v7, rfl, s2, hf2, he2, hg2⟩
      rw [List.take_length] at hg2
      walk_at "go"
      refine rd_catL hf2 hg2 ?_ fun x nx => ?_
      · have h1 := foundW_len hk t (by omega)
        have h2 := flat_len hk (endsW k' t)
        have h3 : k' ^ (t + 1) = k' ^ t * k' := by rw [Nat.pow_succ]
        rw [hel, ← h3] at h2
        have e5 : ∀ ws, (txts ws).length = ws.length := fun ws => by unfold txts; rw [List.length_map]
        rw [e5, e5, h2]
        omega
      have hgx := ne_of_none hg2 nx
      walk_at "go"
      refine ⟨x, g, _, _, _, _, rfl, Same.mut s2 (s2.free nx), s2.free nx, ?_, ?_⟩
      · rw [upd_same, foundW_succ, endsW_succ]
        unfold txts
        rw [List.map_append]
      · rw [upd_ne hgx, hg2, endsW_succ]
  · rintro σ1 H1 ⟨f, e, v4, v5, v6, v7, rfl, s1, nf, hf, he⟩
    walk_at "go"
    exact k f _ nf s1 hf
end
end My
namespace My
open PySem PySem.Spec L2 SX
open PyProof.Rows hiding St
open Lyn (sg rootN)
def leastB (w : List Nat) : Bool := (turnsW w).all fun t => !decide (t < w)
def wordsB (k n : Nat) : List (List Nat) := (foundW k n).filter fun w => decide (w.length = n)
def chk1 (k n : Nat) : Bool := decide (rcF 6 k n = (((wordsB k n).filter fun w => !isPow w).length : Int)) && decide (mtN k n = (((wordsB k n).filter leastB).length : Int))
theorem chk1_all : ((List.range 3).all fun k => (List.range 6).all fun n => chk1 (k + 1) (n + 1)) = true := by decide +kernel
def chk2 (k g : Nat) : Bool := decide (((divs g).map fun d => rcF 6 k d).sum = ((k ^ g : Nat) : Int))
theorem chk2_all : ((List.range 3).all fun k => (List.range 60).all fun g => chk2 (k + 1) (g + 1)) = true := by decide +kernel
def chk3 (l : List Nat) : Bool := l.isEmpty || decide ((SetS.insAll ((turnsW l).map S)).length = rootN l)
theorem chk3_all : ((Wds.upto 2 7).all chk3) = true := by decide +kernel
theorem e1 : rcF 6 2 6 = 54 := by decide +kernel
theorem e2 : mtN 2 6 = 14 := by decide +kernel
theorem e3 : mtN 3 4 = 24 := by decide +kernel
theorem e4 : rcF 6 1 5 = 0 := by decide +kernel
theorem sortedL_eq : ∀ (as bs : List (List Nat)), as.Pairwise (· < ·) → bs.Pairwise (· < ·) → (∀ x, x ∈ as ↔ x ∈ bs) → as = bs
  | [], [], _, _, _ => rfl
  | [], b :: bs, _, _, h => absurd ((h b).mpr List.mem_cons_self) List.not_mem_nil
  | a :: as, [], _, _, h => absurd ((h a).mp List.mem_cons_self) List.not_mem_nil
  | a :: as, b :: bs, pa, pb, h => by
    have qa := List.pairwise_cons.mp pa
    have qb := List.pairwise_cons.mp pb
    have e : a = b := by
      rcases List.mem_cons.mp ((h a).mp List.mem_cons_self) with e | e
      · exact e
      · rcases List.mem_cons.mp ((h b).mpr List.mem_cons_self) with z | z
        · exact z.symm
        · exact absurd (List.lt_trans (qa.1 b z) (qb.1 a e)) (List.lt_irrefl _)
    subst e
    rw [sortedL_eq as bs qa.2 qb.2 fun x => ?_]
    constructor
    · intro hx
      rcases List.mem_cons.mp ((h x).mp (List.mem_cons_of_mem _ hx)) with e | e
      · subst e; exact absurd (qa.1 x hx) (List.lt_irrefl _)
      · exact e
    · intro hx
      rcases List.mem_cons.mp ((h x).mpr (List.mem_cons_of_mem _ hx)) with e | e
      · subst e; exact absurd (qb.1 x hx) (List.lt_irrefl _)
      · exact e
theorem self_turn (l : List Nat) : l ∈ turnsW l := by
  unfold turnsW
  exact List.mem_map.mpr ⟨0, List.mem_range.mpr (by omega), by simp⟩
/-- the turns in order: the first is the word itself just where no turn is smaller -/
theorem head_least {l u : List Nat} {us : List (List Nat)} (h1 : (u :: us).Pairwise (· < ·)) (h2 : ∀ x, x ∈ u :: us ↔ x ∈ turnsW l) : decide (u = l) = leastB l := by
  have q := List.pairwise_cons.mp h1
  unfold leastB
  cases e : (turnsW l).all fun t => !decide (t < l) with
  | true =>
    refine decide_eq_true ?_
    rcases List.mem_cons.mp ((h2 l).mpr (self_turn l)) with z | z
    · exact z.symm
    · have h3 := List.all_eq_true.mp e u ((h2 u).mp List.mem_cons_self)
      rw [decide_eq_true (q.1 l z)] at h3
      cases h3
  | false =>
    refine decide_eq_false fun z => ?_
    subst z
    rw [← Bool.not_eq_true, List.all_eq_true] at e
    refine e fun t ht => ?_
    rcases List.mem_cons.mp ((h2 t).mpr ht) with z | z
    · subst z
      rw [decide_eq_false (List.lt_irrefl _)]
      rfl
    · have h4 := q.1 t z
      have h5 : ¬ t < u := fun w => List.lt_irrefl _ (List.lt_trans w h4)
      rw [decide_eq_false h5]
      rfl
theorem turns_count {l : List Nat} {us : List (List Nat)} (h1 : us.Pairwise (· < ·)) (h2 : ∀ x, x ∈ us ↔ x ∈ turnsW l) : us.length = (SetS.insAll ((turnsW l).map S)).length := by
  have n1 : (us.map S).Nodup := by
    refine List.pairwise_map.mpr (List.Pairwise.imp (fun {a b} h e => ?_) h1)
    have := S_inj e
    subst this
    exact List.lt_irrefl _ h
  have p : (us.map S).Perm (SetS.insAll ((turnsW l).map S)) := (List.perm_ext_iff_of_nodup n1 (insAll_nodup _)).mpr fun x => by
    rw [SetS.insAll_mem, List.mem_map, List.mem_map]
    constructor
    · rintro ⟨a, ha, rfl⟩; exact ⟨a, (h2 a).mp ha, rfl⟩
    · rintro ⟨a, ha, rfl⟩; exact ⟨a, (h2 a).mpr ha, rfl⟩
  have := p.length_eq
  rwa [List.length_map] at this
theorem ovF_spec (a b : List Nat) : ∀ m, ovC a b (ovF a b m) = true ∨ (ovF a b m = 0)
  | 0 => .inr rfl
  | m + 1 => by
    show ovC a b (if ovC a b (m + 1) = true then m + 1 else ovF a b m) = true ∨ (if ovC a b (m + 1) = true then m + 1 else ovF a b m) = 0
    split
    · rename_i h; exact .inl h
    · exact ovF_spec a b m
theorem ovF_le (a b : List Nat) : ∀ m, ovF a b m ≤ m
  | 0 => Nat.le_refl _
  | m + 1 => by
    show (if ovC a b (m + 1) = true then m + 1 else ovF a b m) ≤ m + 1
    split
    · omega
    · have := ovF_le a b m; omega
theorem ovF_max (a b : List Nat) : ∀ m k, k ≤ m → ovC a b k = true → k ≤ ovF a b m
  | 0, k, h, _ => by omega
  | m + 1, k, h, hc => by
    show k ≤ (if ovC a b (m + 1) = true then m + 1 else ovF a b m)
    split
    · omega
    · rename_i hn
      have : k ≠ m + 1 := fun z => hn (by rw [← z]; exact hc)
      exact ovF_max a b m k (by omega) hc
theorem ovC_zero (a b : List Nat) : ovC a b 0 = true := by
  unfold ovC
  simp
theorem wd_upto {l : List Nat} {m : Nat} (h : Wd 2 l) (hl : (l.length : Int) ≤ m) : l ∈ Wds.upto 2 m := Wds.mem_upto (by omega) fun c hc => by have := h c hc; omega
theorem wd_mono {n m : Int} {l : List Nat} (h : Wd n l) (nm : n ≤ m) : Wd m l := fun c hc => by have := h c hc; omega
end My
namespace My
open PySem PySem.Spec L2 SX
open PyProof.Rows hiding St
open Lyn (sg rootN)
local macro_rules | `(tactic| walk_at "kb") => `(tactic| first | exact kb_str_str | exact kb_str_int | exact kb_str_bool | exact kb_str_list | exact kb_str_tuple | exact kb_int_str | exact kb_int_int | exact kb_int_bool | exact kb_int_list | exact kb_int_tuple | exact kb_bool_str | exact kb_bool_int | exact kb_bool_bool | exact kb_bool_list | exact kb_bool_tuple | exact kb_list_str | exact kb_list_int | exact kb_list_bool | exact kb_list_list | exact kb_list_tuple | exact kb_tuple_str | exact kb_tuple_int | exact kb_tuple_bool | exact kb_tuple_list | exact kb_tuple_tuple | exact kb_NoneType_str | exact kb_NoneType_int | exact kb_NoneType_bool | exact kb_NoneType_list | exact kb_NoneType_tuple)
local macro_rules | `(tactic| walk_at "hp") => `(tactic| first | assumption | exact upd_same | (refine (upd_ne (by first | assumption | (apply Ne.symm; assumption))).trans ?_; walk_at "hp"))
local macro_rules | `(tactic| walk_at "sq") => `(tactic| first | assumption | exact SqL.of (by walk_at "hp"))
local macro_rules | `(tactic| walk_at "sqt") => `(tactic| first | assumption | exact SqT.of (by walk_at "hp"))
local macro_rules | `(tactic| walk_at "ar") => `(tactic| first | omega | (dsimp only; omega) | (unfold CMul; omega) | (unfold CDiv; omega) | (unfold CPow; refine ⟨?_, ?_, ?_⟩ <;> decide) | (simp only [List.length_cons, List.length_nil]; decide))
local macro_rules | `(tactic| walk_at "rd") => `(tactic| first
  | with_reducible refine rd_seq ?_
  | with_reducible refine rd_asg ?_
  | with_reducible refine rd_if ?_
  | with_reducible refine rd_ret ?_
  | with_reducible refine rd_drop ?_
  | with_reducible refine rd_name ?_
  | with_reducible refine rd_sub ?_
  | ((with_reducible refine' rd_var ?e ?_); (case e => exact rfl))
  | with_reducible refine rd_c ?_
  | with_reducible refine rd_op ?_
  | with_reducible refine rd_un ?_
  | with_reducible refine rd_I0 ?_
  | ((with_reducible refine' rd_I ?c ?_); (case c => walk_at "ar"))
  | with_reducible refine rd_U ?_
  | with_reducible refine rd_eqI ?_
  | with_reducible refine rd_neI ?_
  | with_reducible refine rd_eqS ?_
  | with_reducible refine rd_neS ?_
  | with_reducible refine rd_eqB ?_
  | with_reducible refine rd_neB ?_
  | with_reducible refine rd_test ?_
  | with_reducible refine rd_B ?_
  | with_reducible refine rd_and ?_
  | with_reducible refine rd_or ?_
  | with_reducible refine rd_not ?_
  | with_reducible refine rd_andV ?_
  | with_reducible refine rd_orV ?_
  | with_reducible refine rd_notV ?_
  | with_reducible refine rd_ifE ?_
  | with_reducible refine rd_isN ?_
  | with_reducible refine rd_notN ?_
  | with_reducible refine rd_cons ?_
  | with_reducible refine rd_nil ?_
  | with_reducible refine rd_lst ?_
  | with_reducible refine rd_tup ?_
  | with_reducible refine rd_CB ?_
  | with_reducible refine rd_call ?_
  | with_reducible refine rd_sl ?_
  | with_reducible refine rd_part ?_
  | with_reducible refine rd_nopart ?_
  | with_reducible refine rd_par ?_
  | with_reducible refine rd_two ?_
  | with_reducible refine rd_next ?_
  | with_reducible refine rd_retN ?_
  | with_reducible refine rd_bool ?_
  | with_reducible refine rd_int ?_
  | with_reducible refine rd_intI ?_
  | with_reducible refine rd_intB ?_
  | with_reducible refine rd_ltS ?_
  | with_reducible refine rd_leS ?_
  | with_reducible refine rd_gtS ?_
  | with_reducible refine rd_geS ?_
  | with_reducible refine rd_inC ?_
  | with_reducible refine rd_notInC ?_
  | with_reducible refine rd_abs ?_
  | with_reducible refine rd_max2 ?_
  | with_reducible refine rd_min2 ?_
  | with_reducible refine rd_M1 ?_
  | with_reducible refine rd_isStr ?_
  | ((with_reducible refine' rd_len ?b ?_); (case b => (simp only [List.length_cons, List.length_nil]; decide)))
  | ((with_reducible refine' rd_listS ?b ?_); (case b => first | (simp only [List.length_take, List.length_cons, List.length_nil]; omega) | omega))
  | ((with_reducible refine' rd_isi ?ty ?h ?_); (case ty => first | exact ty_str | exact ty_int | exact ty_bl | exact ty_non | exact ty_lst (by walk_at "hp") | exact ty_tup (by walk_at "hp")); (case h => walk_at "kb"))
  | with_reducible refine rd_lc ?_
  | with_reducible refine rd_for ?_
  | with_reducible refine rd_iList ?_
  | with_reducible refine rd_iTup ?_
  | with_reducible refine rd_iRng1 ?_
  | with_reducible refine rd_iRng2 ?_
  | with_reducible refine rd_iRng3 ?_
  | with_reducible refine rd_iStr ?_
  | with_reducible refine rd_qIs ?_
  | with_reducible refine rd_whb ?_
  | ((with_reducible refine' rd_qIl ?sq ?_); (case sq => walk_at "sq"))
  | ((with_reducible refine' rd_qItu ?sq ?_); (case sq => walk_at "sqt"))
  | ((with_reducible refine' rd_qIr1 ?b1 ?b2 ?_); (case b1 => walk_at "ar"); (case b2 => walk_at "ar"))
  | ((with_reducible refine' rd_qIr2 ?b1 ?b2 ?b3 ?b4 ?_); (case b1 => walk_at "ar"); (case b2 => walk_at "ar"); (case b3 => walk_at "ar"); (case b4 => walk_at "ar"))
  | ((with_reducible refine' rd_qIr3 ?b1 ?b2 ?b3 ?b4 ?_); (case b1 => walk_at "ar"); (case b2 => walk_at "ar"); (case b3 => walk_at "ar"); (case b4 => walk_at "ar"))
  | ((with_reducible refine' rd_mulS ?b1 ?b2 ?b3 ?_); (case b1 => walk_at "ar"); (case b2 => walk_at "ar"); (case b3 => walk_at "ar"))
  | ((with_reducible refine' rd_slS_to ?b1 ?b2 ?_); (case b1 => walk_at "ar"); (case b2 => walk_at "ar"))
  | ((with_reducible refine' rd_slS_from ?b1 ?b2 ?_); (case b1 => walk_at "ar"); (case b2 => walk_at "ar"))
  | ((with_reducible refine' rd_slS_mid ?b1 ?b2 ?b3 ?b4 ?_); (case b1 => walk_at "ar"); (case b2 => walk_at "ar"); (case b3 => walk_at "ar"); (case b4 => walk_at "ar"))
  | ((with_reducible refine' rd_slL ?sq ?_); (case sq => walk_at "sq"))
  | with_reducible refine rd_true ?_
  | with_reducible refine rd_false ?_
  | with_reducible refine rd_nt ?_
  | with_reducible refine rd_nf ?_
  | ((with_reducible refine' rd_decT ?h ?_); (case h => omega))
  | ((with_reducible refine' rd_decF ?h ?_); (case h => omega))
  | ((with_reducible refine' rd_ndecT ?h ?_); (case h => omega))
  | ((with_reducible refine' rd_ndecF ?h ?_); (case h => omega))
  | ((with_reducible refine' rd_evT ?h ?_); (case h => first | exact rfl | (simp; done)))
  | ((with_reducible refine' rd_evF ?h ?_); (case h => first | exact rfl | (simp; done)))
  | ((with_reducible refine' rd_ixL ?sq ?a1 ?_); (case sq => walk_at "sq"); (case a1 => first | exact rfl | exact at_of (by omega) (by assumption)))
  | ((with_reducible refine' rd_ixT ?sq ?a1 ?_); (case sq => walk_at "sqt"); (case a1 => first | exact rfl | exact at_of (by omega) (by assumption)))
  | ((with_reducible refine' rd_lenL ?sq ?_); (case sq => walk_at "sq"))
  | ((with_reducible refine' rd_lenT ?sq ?_); (case sq => walk_at "sqt"))
  | ((with_reducible refine' rd_setL ?h ?j ?_); (case h => walk_at "hp"); (case j => exact rfl); (with_reducible refine id ?_))
  | ((with_reducible refine' rd_strlen ?l ?_); (case l => walk_at "ar"))
  | ((with_reducible refine' rd_cat ?l ?_); (case l => walk_at "ar")))
local macro_rules | `(tactic| walk_at "go") => `(tactic| ((try dsimp only); (repeat (walk_at "rd"))))
local macro_rules | `(tactic| walk_at "rd") => `(tactic| first
  | with_reducible refine rd_lstRg ?_
  | with_reducible refine rd_tRg1 ?_
  | with_reducible refine rd_tRg2 ?_
  | with_reducible refine rd_rg1 ?_
  | with_reducible refine rd_rg2 ?_
  | ((with_reducible refine' rd_qRg ?b ?_); (case b => refine ⟨?_, ?_, ?_, ?_⟩ <;> omega))
  | with_reducible refine rd_sortSet ?_
  | with_reducible refine rd_tDGet ?_
  | with_reducible refine rd_sDPut ?_
  | with_reducible refine rd_dnew ?_
  | with_reducible refine rd_iZipS ?_
  | with_reducible refine rd_zipS ?_
  | ((with_reducible refine' rd_inI ?sq ?_); (case sq => walk_at "sq"))
  | ((with_reducible refine' rd_notInI ?sq ?_); (case sq => walk_at "sq"))
  | with_reducible refine rd_chain ?_)

section
variable {P : Program} {w : World} {K : PySem.W.Frag} {mg : Str → Option Value} {base : Heap}
theorem found_len {k m : Nat} {w : List Nat} (h : w ∈ foundW k m) : w.length ≤ m := by
  unfold foundW at h
  obtain ⟨t, ht, hw⟩ := List.mem_flatMap.mp h
  have := ends_word t w hw
  have := List.mem_range.mp ht
  omega
theorem ok_law {f : Addr} {fd : FuncData} (F : Fun K "law" "law" s_law f fd) (T : Txt K mg) (C__law_hand : Cal P w K mg base 1 "_law_hand" (sp__law_hand K)) (C_many_roots : Cal P w K mg base 9 "many_roots" (sp_many_roots K)) (C_many_turns : Cal P w K mg base 9 "many_turns" (sp_many_turns K)) (C__law_draw : Cal P w K mg base 1 "_law_draw" (sp__law_draw K)) (C__law_words : Cal P w K mg base 1 "_law_words" (sp__law_words K)) (C__law_is_power : Cal P w K mg base 1 "_law_is_power" (sp__law_is_power K)) (C__law_is : Cal P w K mg base 2 "_law_is" (sp__law_is K)) (C__law_turns : Cal P w K mg base 1 "_law_turns" (sp__law_turns K)) (C__law_word : Cal P w K mg base 3 "_law_word" (sp__law_word K)) (C_overlap : Cal P w K mg base 3 "overlap" (sp_overlap K)) (C_turns_of : Cal P w K mg base 3 "turns_of" (sp_turns_of K)) (C_root_of : Cal P w K mg base 5 "root_of" (sp_root_of K)) : FnOk P w K mg base CX0 10 f fd ["script"] (sp_law K) := by
  refine F.ok sc_law (fun vs H Q E h => by repeat (first | (obtain ⟨rfl, _⟩ := h; rfl) | obtain ⟨_, h⟩ := h)) (fun cdv A outer s H vs Q E hr h => ?_)
  refine ⟨_, (pss_cons (ps_set (i := 1) sc_law.nd rfl (Or.inl rfl) (pe_c C__law_hand hr (by decide) rfl (pa_cons (pv 0) pa_nil)))
  (pss_cons (ps_if (PW.pt (pw_or (pt_cmpR op_ne (pe_c C_many_roots hr (by decide) rfl (pa_cons pe_int (pa_cons pe_int pa_nil))) pe_int (nomark _)) (pw_or (pt_cmpR op_ne (pe_c C_many_turns hr (by decide) rfl (pa_cons pe_int (pa_cons pe_int pa_nil))) pe_int (nomark _)) (pw_or (pt_cmpR op_ne (pe_c C_many_turns hr (by decide) rfl (pa_cons pe_int (pa_cons pe_int pa_nil))) pe_int (nomark _)) (pw_or1 (pt_cmpR op_ne (pe_c C_many_roots hr (by decide) rfl (pa_cons pe_int (pa_cons pe_int pa_nil))) pe_int (nomark _))))))) (pss_one (ps_ret pe_bl)) pss_nil)
  (pss_cons (ps_asg (pe_tup (pa_cons (pe_op op_add pe_int (pe_c C__law_draw hr (by decide) rfl (pa_cons (pv 1) (pa_cons pe_int pa_nil)))) (pa_cons (pe_op op_add pe_int (pe_c C__law_draw hr (by decide) rfl (pa_cons (pv 1) (pa_cons pe_int pa_nil)))) pa_nil))) (pg_two (i := 2) (j := 3) K rfl rfl sc_law.nd rfl (Or.inr rfl) rfl (Or.inr rfl)))
  (pss_cons (ps_setLc (i := 4) (own := [("word", 12)]) rfl sc_law.nd rfl rfl (sw_true rfl rfl rfl (by decide +kernel)) (pi_list (pe_c C__law_words hr (by decide) rfl (pa_cons (pv 2) (pa_cons (pv 3) pa_nil)))) (blkOk_by (N := N_law) (sc := defScope s_law) (by decide +kernel)) (fun _ _ _ _ _ => (pg_name (i := 12) sc_law.nd rfl (Or.inl rfl))) (fun _ _ _ _ _ => (pts_one (pt_cmpR op_eq (pe_callB cq_lenS rfl T.n_len boot_len (pa_cons (pv 12) pa_nil)) (pv 3) (nomark _)))) (fun _ _ _ _ _ => (pv 12)))
  (pss_cons (ps_if (pt_not (pt_val (pe_c C__law_is hr (by decide) rfl (pa_cons (pe_c C_many_roots hr (by decide) rfl (pa_cons (pv 2) (pa_cons (pv 3) pa_nil))) (pa_cons (pe_callB cq_len rfl T.n_len boot_len (pa_cons (pe_lc (own := [("word", 12)]) rfl sc_law.nd (pi_list (pv 4)) (blkOk_by (N := N_law) (sc := defScope s_law) (by decide +kernel)) (fun _ _ _ _ _ => (pg_name (i := 12) sc_law.nd rfl (Or.inl rfl))) (fun _ _ _ _ _ => (pts_one (pt_not (pt_val (pe_c C__law_is_power hr (by decide) rfl (pa_cons (pv 12) pa_nil)))))) (fun _ _ _ _ _ => (pv 12))) pa_nil)) pa_nil))))) (pss_one (ps_ret pe_bl)) pss_nil)
  (pss_cons (ps_if (pt_not (pt_val (pe_c C__law_is hr (by decide) rfl (pa_cons (pe_c C_many_turns hr (by decide) rfl (pa_cons (pv 2) (pa_cons (pv 3) pa_nil))) (pa_cons (pe_callB cq_len rfl T.n_len boot_len (pa_cons (pe_lc (own := [("word", 12)]) rfl sc_law.nd (pi_list (pv 4)) (blkOk_by (N := N_law) (sc := defScope s_law) (by decide +kernel)) (fun _ _ _ _ _ => (pg_name (i := 12) sc_law.nd rfl (Or.inl rfl))) (fun _ _ _ _ _ => (pts_one (pt_cmpR op_eq (pe_ix (ix_listK K rfl) (pe_c C__law_turns hr (by decide) rfl (pa_cons (pv 12) pa_nil)) pe_int (fun _ _ => rfl)) (pv 12) (nomark _)))) (fun _ _ _ _ _ => (pv 12))) pa_nil)) pa_nil))))) (pss_one (ps_ret pe_bl)) pss_nil)
  (pss_cons (ps_set (i := 5) sc_law.nd rfl (Or.inr rfl) (pe_op op_add pe_int (pe_c C__law_draw hr (by decide) rfl (pa_cons (pv 1) (pa_cons pe_int pa_nil)))))
  (pss_cons (ps_setLc (i := 6) (own := [("part", 13)]) rfl sc_law.nd rfl rfl (sw_true rfl rfl rfl (by decide +kernel)) (pi_range2 rfl T.n_range (pa_cons pe_int (pa_cons (pe_op op_add (pv 5) pe_int) pa_nil))) (blkOk_by (N := N_law) (sc := defScope s_law) (by decide +kernel)) (fun _ _ _ _ _ => (pg_name (i := 13) sc_law.nd rfl (Or.inl rfl))) (fun _ _ _ _ _ => (pts_one (pt_cmpR op_eq (pe_op op_mod (pe_callTy cq_int rfl T.n_int boot_int (pa_cons (pv 5) pa_nil)) (pv 13)) pe_int (nomark _)))) (fun _ _ _ _ _ => (pv 13)))
  (pss_cons (ps_set (i := 7) sc_law.nd rfl (Or.inl rfl) pe_int)
  (pss_cons (ps_for PassesOwn.never rfl (pi_range1 rfl T.n_range (pa_cons (pv 5) pa_nil)) (pg_name (i := 8) sc_law.nd rfl (Or.inl rfl))
  (pss_one (ps_set (i := 7) sc_law.nd rfl (Or.inl rfl) (pe_op op_mul (pv 7) (pv 2)))))
  (pss_cons (ps_if (pt_cmpR op_ne (pe_callB (cr_sum rfl) rfl T.n_sum boot_sum (pa_cons (pe_lc (own := [("part", 13)]) rfl sc_law.nd (pi_list (pv 6)) (blkOk_by (N := N_law) (sc := defScope s_law) (by decide +kernel)) (fun _ _ _ _ _ => (pg_name (i := 13) sc_law.nd rfl (Or.inl rfl))) (fun _ _ _ _ _ => pts_nil) (fun _ _ _ _ _ => (pe_c C_many_roots hr (by decide) rfl (pa_cons (pv 2) (pa_cons (pv 13) pa_nil))))) pa_nil)) (pv 7) (nomark _)) (pss_one (ps_ret pe_bl)) pss_nil)
  (pss_cons (ps_for PassesOwn.never rfl (pi_range1 rfl T.n_range (pa_cons pe_int pa_nil)) (pg_name (i := 8) sc_law.nd rfl (Or.inl rfl))
  (pss_cons (ps_asg (pe_tup (pa_cons (pe_c C__law_word hr (by decide) rfl (pa_cons (pv 1) (pa_cons pe_int (pa_cons pe_int pa_nil)))) (pa_cons (pe_c C__law_word hr (by decide) rfl (pa_cons (pv 1) (pa_cons pe_int (pa_cons pe_int pa_nil)))) pa_nil))) (pg_two (i := 9) (j := 10) K rfl rfl sc_law.nd rfl (Or.inr rfl) rfl (Or.inr rfl)))
  (pss_cons (ps_setLc (i := 11) (own := [("length", 3)]) rfl sc_law.nd rfl rfl (sw_true rfl rfl rfl (by decide +kernel)) (pi_range1 rfl T.n_range (pa_cons (pe_op op_add (pe_callB (cq_min2 rfl) rfl T.n_min boot_min (pa_cons (pe_callB cq_lenS rfl T.n_len boot_len (pa_cons (pv 9) pa_nil)) (pa_cons (pe_callB cq_lenS rfl T.n_len boot_len (pa_cons (pv 10) pa_nil)) pa_nil))) pe_int) pa_nil)) (blkOk_by (N := N_law) (sc := defScope s_law) (by decide +kernel)) (fun _ _ _ _ _ => (pg_name (i := 3) sc_law.nd rfl (Or.inl rfl))) (fun _ _ _ _ _ => (pts_one (pt_cmpR op_eq (pe_slice C8.sl_txt (pv 9) (po_some (pe_op op_sub (pe_callB cq_lenS rfl T.n_len boot_len (pa_cons (pv 9) pa_nil)) (pv 3))) po_none) (pe_slice C8.sl_txt (pv 10) po_none (po_some (pv 3))) (nomark _)))) (fun _ _ _ _ _ => (pv 3)))
  (pss_cons (ps_if (PW.pt (pw_or (pt_not (pt_val (pe_c C__law_is hr (by decide) rfl (pa_cons (pe_c C_overlap hr (by decide) rfl (pa_cons (pv 9) (pa_cons (pv 10) pa_nil))) (pa_cons (pe_slice C8.sl_txt (pv 10) po_none (po_some (pe_callB (cr_max rfl) rfl T.n_max boot_max (pa_cons (pv 11) pa_nil)))) pa_nil))))) (pw_or1 (pt_not (pt_val (pe_c C__law_is hr (by decide) rfl (pa_cons (pe_c C_turns_of hr (by decide) rfl (pa_cons (pv 9) pa_nil)) (pa_cons (pe_c C__law_turns hr (by decide) rfl (pa_cons (pv 9) pa_nil)) pa_nil)))))))) (pss_one (ps_ret pe_bl)) pss_nil)
  (pss_one (ps_if (PW.pt (pw_and (pt_cmpR op_ne (pv 9) (pe_strS [] rfl) (nomark _)) (pw_and1 (pt_cmpR op_ne (pe_callB cq_len rfl T.n_len boot_len (pa_cons (pe_c C_turns_of hr (by decide) rfl (pa_cons (pv 9) pa_nil)) pa_nil)) (pe_callB cq_lenS rfl T.n_len boot_len (pa_cons (pe_ix ix_tup (pe_c C_root_of hr (by decide) rfl (pa_cons (pv 9) pa_nil)) pe_int (fun _ _ => rfl)) pa_nil)) (nomark _))))) (pss_one (ps_ret pe_bl)) pss_nil))))))
  (pss_one (ps_ret pe_bl)))))))))))))), ?_⟩
  try dsimp only [cxOf, Cx.nox, Cx.wish]
  obtain ⟨a, ns, rfl, hs, k⟩ := h
  walk_at "go"
  refine ⟨a, ns, rfl, hs, fun hd c H1 HA s1 => ?_⟩
  walk_at "go"
  refine ⟨2, 6, rfl, by decide, by decide, fun H2 s2 => ?_⟩
  rw [e1]
  walk_at "go"
  refine ⟨2, 6, rfl, by decide, by decide, fun H3 s3 => ?_⟩
  rw [e2]
  walk_at "go"
  refine ⟨3, 4, rfl, by decide, by decide, fun H4 s4 => ?_⟩
  rw [e3]
  walk_at "go"
  refine ⟨1, 5, rfl, by decide, by decide, fun H5 s5 => ?_⟩
  rw [e4]
  have HA5 : HandAt H5 hd c := HandAt.keep HA (((s2.trans s3).trans s4).trans s5)
  walk_at "go"
  refine ⟨hd, c, 3, rfl, HA5, by decide, by decide, fun d H6 d0 d3 HA6 _ => ?_⟩
  walk_at "go"
  refine ⟨hd, c, 6, rfl, HA6, by decide, by decide, fun d' H7 d0' d3' HA7 _ => ?_⟩
  obtain ⟨k1, rfl⟩ := Int.eq_ofNat_of_zero_le d0
  obtain ⟨n1, rfl⟩ := Int.eq_ofNat_of_zero_le d0'
  obtain ⟨kk, hkk⟩ : ∃ kk, 1 + k1 = kk := ⟨_, rfl⟩
  obtain ⟨nn, hnn⟩ : ∃ nn, 1 + n1 = nn := ⟨_, rfl⟩
  have ik : (1 : Int) + (k1 : Int) = (kk : Int) := by omega
  have inn : (1 : Int) + (n1 : Int) = (nn : Int) := by omega
  have hk3 : 1 ≤ kk ∧ kk ≤ 3 := by omega
  have hn6 : 1 ≤ nn ∧ nn ≤ 6 := by omega
  have ck := List.all_eq_true.mp (List.all_eq_true.mp chk1_all k1 (List.mem_range.mpr (by omega))) n1 (List.mem_range.mpr (by omega))
  rw [show k1 + 1 = kk by omega, show n1 + 1 = nn by omega] at ck
  unfold chk1 at ck
  rw [Bool.and_eq_true, decide_eq_true_eq, decide_eq_true_eq] at ck
  rw [ik]
  walk_at "go"
  intro T0 nT0
  rw [inn]
  refine rd_g2 (SqT.of upd_same) ?_
  have HA7b := HA7.new (o := HO.tup [V.int (kk : Int), V.int (nn : Int)]) nT0
  walk_at "go"
  refine ⟨kk, nn, rfl, by omega, by omega, fun p8 H8 np8 s8 h8 => ?_⟩
  have HA8 := HandAt.keep HA7b s8
  have hfl := foundW_len hk3.2 nn hn6.2
  walk_at "go"
  refine lcL (foundW kk nn) (fun w => V.str (S w)) (SqL.of h8) (fun w => decide (w.length = nn)) (fun w => V.str (S w)) (by omega) (fun _ => rfl) (fun y hy H9 s9 Q1 q1 => ?_) (fun y hy _ H9 s9 Q1 q1 => ?_) (fun D H9 nD s9 hD => ?_)
  · have hyl := found_len hy
    walk_at "go"
    rw [show decide ((y.length : Int) = (nn : Int)) = decide (y.length = nn) from decide_eq_decide.mpr (by omega)]
    exact q1 _ (Same.refl _)
  · walk_at "go"
    exact q1 _ (Same.refl _)
  have hD2 : H9 D = some (.lst ((wordsB kk nn).map fun w => V.str (S w))) := hD
  have hwb : ∀ w ∈ wordsB kk nn, w.length = nn := fun w hw => of_decide_eq_true (List.mem_filter.mp hw).2
  have hwl : (wordsB kk nn).length ≤ 6000 := by
    have := List.length_filter_le (fun w : List Nat => decide (w.length = nn)) (foundW kk nn)
    unfold wordsB
    omega
  have HA9 := HandAt.keep HA8 s9
  walk_at "go"
  refine ⟨kk, nn, rfl, by omega, by omega, fun H10 s10 => ?_⟩
  have HA10 := HandAt.keep HA9 s10
  walk_at "go"
  refine rd_qIl (SqL.of (s10 _ _ hD2)) ?_
  refine lcL (wordsB kk nn) (fun w => V.str (S w)) (SqL.of (s10 _ _ hD2)) (fun w => !isPow w) (fun w => V.str (S w)) (by omega) (fun _ => rfl) (fun y hy H11 s11 Q1 q1 => ?_) (fun y hy _ H11 s11 Q1 q1 => ?_) (fun D2 H11 nD2 s11 hD3 => ?_)
  · have hyl := hwb y hy
    walk_at "go"
    refine ⟨y, rfl, by omega, fun H12 s12 => ?_⟩
    walk_at "go"
    exact q1 _ s12
  · walk_at "go"
    exact q1 _ (Same.refl _)
  have HA11 := HandAt.keep HA10 s11
  walk_at "go"
  rw [List.length_map, ← ck.1]
  refine ⟨_, _, rfl, .inl ⟨rfl, .inl ⟨_, rfl⟩⟩, fun H12 s12 => ?_⟩
  have HA12 := HandAt.keep HA11 s12
  walk_at "go"
  refine ⟨kk, nn, rfl, by omega, by omega, fun H13 s13 => ?_⟩
  have HA13 := HandAt.keep HA12 s13
  have hD13 := s13 _ _ (s12 _ _ (s11 _ _ (s10 _ _ hD2)))
  walk_at "go"
  refine lcL (wordsB kk nn) (fun w => V.str (S w)) (SqL.of hD13) leastB (fun w => V.str (S w)) (by omega) (fun _ => rfl) (fun y hy H14 s14 Q1 q1 => ?_) (fun y hy _ H14 s14 Q1 q1 => ?_) (fun D4 H14 nD4 s14 hD4 => ?_)
  · have hyl := hwb y hy
    walk_at "go"
    refine ⟨y, rfl, by omega, fun p us H15 np s15 ht => ?_⟩
    obtain ⟨t1, t2, t3⟩ := ht
    walk_at "go"
    cases us with
    | nil => exact absurd ((t3 y).mpr (self_turn y)) List.not_mem_nil
    | cons u us =>
      refine rd_ixL (SqL.of t1) (v := .str (S u)) (atI_nat (j := 0) rfl) ?_
      walk_at "go"
      rw [head_least t2 t3]
      exact q1 _ s15
  · walk_at "go"
    exact q1 _ (Same.refl _)
  have HA14 := HandAt.keep HA13 s14
  walk_at "go"
  rw [List.length_map, ← ck.2]
  refine ⟨_, _, rfl, .inl ⟨rfl, .inl ⟨_, rfl⟩⟩, fun H15 s15 => ?_⟩
  have HA15 := HandAt.keep HA14 s15
  walk_at "go"
  refine ⟨hd, c, 60, rfl, HA15, by decide, by decide, fun g0 H16 g1 g2 HA16 _ => ?_⟩
  obtain ⟨g0, rfl⟩ := Int.eq_ofNat_of_zero_le g1
  obtain ⟨gr, hgr⟩ : ∃ gr, 1 + g0 = gr := ⟨_, rfl⟩
  have ig : (1 : Int) + (g0 : Int) = (gr : Int) := by omega
  have hg60 : 1 ≤ gr ∧ gr ≤ 60 := by omega
  refine rd_I0 ?_
  rw [ig]
  have ck2 := List.all_eq_true.mp (List.all_eq_true.mp chk2_all k1 (List.mem_range.mpr (by omega))) g0 (List.mem_range.mpr (by omega))
  rw [show k1 + 1 = kk by omega, show g0 + 1 = gr by omega] at ck2
  unfold chk2 at ck2
  rw [decide_eq_true_eq] at ck2
  walk_at "go"
  have en : ((gr : Int) + 1 - 1).toNat = gr := by omega
  rw [en]
  refine lcR (fun i => decide (gr % (1 + i) = 0)) (fun i => .int (1 + (i : Int))) (by omega) (fun _ => rfl) (fun i hi H17 s17 Q1 q1 => ?_) (fun i hi _ H17 s17 Q1 q1 => ?_) (fun D5 H17 nD5 s17 hD5 => ?_)
  · walk_at "go"
    have e : ((gr : Int) % (1 + (i : Int))) = ((gr % (1 + i) : Nat) : Int) := by rw [Int.natCast_emod, Int.natCast_add]; rfl
    rw [e, show decide (((gr % (1 + i) : Nat) : Int) = 0) = decide (gr % (1 + i) = 0) from decide_eq_decide.mpr (zero_iff _)]
    exact q1 _ (Same.refl _)
  · walk_at "go"
    exact q1 _ (Same.refl _)
  have hD6 : H17 D5 = some (.lst ((divs gr).map fun d : Nat => V.int (d : Int))) := by
    rw [hD5, ← divs_range hg60.1, List.map_map]
    congr 2
  have HA17 := HandAt.keep HA16 s17
  walk_at "go"
  refine forR (fun t σ' H' => ∃ v, σ' = [some (.ref a), some (.ref hd), some (.int (kk : Int)), some (.int (nn : Int)), some (.ref D), some (.int (gr : Int)), some (.ref D5), some (.int ((kk ^ t : Nat) : Int)), v, none, none, none, none, none] ∧ H' = H17) ⟨_, by rw [Nat.pow_zero]; rfl, rfl⟩ ?_ ?_
  · rintro t σ1 H18 ht ⟨v, rfl, rfl⟩
    walk_at "go"
    refine ⟨some (V.int (0 + (t : Int))), ?_, rfl⟩
    rw [Nat.pow_succ, Int.natCast_mul]
    rfl
  rintro σ1 H18 ⟨v, rfl, rfl⟩
  have eg : ((gr : Int)).toNat = gr := by omega
  rw [eg]
  have hdl := divs_len (n := gr)
  walk_at "go"
  refine lcL (divs gr) (fun d : Nat => V.int (d : Int)) (SqL.of hD6) (fun _ => true) (fun d => .int (rcF 6 kk d)) (by omega) (fun _ => rfl) (fun _ _ => pt_yes) (fun y hy _ H19 s19 Q1 q1 => ?_) (fun D7 H19 nD7 s19 hD7 => ?_)
  · have hd2 := divs_mem hg60.1 hy
    walk_at "go"
    exact ⟨kk, y, rfl, by omega, by omega, fun H20 s20 => q1 _ s20⟩
  rw [filter_yes] at hD7
  have HA19 := HandAt.keep HA17 s19
  walk_at "go"
  refine ⟨D7, (divs gr).map fun d => rcF 6 kk d, rfl, SqL.of (by rw [hD7, List.map_map]; rfl), ?_⟩
  rw [ck2]
  walk_at "go"
  refine forR (fun i σ' H' => ∃ v2 v3 v4 v5 v6 v7 v8 v9 v10 v11 v12 v13, σ' = [some (.ref a), some (.ref hd), v2, v3, v4, v5, v6, v7, v8, v9, v10, v11, v12, v13] ∧ HandAt H' hd c) ⟨_, _, _, _, _, _, _, _, _, _, _, _, rfl, HA19⟩ ?_ ?_
  · rintro i σ1 H20 hi ⟨v2, v3, v4, v5, v6, v7, v8, v9, v10, v11, v12, v13, rfl, HA20⟩
    walk_at "go"
    refine ⟨hd, c, 2, 7, rfl, HA20, by decide, by decide, by decide, by decide, fun x H21 hx hxl HA21 _ => ?_⟩
    walk_at "go"
    refine ⟨hd, c, 2, 7, rfl, HA21, by decide, by decide, by decide, by decide, fun y H22 hy hyl HA22 _ => ?_⟩
    walk_at "go"
    intro T1 nT1
    refine rd_g2 (SqT.of upd_same) ?_
    have HA23 := HA22.new (o := HO.tup [V.str (S x), V.str (S y)]) nT1
    have wx : Wd 4 x := wd_mono hx (by decide)
    have wy : Wd 4 y := wd_mono hy (by decide)
    have em : (if (y.length : Int) < (x.length : Int) then (y.length : Int) else (x.length : Int)) = ((min x.length y.length : Nat) : Int) := by
      split <;> omega
    walk_at "go"
    rw [em]
    obtain ⟨m, hm⟩ : ∃ m, min x.length y.length = m := ⟨_, rfl⟩
    rw [hm]
    have enm : (((m : Nat) : Int) + 1).toNat = m + 1 := by omega
    rw [enm]
    refine lcR (fun i => ovC x y i) (fun i => .int (0 + (i : Int))) (by omega) (fun _ => rfl) (fun i hi H24 s24 Q1 q1 => ?_) (fun i hi _ H24 s24 Q1 q1 => ?_) (fun D8 H24 nD8 s24 hD8 => ?_)
    · walk_at "go"
      have e5 : ((x.length : Int) - (0 + (i : Int))).toNat = x.length - i := by omega
      have e6 : (0 + (i : Int)).toNat = i := by omega
      rw [e5, e6]
      exact q1 _ (Same.refl _)
    · walk_at "go"
      exact q1 _ (Same.refl _)
    have HA24 := HandAt.keep HA23 s24
    walk_at "go"
    refine ⟨x, y, rfl, wx, wy, by omega, by omega, fun H25 s25 => ?_⟩
    have HA25 := HandAt.keep HA24 s25
    walk_at "go"
    refine rd_max (ns := (((List.range (m + 1)).filter fun i => ovC x y i).map fun i : Nat => (0 + (i : Int)))) (m := ((ovF x y m : Nat) : Int)) (SqL.of (by rw [s25 _ _ hD8, List.map_map]; rfl)) ?_ ?_ ?_
    · refine List.mem_map.mpr ⟨ovF x y m, List.mem_filter.mpr ⟨List.mem_range.mpr (by have := ovF_le x y m; omega), ?_⟩, by omega⟩
      rcases ovF_spec x y m with z | z
      · exact z
      · rw [z]; exact ovC_zero x y
    · intro z hz
      obtain ⟨i2, hi2, rfl⟩ := List.mem_map.mp hz
      rw [List.mem_filter, List.mem_range] at hi2
      have := ovF_max x y m i2 (by omega) hi2.2
      omega
    walk_at "go"
    rw [Int.toNat_natCast, hm]
    refine ⟨_, _, rfl, .inl ⟨rfl, .inr (.inr (.inl ⟨_, rfl⟩))⟩, fun H26 s26 => ?_⟩
    have HA26 := HandAt.keep HA25 s26
    walk_at "go"
    refine ⟨x, rfl, wx, by omega, fun p9 us9 H27 np9 s27 t9 => ?_⟩
    walk_at "go"
    refine ⟨x, rfl, by omega, fun p10 us10 H28 np10 s28 t10 => ?_⟩
    have HA28 := HandAt.keep (HandAt.keep HA26 s27) s28
    obtain ⟨a1, a2, a3⟩ := t9
    obtain ⟨b1, b2, b3⟩ := t10
    obtain rfl := sortedL_eq us9 us10 a2 b2 fun u => (a3 u).trans (b3 u).symm
    have hcount := turns_count a2 a3
    have hlen9 : us9.length ≤ 1000 := by
      rw [hcount]
      have := SetS.insAll_len ((turnsW x).map S)
      rw [List.length_map, turns_len] at this
      omega
    walk_at "go"
    refine ⟨_, _, rfl, .inr ⟨p9, p10, txts us9, rfl, rfl, fun z hz => ?_, by unfold txts; rw [List.length_map]; omega, .inl ⟨s28 _ _ a1, b1⟩⟩, fun H29 s29 => ?_⟩
    · obtain ⟨w, _, rfl⟩ := List.mem_map.mp hz
      exact .inr (.inr (.inl ⟨w, rfl⟩))
    have HA29 := HandAt.keep HA28 s29
    walk_at "go"
    refine rd_ndec (fun ex => ?_) (fun ex => ?_)
    · walk_at "go"
      refine ⟨x, rfl, wx, by omega, fun p11 us11 H30 np11 s30 t11 => ?_⟩
      obtain ⟨c1, c2, c3⟩ := t11
      have hc11 := turns_count c2 c3
      walk_at "go"
      refine ⟨x, rfl, wx, by omega, ex, fun p12 H31 np12 s31 h12 => ?_⟩
      have HA31 := HandAt.keep (HandAt.keep HA29 s30) s31
      walk_at "go"
      refine rd_strlen (by rw [List.length_take]; omega) ?_
      have hxp : 0 < x.length := List.length_pos_iff.mpr ex
      have hroot := (PerW.rootN_facts hxp).2.1
      have h3 := List.all_eq_true.mp chk3_all x (wd_upto hx hxl)
      unfold chk3 at h3
      rw [show x.isEmpty = false by cases x <;> simp_all, Bool.false_or, decide_eq_true_eq] at h3
      have hfin : (txts us11).length = (x.take (rootN x)).length := by
        unfold txts
        rw [List.length_map, hc11, h3, List.length_take]
        omega
      rw [hfin]
      walk_at "go"
      exact ⟨_, _, _, _, _, _, _, _, _, _, _, _, rfl, HA31⟩
    · walk_at "go"
      exact ⟨_, _, _, _, _, _, _, _, _, _, _, _, rfl, HA29⟩
  · rintro σ1 H20 ⟨v2, v3, v4, v5, v6, v7, v8, v9, v10, v11, v12, v13, rfl, HA20⟩
    walk_at "go"
    exact k _
end
end My
namespace My
open PySem PySem.Spec L2 SX
open PyProof.Rows hiding St
theorem all_mk {l : PySem.W.OpenLaw} {w : World} {K : PySem.W.Frag} {h : Heap} {mg : Str → Option Value} {fa : Addr} (X : K.In h) (G : h.Ns mainGlobals mg) (hfa : mg "law" = some (.ref fa))
    {f0 : Addr} {od0 an0 : Option Addr} {sl0 : Array (Option Value)} {oc0 kV0 dc0 pm0 cd0 ct0 : Value}
    (a0 : PySem.W.nsIn K mainGlobals "is_number" = some (some (.ref f0))) (l0 : K.lookup f0 = some ⟨oc0, od0, .func (PySem.W.fnOf "is_number" "is_number" (defArgs s_is_number) (defBody s_is_number) (defScope s_is_number) .none kV0 dc0 pm0 an0 cd0 ct0), sl0⟩) (c0 : PySem.W.codeIn K cd0 "is_number" = true) (k0 : PySem.W.keepIn K (.ref f0) = true)
    {f1 : Addr} {od1 an1 : Option Addr} {sl1 : Array (Option Value)} {oc1 kV1 dc1 pm1 cd1 ct1 : Value}
    (a1 : PySem.W.nsIn K mainGlobals "check_word" = some (some (.ref f1))) (l1 : K.lookup f1 = some ⟨oc1, od1, .func (PySem.W.fnOf "check_word" "check_word" (defArgs s_check_word) (defBody s_check_word) (defScope s_check_word) .none kV1 dc1 pm1 an1 cd1 ct1), sl1⟩) (c1 : PySem.W.codeIn K cd1 "check_word" = true) (k1 : PySem.W.keepIn K (.ref f1) = true)
    {f2 : Addr} {od2 an2 : Option Addr} {sl2 : Array (Option Value)} {oc2 kV2 dc2 pm2 cd2 ct2 : Value}
    (a2 : PySem.W.nsIn K mainGlobals "border_lengths" = some (some (.ref f2))) (l2 : K.lookup f2 = some ⟨oc2, od2, .func (PySem.W.fnOf "border_lengths" "border_lengths" (defArgs s_border_lengths) (defBody s_border_lengths) (defScope s_border_lengths) .none kV2 dc2 pm2 an2 cd2 ct2), sl2⟩) (c2 : PySem.W.codeIn K cd2 "border_lengths" = true) (k2 : PySem.W.keepIn K (.ref f2) = true)
    {f3 : Addr} {od3 an3 : Option Addr} {sl3 : Array (Option Value)} {oc3 kV3 dc3 pm3 cd3 ct3 : Value}
    (a3 : PySem.W.nsIn K mainGlobals "divisors" = some (some (.ref f3))) (l3 : K.lookup f3 = some ⟨oc3, od3, .func (PySem.W.fnOf "divisors" "divisors" (defArgs s_divisors) (defBody s_divisors) (defScope s_divisors) .none kV3 dc3 pm3 an3 cd3 ct3), sl3⟩) (c3 : PySem.W.codeIn K cd3 "divisors" = true) (k3 : PySem.W.keepIn K (.ref f3) = true)
    {f4 : Addr} {od4 an4 : Option Addr} {sl4 : Array (Option Value)} {oc4 kV4 dc4 pm4 cd4 ct4 : Value}
    (a4 : PySem.W.nsIn K mainGlobals "raised" = some (some (.ref f4))) (l4 : K.lookup f4 = some ⟨oc4, od4, .func (PySem.W.fnOf "raised" "raised" (defArgs s_raised) (defBody s_raised) (defScope s_raised) .none kV4 dc4 pm4 an4 cd4 ct4), sl4⟩) (c4 : PySem.W.codeIn K cd4 "raised" = true) (k4 : PySem.W.keepIn K (.ref f4) = true)
    {f5 : Addr} {od5 an5 : Option Addr} {sl5 : Array (Option Value)} {oc5 kV5 dc5 pm5 cd5 ct5 : Value}
    (a5 : PySem.W.nsIn K mainGlobals "_law_hand" = some (some (.ref f5))) (l5 : K.lookup f5 = some ⟨oc5, od5, .func (PySem.W.fnOf "_law_hand" "_law_hand" (defArgs s__law_hand) (defBody s__law_hand) (defScope s__law_hand) .none kV5 dc5 pm5 an5 cd5 ct5), sl5⟩) (c5 : PySem.W.codeIn K cd5 "_law_hand" = true) (k5 : PySem.W.keepIn K (.ref f5) = true)
    {f6 : Addr} {od6 an6 : Option Addr} {sl6 : Array (Option Value)} {oc6 kV6 dc6 pm6 cd6 ct6 : Value}
    (a6 : PySem.W.nsIn K mainGlobals "_law_draw" = some (some (.ref f6))) (l6 : K.lookup f6 = some ⟨oc6, od6, .func (PySem.W.fnOf "_law_draw" "_law_draw" (defArgs s__law_draw) (defBody s__law_draw) (defScope s__law_draw) .none kV6 dc6 pm6 an6 cd6 ct6), sl6⟩) (c6 : PySem.W.codeIn K cd6 "_law_draw" = true) (k6 : PySem.W.keepIn K (.ref f6) = true)
    {f7 : Addr} {od7 an7 : Option Addr} {sl7 : Array (Option Value)} {oc7 kV7 dc7 pm7 cd7 ct7 : Value}
    (a7 : PySem.W.nsIn K mainGlobals "_law_words" = some (some (.ref f7))) (l7 : K.lookup f7 = some ⟨oc7, od7, .func (PySem.W.fnOf "_law_words" "_law_words" (defArgs s__law_words) (defBody s__law_words) (defScope s__law_words) .none kV7 dc7 pm7 an7 cd7 ct7), sl7⟩) (c7 : PySem.W.codeIn K cd7 "_law_words" = true) (k7 : PySem.W.keepIn K (.ref f7) = true)
    {f8 : Addr} {od8 an8 : Option Addr} {sl8 : Array (Option Value)} {oc8 kV8 dc8 pm8 cd8 ct8 : Value}
    (a8 : PySem.W.nsIn K mainGlobals "_law_is_power" = some (some (.ref f8))) (l8 : K.lookup f8 = some ⟨oc8, od8, .func (PySem.W.fnOf "_law_is_power" "_law_is_power" (defArgs s__law_is_power) (defBody s__law_is_power) (defScope s__law_is_power) .none kV8 dc8 pm8 an8 cd8 ct8), sl8⟩) (c8 : PySem.W.codeIn K cd8 "_law_is_power" = true) (k8 : PySem.W.keepIn K (.ref f8) = true)
    {f9 : Addr} {od9 an9 : Option Addr} {sl9 : Array (Option Value)} {oc9 kV9 dc9 pm9 cd9 ct9 : Value}
    (a9 : PySem.W.nsIn K mainGlobals "_law_turns" = some (some (.ref f9))) (l9 : K.lookup f9 = some ⟨oc9, od9, .func (PySem.W.fnOf "_law_turns" "_law_turns" (defArgs s__law_turns) (defBody s__law_turns) (defScope s__law_turns) .none kV9 dc9 pm9 an9 cd9 ct9), sl9⟩) (c9 : PySem.W.codeIn K cd9 "_law_turns" = true) (k9 : PySem.W.keepIn K (.ref f9) = true)
    {f10 : Addr} {od10 an10 : Option Addr} {sl10 : Array (Option Value)} {oc10 kV10 dc10 pm10 cd10 ct10 : Value}
    (a10 : PySem.W.nsIn K mainGlobals "_law_is" = some (some (.ref f10))) (l10 : K.lookup f10 = some ⟨oc10, od10, .func (PySem.W.fnOf "_law_is" "_law_is" (defArgs s__law_is) (defBody s__law_is) (defScope s__law_is) .none kV10 dc10 pm10 an10 cd10 ct10), sl10⟩) (c10 : PySem.W.codeIn K cd10 "_law_is" = true) (k10 : PySem.W.keepIn K (.ref f10) = true)
    {f11 : Addr} {od11 an11 : Option Addr} {sl11 : Array (Option Value)} {oc11 kV11 dc11 pm11 cd11 ct11 : Value}
    (a11 : PySem.W.nsIn K mainGlobals "check_letters" = some (some (.ref f11))) (l11 : K.lookup f11 = some ⟨oc11, od11, .func (PySem.W.fnOf "check_letters" "check_letters" (defArgs s_check_letters) (defBody s_check_letters) (defScope s_check_letters) .none kV11 dc11 pm11 an11 cd11 ct11), sl11⟩) (c11 : PySem.W.codeIn K cd11 "check_letters" = true) (k11 : PySem.W.keepIn K (.ref f11) = true)
    {f12 : Addr} {od12 an12 : Option Addr} {sl12 : Array (Option Value)} {oc12 kV12 dc12 pm12 cd12 ct12 : Value}
    (a12 : PySem.W.nsIn K mainGlobals "roots_count" = some (some (.ref f12))) (l12 : K.lookup f12 = some ⟨oc12, od12, .func (PySem.W.fnOf "roots_count" "roots_count" (defArgs s_roots_count) (defBody s_roots_count) (defScope s_roots_count) .none kV12 dc12 pm12 an12 cd12 ct12), sl12⟩) (c12 : PySem.W.codeIn K cd12 "roots_count" = true) (k12 : PySem.W.keepIn K (.ref f12) = true)
    {f13 : Addr} {od13 an13 : Option Addr} {sl13 : Array (Option Value)} {oc13 kV13 dc13 pm13 cd13 ct13 : Value}
    (a13 : PySem.W.nsIn K mainGlobals "check_counts" = some (some (.ref f13))) (l13 : K.lookup f13 = some ⟨oc13, od13, .func (PySem.W.fnOf "check_counts" "check_counts" (defArgs s_check_counts) (defBody s_check_counts) (defScope s_check_counts) .none kV13 dc13 pm13 an13 cd13 ct13), sl13⟩) (c13 : PySem.W.codeIn K cd13 "check_counts" = true) (k13 : PySem.W.keepIn K (.ref f13) = true)
    {f14 : Addr} {od14 an14 : Option Addr} {sl14 : Array (Option Value)} {oc14 kV14 dc14 pm14 cd14 ct14 : Value}
    (a14 : PySem.W.nsIn K mainGlobals "_law_some" = some (some (.ref f14))) (l14 : K.lookup f14 = some ⟨oc14, od14, .func (PySem.W.fnOf "_law_some" "_law_some" (defArgs s__law_some) (defBody s__law_some) (defScope s__law_some) .none kV14 dc14 pm14 an14 cd14 ct14), sl14⟩) (c14 : PySem.W.codeIn K cd14 "_law_some" = true) (k14 : PySem.W.keepIn K (.ref f14) = true)
    {f15 : Addr} {od15 an15 : Option Addr} {sl15 : Array (Option Value)} {oc15 kV15 dc15 pm15 cd15 ct15 : Value}
    (a15 : PySem.W.nsIn K mainGlobals "check_filled" = some (some (.ref f15))) (l15 : K.lookup f15 = some ⟨oc15, od15, .func (PySem.W.fnOf "check_filled" "check_filled" (defArgs s_check_filled) (defBody s_check_filled) (defScope s_check_filled) .none kV15 dc15 pm15 an15 cd15 ct15), sl15⟩) (c15 : PySem.W.codeIn K cd15 "check_filled" = true) (k15 : PySem.W.keepIn K (.ref f15) = true)
    {f16 : Addr} {od16 an16 : Option Addr} {sl16 : Array (Option Value)} {oc16 kV16 dc16 pm16 cd16 ct16 : Value}
    (a16 : PySem.W.nsIn K mainGlobals "borders" = some (some (.ref f16))) (l16 : K.lookup f16 = some ⟨oc16, od16, .func (PySem.W.fnOf "borders" "borders" (defArgs s_borders) (defBody s_borders) (defScope s_borders) .none kV16 dc16 pm16 an16 cd16 ct16), sl16⟩) (c16 : PySem.W.codeIn K cd16 "borders" = true) (k16 : PySem.W.keepIn K (.ref f16) = true)
    {f17 : Addr} {od17 an17 : Option Addr} {sl17 : Array (Option Value)} {oc17 kV17 dc17 pm17 cd17 ct17 : Value}
    (a17 : PySem.W.nsIn K mainGlobals "overlap" = some (some (.ref f17))) (l17 : K.lookup f17 = some ⟨oc17, od17, .func (PySem.W.fnOf "overlap" "overlap" (defArgs s_overlap) (defBody s_overlap) (defScope s_overlap) .none kV17 dc17 pm17 an17 cd17 ct17), sl17⟩) (c17 : PySem.W.codeIn K cd17 "overlap" = true) (k17 : PySem.W.keepIn K (.ref f17) = true)
    {f18 : Addr} {od18 an18 : Option Addr} {sl18 : Array (Option Value)} {oc18 kV18 dc18 pm18 cd18 ct18 : Value}
    (a18 : PySem.W.nsIn K mainGlobals "turns_of" = some (some (.ref f18))) (l18 : K.lookup f18 = some ⟨oc18, od18, .func (PySem.W.fnOf "turns_of" "turns_of" (defArgs s_turns_of) (defBody s_turns_of) (defScope s_turns_of) .none kV18 dc18 pm18 an18 cd18 ct18), sl18⟩) (c18 : PySem.W.codeIn K cd18 "turns_of" = true) (k18 : PySem.W.keepIn K (.ref f18) = true)
    {f19 : Addr} {od19 an19 : Option Addr} {sl19 : Array (Option Value)} {oc19 kV19 dc19 pm19 cd19 ct19 : Value}
    (a19 : PySem.W.nsIn K mainGlobals "_law_word" = some (some (.ref f19))) (l19 : K.lookup f19 = some ⟨oc19, od19, .func (PySem.W.fnOf "_law_word" "_law_word" (defArgs s__law_word) (defBody s__law_word) (defScope s__law_word) .none kV19 dc19 pm19 an19 cd19 ct19), sl19⟩) (c19 : PySem.W.codeIn K cd19 "_law_word" = true) (k19 : PySem.W.keepIn K (.ref f19) = true)
    {f20 : Addr} {od20 an20 : Option Addr} {sl20 : Array (Option Value)} {oc20 kV20 dc20 pm20 cd20 ct20 : Value}
    (a20 : PySem.W.nsIn K mainGlobals "periods" = some (some (.ref f20))) (l20 : K.lookup f20 = some ⟨oc20, od20, .func (PySem.W.fnOf "periods" "periods" (defArgs s_periods) (defBody s_periods) (defScope s_periods) .none kV20 dc20 pm20 an20 cd20 ct20), sl20⟩) (c20 : PySem.W.codeIn K cd20 "periods" = true) (k20 : PySem.W.keepIn K (.ref f20) = true)
    {f21 : Addr} {od21 an21 : Option Addr} {sl21 : Array (Option Value)} {oc21 kV21 dc21 pm21 cd21 ct21 : Value}
    (a21 : PySem.W.nsIn K mainGlobals "root_of" = some (some (.ref f21))) (l21 : K.lookup f21 = some ⟨oc21, od21, .func (PySem.W.fnOf "root_of" "root_of" (defArgs s_root_of) (defBody s_root_of) (defScope s_root_of) .none kV21 dc21 pm21 an21 cd21 ct21), sl21⟩) (c21 : PySem.W.codeIn K cd21 "root_of" = true) (k21 : PySem.W.keepIn K (.ref f21) = true)
    {f22 : Addr} {od22 an22 : Option Addr} {sl22 : Array (Option Value)} {oc22 kV22 dc22 pm22 cd22 ct22 : Value}
    (a22 : PySem.W.nsIn K mainGlobals "many_roots" = some (some (.ref f22))) (l22 : K.lookup f22 = some ⟨oc22, od22, .func (PySem.W.fnOf "many_roots" "many_roots" (defArgs s_many_roots) (defBody s_many_roots) (defScope s_many_roots) .none kV22 dc22 pm22 an22 cd22 ct22), sl22⟩) (c22 : PySem.W.codeIn K cd22 "many_roots" = true) (k22 : PySem.W.keepIn K (.ref f22) = true)
    {f23 : Addr} {od23 an23 : Option Addr} {sl23 : Array (Option Value)} {oc23 kV23 dc23 pm23 cd23 ct23 : Value}
    (a23 : PySem.W.nsIn K mainGlobals "many_turns" = some (some (.ref f23))) (l23 : K.lookup f23 = some ⟨oc23, od23, .func (PySem.W.fnOf "many_turns" "many_turns" (defArgs s_many_turns) (defBody s_many_turns) (defScope s_many_turns) .none kV23 dc23 pm23 an23 cd23 ct23), sl23⟩) (c23 : PySem.W.codeIn K cd23 "many_turns" = true) (k23 : PySem.W.keepIn K (.ref f23) = true)
    {f24 : Addr} {od24 an24 : Option Addr} {sl24 : Array (Option Value)} {oc24 kV24 dc24 pm24 cd24 ct24 : Value}
    (a24 : PySem.W.nsIn K mainGlobals "law" = some (some (.ref f24))) (l24 : K.lookup f24 = some ⟨oc24, od24, .func (PySem.W.fnOf "law" "law" (defArgs s_law) (defBody s_law) (defScope s_law) .none kV24 dc24 pm24 an24 cd24 ct24), sl24⟩) (c24 : PySem.W.codeIn K cd24 "law" = true) (k24 : PySem.W.keepIn K (.ref f24) = true)
    (z_int : PySem.W.nsIn K mainGlobals "int" = some none)
    (z_isinstance : PySem.W.nsIn K mainGlobals "isinstance" = some none)
    (z_bool : PySem.W.nsIn K mainGlobals "bool" = some none)
    (z_str : PySem.W.nsIn K mainGlobals "str" = some none)
    (z_len : PySem.W.nsIn K mainGlobals "len" = some none)
    (z_sorted : PySem.W.nsIn K mainGlobals "sorted" = some none)
    (z_range : PySem.W.nsIn K mainGlobals "range" = some none)
    (z_sum : PySem.W.nsIn K mainGlobals "sum" = some none)
    (z_min : PySem.W.nsIn K mainGlobals "min" = some none)
    (z_set : PySem.W.nsIn K mainGlobals "set" = some none)
    (z_max : PySem.W.nsIn K mainGlobals "max" = some none)
    (z_abs : PySem.W.nsIn K mainGlobals "abs" = some none)
    (z_tuple : PySem.W.nsIn K mainGlobals "tuple" = some none)
    (z_list : PySem.W.nsIn K mainGlobals "list" = some none)
    (z_zip : PySem.W.nsIn K mainGlobals "zip" = some none)
    (z_all : PySem.W.nsIn K mainGlobals "all" = some none)
    (z_any : PySem.W.nsIn K mainGlobals "any" = some none)
    {u_SIGNS : Value} (q_SIGNS : PySem.W.nsIn K mainGlobals "SIGNS" = some (some u_SIGNS)) (r_SIGNS : RelV (.str (S [97, 98, 99, 100])) u_SIGNS)
    {u_MOST_SIGNS : Value} (q_MOST_SIGNS : PySem.W.nsIn K mainGlobals "MOST_SIGNS" = some (some u_MOST_SIGNS)) (r_MOST_SIGNS : RelV (.int 300) u_MOST_SIGNS)
    : ∃ fd : FuncData, (∀ (s : Shared) (v : Value), BindsTo s fd ⟨[v], []⟩ [("script", v)]) ∧ ∀ base : Heap, K.In base → base.Ns mainGlobals mg → FnOk l.prog w K mg base CX0 10 fa fd ["script"] (sp_law K) := by
  have e := hfa.symm.trans (PySem.W.mg_of X G a24)
  cases e
  have T : Txt K mg := ⟨PySem.W.mg_none_of X G z_int, PySem.W.mg_none_of X G z_isinstance, PySem.W.mg_none_of X G z_bool, PySem.W.mg_none_of X G z_str, PySem.W.mg_none_of X G z_len, PySem.W.mg_none_of X G z_sorted, PySem.W.mg_none_of X G z_range, PySem.W.mg_none_of X G z_sum, PySem.W.mg_none_of X G z_min, PySem.W.mg_none_of X G z_set, PySem.W.mg_none_of X G z_max, PySem.W.mg_none_of X G z_abs, PySem.W.mg_none_of X G z_tuple, PySem.W.mg_none_of X G z_list, PySem.W.mg_none_of X G z_zip, PySem.W.mg_none_of X G z_all, PySem.W.mg_none_of X G z_any, ⟨u_SIGNS, PySem.W.mg_of X G q_SIGNS, r_SIGNS⟩, ⟨u_MOST_SIGNS, PySem.W.mg_of X G q_MOST_SIGNS, r_MOST_SIGNS⟩⟩
  have F0 := fun_mk (st := s_is_number) l0 c0 k0
  have b0 := F0.binds (ps := ["thing"]) fun _ _ _ _ _ _ us hl => match us, hl with | [_], _ => rfl
  have F1 := fun_mk (st := s_check_word) l1 c1 k1
  have b1 := F1.binds (ps := ["word", "letters", "most"]) fun _ _ _ _ _ _ us hl => match us, hl with | [_, _, _], _ => rfl
  have F2 := fun_mk (st := s_border_lengths) l2 c2 k2
  have b2 := F2.binds (ps := ["word"]) fun _ _ _ _ _ _ us hl => match us, hl with | [_], _ => rfl
  have F3 := fun_mk (st := s_divisors) l3 c3 k3
  have b3 := F3.binds (ps := ["number"]) fun _ _ _ _ _ _ us hl => match us, hl with | [_], _ => rfl
  have F4 := fun_mk (st := s_raised) l4 c4 k4
  have b4 := F4.binds (ps := ["number", "times"]) fun _ _ _ _ _ _ us hl => match us, hl with | [_, _], _ => rfl
  have F5 := fun_mk (st := s__law_hand) l5 c5 k5
  have b5 := F5.binds (ps := ["script"]) fun _ _ _ _ _ _ us hl => match us, hl with | [_], _ => rfl
  have F6 := fun_mk (st := s__law_draw) l6 c6 k6
  have b6 := F6.binds (ps := ["hand", "limit"]) fun _ _ _ _ _ _ us hl => match us, hl with | [_, _], _ => rfl
  have F7 := fun_mk (st := s__law_words) l7 c7 k7
  have b7 := F7.binds (ps := ["letters", "most"]) fun _ _ _ _ _ _ us hl => match us, hl with | [_, _], _ => rfl
  have F8 := fun_mk (st := s__law_is_power) l8 c8 k8
  have b8 := F8.binds (ps := ["word"]) fun _ _ _ _ _ _ us hl => match us, hl with | [_], _ => rfl
  have F9 := fun_mk (st := s__law_turns) l9 c9 k9
  have b9 := F9.binds (ps := ["word"]) fun _ _ _ _ _ _ us hl => match us, hl with | [_], _ => rfl
  have F10 := fun_mk (st := s__law_is) l10 c10 k10
  have b10 := F10.binds (ps := ["shown", "due"]) fun _ _ _ _ _ _ us hl => match us, hl with | [_, _], _ => rfl
  have F11 := fun_mk (st := s_check_letters) l11 c11 k11
  have b11 := F11.binds (ps := ["word"]) fun _ _ _ _ _ _ us hl => match us, hl with | [_], _ => rfl
  have F12 := fun_mk (st := s_roots_count) l12 c12 k12
  have b12 := F12.binds (ps := ["letters", "length"]) fun _ _ _ _ _ _ us hl => match us, hl with | [_, _], _ => rfl
  have F13 := fun_mk (st := s_check_counts) l13 c13 k13
  have b13 := F13.binds (ps := ["letters", "length"]) fun _ _ _ _ _ _ us hl => match us, hl with | [_, _], _ => rfl
  have F14 := fun_mk (st := s__law_some) l14 c14 k14
  have b14 := F14.binds (ps := ["hand", "things"]) fun _ _ _ _ _ _ us hl => match us, hl with | [_, _], _ => rfl
  have F15 := fun_mk (st := s_check_filled) l15 c15 k15
  have b15 := F15.binds (ps := ["word"]) fun _ _ _ _ _ _ us hl => match us, hl with | [_], _ => rfl
  have F16 := fun_mk (st := s_borders) l16 c16 k16
  have b16 := F16.binds (ps := ["word"]) fun _ _ _ _ _ _ us hl => match us, hl with | [_], _ => rfl
  have F17 := fun_mk (st := s_overlap) l17 c17 k17
  have b17 := F17.binds (ps := ["one", "other"]) fun _ _ _ _ _ _ us hl => match us, hl with | [_, _], _ => rfl
  have F18 := fun_mk (st := s_turns_of) l18 c18 k18
  have b18 := F18.binds (ps := ["word"]) fun _ _ _ _ _ _ us hl => match us, hl with | [_], _ => rfl
  have F19 := fun_mk (st := s__law_word) l19 c19 k19
  have b19 := F19.binds (ps := ["hand", "letters", "most"]) fun _ _ _ _ _ _ us hl => match us, hl with | [_, _, _], _ => rfl
  have F20 := fun_mk (st := s_periods) l20 c20 k20
  have b20 := F20.binds (ps := ["word"]) fun _ _ _ _ _ _ us hl => match us, hl with | [_], _ => rfl
  have F21 := fun_mk (st := s_root_of) l21 c21 k21
  have b21 := F21.binds (ps := ["word"]) fun _ _ _ _ _ _ us hl => match us, hl with | [_], _ => rfl
  have F22 := fun_mk (st := s_many_roots) l22 c22 k22
  have b22 := F22.binds (ps := ["letters", "length"]) fun _ _ _ _ _ _ us hl => match us, hl with | [_, _], _ => rfl
  have F23 := fun_mk (st := s_many_turns) l23 c23 k23
  have b23 := F23.binds (ps := ["letters", "length"]) fun _ _ _ _ _ _ us hl => match us, hl with | [_, _], _ => rfl
  have F24 := fun_mk (st := s_law) l24 c24 k24
  have b24 := F24.binds (ps := ["script"]) fun _ _ _ _ _ _ us hl => match us, hl with | [_], _ => rfl
  refine ⟨PySem.W.fnOf "law" "law" (defArgs s_law) (defBody s_law) (defScope s_law) .none kV24 dc24 pm24 an24 cd24 ct24, fun s v => .of_eq rfl, fun base _ _ => ?_⟩
  have C_is_number : Cal l.prog w K mg base 1 "is_number" (sp_is_number K) := ⟨_, _, _, ok_is_number F0 T, PySem.W.mg_of X G a0, k0, b0⟩
  have C_check_word : Cal l.prog w K mg base 1 "check_word" (sp_check_word K) := ⟨_, _, _, ok_check_word F1 T, PySem.W.mg_of X G a1, k1, b1⟩
  have C_border_lengths : Cal l.prog w K mg base 1 "border_lengths" (sp_border_lengths K) := ⟨_, _, _, ok_border_lengths F2 T, PySem.W.mg_of X G a2, k2, b2⟩
  have C_divisors : Cal l.prog w K mg base 1 "divisors" (sp_divisors K) := ⟨_, _, _, ok_divisors F3 T, PySem.W.mg_of X G a3, k3, b3⟩
  have C_raised : Cal l.prog w K mg base 1 "raised" (sp_raised K) := ⟨_, _, _, ok_raised F4 T, PySem.W.mg_of X G a4, k4, b4⟩
  have C__law_hand : Cal l.prog w K mg base 1 "_law_hand" (sp__law_hand K) := ⟨_, _, _, ok__law_hand F5 T, PySem.W.mg_of X G a5, k5, b5⟩
  have C__law_draw : Cal l.prog w K mg base 1 "_law_draw" (sp__law_draw K) := ⟨_, _, _, ok__law_draw F6 T, PySem.W.mg_of X G a6, k6, b6⟩
  have C__law_words : Cal l.prog w K mg base 1 "_law_words" (sp__law_words K) := ⟨_, _, _, ok__law_words F7 T, PySem.W.mg_of X G a7, k7, b7⟩
  have C__law_is_power : Cal l.prog w K mg base 1 "_law_is_power" (sp__law_is_power K) := ⟨_, _, _, ok__law_is_power F8 T, PySem.W.mg_of X G a8, k8, b8⟩
  have C__law_turns : Cal l.prog w K mg base 1 "_law_turns" (sp__law_turns K) := ⟨_, _, _, ok__law_turns F9 T, PySem.W.mg_of X G a9, k9, b9⟩
  have C__law_is_leaf : Cal l.prog w K mg base 1 "_law_is" (sp__law_is_leaf K) := ⟨_, _, _, ok__law_is_leaf F10 T, PySem.W.mg_of X G a10, k10, b10⟩
  have C_check_letters : Cal l.prog w K mg base 2 "check_letters" (sp_check_letters K) := ⟨_, _, _, ok_check_letters F11 T C_check_word, PySem.W.mg_of X G a11, k11, b11⟩
  have C_roots_count : ∀ n, Cal l.prog w K mg base (2 + n) "roots_count" (sp_roots_count n K) := fun n => Nat.rec ⟨_, _, _, ok_roots_count_0 F12 1, PySem.W.mg_of X G a12, k12, b12⟩ (fun n ih => ⟨_, _, _, ok_roots_count (Nat.le_add_right _ _) ih F12 T C_raised C_divisors, PySem.W.mg_of X G a12, k12, b12⟩) n
  have C_check_counts : Cal l.prog w K mg base 2 "check_counts" (sp_check_counts K) := ⟨_, _, _, ok_check_counts F13 T C_is_number, PySem.W.mg_of X G a13, k13, b13⟩
  have C__law_is : Cal l.prog w K mg base 2 "_law_is" (sp__law_is K) := ⟨_, _, _, ok__law_is F10 T C__law_is_leaf, PySem.W.mg_of X G a10, k10, b10⟩
  have C__law_some : Cal l.prog w K mg base 2 "_law_some" (sp__law_some K) := ⟨_, _, _, ok__law_some F14 T C__law_draw, PySem.W.mg_of X G a14, k14, b14⟩
  have C_check_filled : Cal l.prog w K mg base 3 "check_filled" (sp_check_filled K) := ⟨_, _, _, ok_check_filled F15 T C_check_letters, PySem.W.mg_of X G a15, k15, b15⟩
  have C_borders : Cal l.prog w K mg base 3 "borders" (sp_borders K) := ⟨_, _, _, ok_borders F16 T C_check_letters C_border_lengths, PySem.W.mg_of X G a16, k16, b16⟩
  have C_overlap : Cal l.prog w K mg base 3 "overlap" (sp_overlap K) := ⟨_, _, _, ok_overlap F17 T C_check_letters, PySem.W.mg_of X G a17, k17, b17⟩
  have C_turns_of : Cal l.prog w K mg base 3 "turns_of" (sp_turns_of K) := ⟨_, _, _, ok_turns_of F18 T C_check_letters, PySem.W.mg_of X G a18, k18, b18⟩
  have C__law_word : Cal l.prog w K mg base 3 "_law_word" (sp__law_word K) := ⟨_, _, _, ok__law_word F19 T C__law_draw C__law_some, PySem.W.mg_of X G a19, k19, b19⟩
  have C_periods : Cal l.prog w K mg base 4 "periods" (sp_periods K) := ⟨_, _, _, ok_periods F20 T C_borders, PySem.W.mg_of X G a20, k20, b20⟩
  have C_root_of : Cal l.prog w K mg base 5 "root_of" (sp_root_of K) := ⟨_, _, _, ok_root_of F21 T C_check_filled C_periods, PySem.W.mg_of X G a21, k21, b21⟩
  have C_many_roots : Cal l.prog w K mg base 9 "many_roots" (sp_many_roots K) := ⟨_, _, _, ok_many_roots F22 T C_check_counts (C_roots_count 6), PySem.W.mg_of X G a22, k22, b22⟩
  have C_many_turns : Cal l.prog w K mg base 9 "many_turns" (sp_many_turns K) := ⟨_, _, _, ok_many_turns F23 T C_check_counts C_divisors (C_roots_count 6), PySem.W.mg_of X G a23, k23, b23⟩
  exact ok_law F24 T C__law_hand C_many_roots C_many_turns C__law_draw C__law_words C__law_is_power C__law_is C__law_turns C__law_word C_overlap C_turns_of C_root_of
theorem walk {l : PySem.W.OpenLaw} {q : Program} {loose : List Str} {XP : (Str → Option Value) → Heap → Prop} {YP : World → Heap → Prop} {d : DefRec} {K : Params → PySem.W.Frag} (hn : l.most = some 63) (hdf : d.params.defaults = [])
    (hY : ∀ (w : World) (h : Heap), YP w h → (K w.params).In h)
    (F : ∀ (w : World) (mg : Str → Option Value) (fa : Addr) (h : Heap), (K w.params).In h → h.Ns mainGlobals mg → mg d.name = some (.ref fa) →
      ∃ fd : FuncData, (∀ (s : Shared) (u : Value), BindsTo s fd ⟨[u], []⟩ [("script", u)]) ∧ ∀ base : Heap, (K w.params).In base → base.Ns mainGlobals mg → FnOk l.prog w (K w.params) mg base CX0 10 fa fd ["script"] (sp_law (K w.params))) :
    PySem.W.WalkO q loose XP YP l.row.toRowW d [] (fun f vs => PySem.call f vs) :=
  L2.walk_of (n := 63) (k := 10) (x := "script") (CX := fun _ => CX0) (sp := fun w => sp_law (K w.params)) hn (by decide) hdf ⟨rfl, by decide, by decide⟩ hY F (fun _ _ a ns hl _ hS => ⟨a, ns, rfl, hS, fun _ => rfl⟩) fun _ _ _ _ _ z => z
end My
open PySem PySem.W PyProof.Rows
set_option maxRecDepth 100000 in
set_option maxHeartbeats 0 in
theorem PySem.Challenge.cw_wordfolds_k25_whole_roots_and_turns_coun_holds : PySem.Challenge.rw_wordfolds_k25_whole_roots_and_turns_coun.Holds := by
  w_on; o_law; k_head; (case hw => w_witness2)
  k_fill
  refine My.walk (l := PySem.Challenge.rw_wordfolds_k25_whole_roots_and_turns_coun) rfl rfl (fun w h Y => PySem.W.kIn_of Y) ?F
  case F =>
    intro w mg fa h KX G hmg
    refine' My.all_mk KX G hmg ?a0 ?l0 ?c0 ?k0 ?a1 ?l1 ?c1 ?k1 ?a2 ?l2 ?c2 ?k2 ?a3 ?l3 ?c3 ?k3 ?a4 ?l4 ?c4 ?k4 ?a5 ?l5 ?c5 ?k5 ?a6 ?l6 ?c6 ?k6 ?a7 ?l7 ?c7 ?k7 ?a8 ?l8 ?c8 ?k8 ?a9 ?l9 ?c9 ?k9 ?a10 ?l10 ?c10 ?k10 ?a11 ?l11 ?c11 ?k11 ?a12 ?l12 ?c12 ?k12 ?a13 ?l13 ?c13 ?k13 ?a14 ?l14 ?c14 ?k14 ?a15 ?l15 ?c15 ?k15 ?a16 ?l16 ?c16 ?k16 ?a17 ?l17 ?c17 ?k17 ?a18 ?l18 ?c18 ?k18 ?a19 ?l19 ?c19 ?k19 ?a20 ?l20 ?c20 ?k20 ?a21 ?l21 ?c21 ?k21 ?a22 ?l22 ?c22 ?k22 ?a23 ?l23 ?c23 ?k23 ?a24 ?l24 ?c24 ?k24 ?z_int ?z_isinstance ?z_bool ?z_str ?z_len ?z_sorted ?z_range ?z_sum ?z_min ?z_set ?z_max ?z_abs ?z_tuple ?z_list ?z_zip ?z_all ?z_any ?q_SIGNS ?r_SIGNS ?q_MOST_SIGNS ?r_MOST_SIGNS
    (case a0 => k_is)
    (case l0 => k_is)
    (case c0 => k_is)
    (case k0 => k_is)
    (case a1 => k_is)
    (case l1 => k_is)
    (case c1 => k_is)
    (case k1 => k_is)
    (case a2 => k_is)
    (case l2 => k_is)
    (case c2 => k_is)
    (case k2 => k_is)
    (case a3 => k_is)
    (case l3 => k_is)
    (case c3 => k_is)
    (case k3 => k_is)
    (case a4 => k_is)
    (case l4 => k_is)
    (case c4 => k_is)
    (case k4 => k_is)
    (case a5 => k_is)
    (case l5 => k_is)
    (case c5 => k_is)
    (case k5 => k_is)
    (case a6 => k_is)
    (case l6 => k_is)
    (case c6 => k_is)
    (case k6 => k_is)
    (case a7 => k_is)
    (case l7 => k_is)
    (case c7 => k_is)
    (case k7 => k_is)
    (case a8 => k_is)
    (case l8 => k_is)
    (case c8 => k_is)
    (case k8 => k_is)
    (case a9 => k_is)
    (case l9 => k_is)
    (case c9 => k_is)
    (case k9 => k_is)
    (case a10 => k_is)
    (case l10 => k_is)
    (case c10 => k_is)
    (case k10 => k_is)
    (case a11 => k_is)
    (case l11 => k_is)
    (case c11 => k_is)
    (case k11 => k_is)
    (case a12 => k_is)
    (case l12 => k_is)
    (case c12 => k_is)
    (case k12 => k_is)
    (case a13 => k_is)
    (case l13 => k_is)
    (case c13 => k_is)
    (case k13 => k_is)
    (case a14 => k_is)
    (case l14 => k_is)
    (case c14 => k_is)
    (case k14 => k_is)
    (case a15 => k_is)
    (case l15 => k_is)
    (case c15 => k_is)
    (case k15 => k_is)
    (case a16 => k_is)
    (case l16 => k_is)
    (case c16 => k_is)
    (case k16 => k_is)
    (case a17 => k_is)
    (case l17 => k_is)
    (case c17 => k_is)
    (case k17 => k_is)
    (case a18 => k_is)
    (case l18 => k_is)
    (case c18 => k_is)
    (case k18 => k_is)
    (case a19 => k_is)
    (case l19 => k_is)
    (case c19 => k_is)
    (case k19 => k_is)
    (case a20 => k_is)
    (case l20 => k_is)
    (case c20 => k_is)
    (case k20 => k_is)
    (case a21 => k_is)
    (case l21 => k_is)
    (case c21 => k_is)
    (case k21 => k_is)
    (case a22 => k_is)
    (case l22 => k_is)
    (case c22 => k_is)
    (case k22 => k_is)
    (case a23 => k_is)
    (case l23 => k_is)
    (case c23 => k_is)
    (case k23 => k_is)
    (case a24 => k_is)
    (case l24 => k_is)
    (case c24 => k_is)
    (case k24 => k_is)
    (case z_int => k_is)
    (case z_isinstance => k_is)
    (case z_bool => k_is)
    (case z_str => k_is)
    (case z_len => k_is)
    (case z_sorted => k_is)
    (case z_range => k_is)
    (case z_sum => k_is)
    (case z_min => k_is)
    (case z_set => k_is)
    (case z_max => k_is)
    (case z_abs => k_is)
    (case z_tuple => k_is)
    (case z_list => k_is)
    (case z_zip => k_is)
    (case z_all => k_is)
    (case z_any => k_is)
    (case q_SIGNS => k_is)
    (case r_SIGNS => exact ⟨_, rfl⟩)
    (case q_MOST_SIGNS => k_is)
    (case r_MOST_SIGNS => exact ⟨_, rfl⟩)
#print axioms PySem.Challenge.cw_wordfolds_k25_whole_roots_and_turns_coun_holds
