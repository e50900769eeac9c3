import PyProof.Rows.All
import Wide.All
import OpenK.AllK
import Wide.FinOn
import HandS.ForMost
import HandS.Lambda
import HandS.Defaults
import HandS.WordsExc
import PySem.Challenge.RW_sumsway_k96_whole_from_text_to_signs
import HandS.Text
import KE.KEqSeq
import KE.SortKeyHeap
import HandS.Conv
import HandS.Walk
import HandS.SortRule
import PyProof.Rows.SetFrom
import HandS.WordsDict
import HandS.More
import HandS.Strs
import HandS.Wide
import PyProof.StrBlock2
import HandS.Ends
import HandS.Head0
import HandS.Head1
import HandS.Head2
import HandS.HeadHook1
import HandS.HeadHook2
import HandS.HeadHook3
import HandS.HeadHook4
import HandS.HeadWalk
import Wide.Once
/-! ## SwA -/
set_option Elab.async false
set_option linter.all false
set_option maxRecDepth 100000
set_option maxHeartbeats 4000000
/-! Foundation: the text by places, what a step of the run may change, calls of the text's own defs. -/
namespace SW
open PySem PySem.Spec PyProof.Rows L2

/-! ### the text by places -/
def top (i : Nat) : Stmt := PySem.Challenge.pw_sumsway_k96_whole_from_text_to_signs.main.body.getD i (.Pass ⟨0, 0, 0, 0⟩)

/-! ### heaps: all that was known stays, tables of code objects grow -/
abbrev Tbs := List (Addr × Str)
structure Ext (T : Tbs) (H H' : Hp) : Prop where
  kp : ∀ b o, H b = some o → (∀ ps, o ≠ .tbl ps) → H' b = some o
  tb : LamX.Tabs T H → LamX.Tabs T H'
  fr : ∀ b o, H b = some o → ∃ o', H' b = some o'

section
variable {T : Tbs} {H H1 H2 H' : Hp} {a p : Addr} {o : HO}
theorem Ext.refl : Ext T H H := ⟨fun _ _ h _ => h, fun h => h, fun _ o h => ⟨o, h⟩⟩
theorem Ext.trans (a : Ext T H H1) (b : Ext T H1 H2) : Ext T H H2 :=
  ⟨fun c o h n => b.kp c o (a.kp c o h n) n, fun h => b.tb (a.tb h), fun c o h => by
    obtain ⟨o', h'⟩ := a.fr c o h
    exact b.fr c o' h'⟩
theorem Ext.new (h : H p = none) : Ext T H (upd H p o) :=
  have k : ∀ b u, H b = some u → upd H p o b = some u := fun b u e => by
    rw [upd_ne (ne_of_none e h)]
    exact e
  ⟨fun b u e _ => k b u e, fun t => t.ext k, fun b u e => ⟨u, k b u e⟩⟩
theorem Ext.newer (e : Ext T H H1) (h : H1 p = none) : Ext T H (upd H1 p o) := e.trans (.new h)
theorem Ext.back (e : Ext T H H') (h : H' p = none) : H p = none := by
  cases q : H p with
  | none => rfl
  | some u =>
    obtain ⟨v, q'⟩ := e.fr p u q
    rw [h] at q'
    cases q'
theorem Ext.lst {xs : List V} (e : Ext T H H') (h : H a = some (.lst xs)) : H' a = some (.lst xs) := e.kp _ _ h fun _ z => nomatch z
theorem Ext.tup {xs : List V} (e : Ext T H H') (h : H a = some (.tup xs)) : H' a = some (.tup xs) := e.kp _ _ h fun _ z => nomatch z
theorem Ext.dK {xs : List (Key × V)} (e : Ext T H H') (h : H a = some (.dK xs)) : H' a = some (.dK xs) := e.kp _ _ h fun _ z => nomatch z
theorem Ext.ins {C dx : Addr} {fs : List (Str × V)} (e : Ext T H H') (h : H a = some (.ins C dx fs)) : H' a = some (.ins C dx fs) := e.kp _ _ h fun _ z => nomatch z
theorem Ext.rd {u : HO} (e : Ext T H H') (n : ∀ ps, u ≠ .tbl ps) (h : Rd H a u) : Rd H' a u := by
  rcases h with h | ⟨o, h⟩
  · exact .inl (e.kp _ _ h n)
  · exact .inr ⟨o, e.kp _ _ h fun _ z => nomatch z⟩
theorem Ext.sl {K : PySem.W.Frag} {xs : List V} (e : Ext T H H') (h : SqL K H a xs) : SqL K H' a xs := by
  rcases h with h | h
  · exact .inl (e.rd (fun _ z => nomatch z) h)
  · exact .inr h
theorem Ext.st {K : PySem.W.Frag} {xs : List V} (e : Ext T H H') (h : SqT K H a xs) : SqT K H' a xs := by
  rcases h with h | h
  · exact .inl (e.rd (fun _ z => nomatch z) h)
  · exact .inr h
/-- what may be changed under the tables' eyes -/
def Free : HO → Prop
  | .lst _ | .dK _ | .ins _ _ _ => True
  | _ => False
theorem tabs_mut {u : HO} (t : LamX.Tabs T H) (h : H p = some u) (f : Free u) : LamX.Tabs T (upd H p o) := fun q hq => by
  obtain ⟨ps, h1, h2, h3⟩ := t q hq
  refine ⟨ps, ?_, h2, fun pos cv hc => ?_⟩
  · rw [upd_ne fun z => ?_]
    · exact h1
    · rw [z, h] at h1
      cases h1
      exact f
  · obtain ⟨c, e1, e2⟩ := h3 pos cv hc
    refine ⟨c, e1, ?_⟩
    rw [upd_ne fun z => ?_]
    · exact e2
    · rw [z, h] at e2
      have e3 := Option.some.inj e2
      unfold LamX.CodeO at e3
      rw [e3] at f
      exact f
/-- an object that came behind H is changed -/
theorem Ext.mut {u : HO} (e : Ext T H H') (n : H p = none) (h : H' p = some u) (f : Free u) : Ext T H (upd H' p o) :=
  ⟨fun b v hb nt => by
    rw [upd_ne (ne_of_none hb n)]
    exact e.kp b v hb nt, fun t => tabs_mut (e.tb t) h f, fun b v hb => by
    rw [upd_ne (ne_of_none hb n)]
    exact e.fr b v hb⟩
theorem Ext.mutL {xs : List V} (e : Ext T H H') (n : H p = none) (h : H' p = some (.lst xs)) : Ext T H (upd H' p o) := e.mut n h trivial
end

/-! ### data that is read -/
mutual
theorem Ext.dp {T : Tbs} {K : PySem.W.Frag} {H H' : Hp} (e : Ext T H H') : ∀ {d : PyData} {v : V}, Dp K H v d → Dp K H' v d
  | _, _, .non => .non
  | _, _, .bl b => .bl b
  | _, _, .int i => .int i
  | _, _, .str x => .str x
  | _, _, .lst h r => .lst (e.sl h) (e.dpAll r)
  | _, _, .tup h r => .tup (e.st h) (e.dpAll r)
theorem Ext.dpAll {T : Tbs} {K : PySem.W.Frag} {H H' : Hp} (e : Ext T H H') : ∀ {ds : List PyData} {vs : List V}, DpAll K H vs ds → DpAll K H' vs ds
  | _, _, .nil => .nil
  | _, _, .cons h r => .cons (e.dp h) (e.dpAll r)
end

/-! ### rules whose readings name the written part -/
def rLenK (K : PySem.W.Frag) : List V → Hp → VK → Prop := fun ws H Q => ∃ p ys, ws = [.ref p] ∧ (SqL K H p ys ∨ SqT K H p ys) ∧ Q (.int (ys.length : Nat)) H
theorem call_lenK {X : Cx} : CallR X (.builtin "len") (rLenK X.K) := call_len_seq
def rListK (K : PySem.W.Frag) : List V → Hp → VK → Prop := fun ws H Q => ∃ p ys, ws = [.ref p] ∧ (SqL K H p ys ∨ SqT K H p ys) ∧ ∀ l, H l = none → Q (.ref l) (upd H l (.lst ys))
theorem call_listK {X : Cx} : CallR X (.type "list") (rListK X.K) := call_list_of

/-! ### calls of the text's own defs -/
structure Calls (P : Program) (w : World) (K : PySem.W.Frag) (mg : Str → Option Value) (base : Heap) (k : Nat) (x : Str) (ps : List Str) (sp : Sp) : Prop where
  ex : ∃ (f : Addr) (fd : FuncData), mg x = some (.ref f) ∧ PySem.W.keepIn K (.ref f) = true ∧ Binds K fd ps [] ∧ FnOk P w K mg base CX0 k f fd ps sp
section
variable {X : Cx} {k : Nat} {x : Str} {ps : List Str} {sp : Sp} {p pos : Pos} {e : Expr} {es : List Expr} {t : TA}
theorem pe_callD (G : Calls X.prog X.w X.K X.mg X.base k x ps sp) (hr : Room k X.A) (hg : Gl X x) (ha : PA X (e :: es) t) (hdb : (x == ("__debug__" : Str)) = false := by decide)
    (he : starEach (e :: es) X.env = (false, eval e X.env) :: starEach es X.env := by rfl) (hpl : (backTo pos (starEach es X.env)).any (·.1) = false := by rfl) : PE X (.Call (.Name x p) (e :: es) [] pos) (tCall sp [] E0 t) := by
  obtain ⟨f, fd, hm, hk, hb, F⟩ := G.ex
  exact pe_call F hr hg hm hk hb .nil pass0 ha hdb he hpl
/-- a module's constant -/
theorem pe_cst {v : V} (hm : ∃ u, X.mg x = some u ∧ RelV v u) (hg : Gl X x) (hd : (x == ("__debug__" : Str)) = false := by decide) : PE X (.Name x pos) (tC v) := by
  obtain ⟨u, h, r⟩ := hm
  exact pe_glob hg h r hd
end
/-- the built-ins' names are the module's own nowhere -/
structure Blt (mg : Str → Option Value) : Prop where
  len : mg "len" = none
  range : mg "range" = none
  list : mg "list" = none
  tuple : mg "tuple" = none
  sum : mg "sum" = none
  max : mg "max" = none
  min : mg "min" = none
  sorted : mg "sorted" = none
  enumerate : mg "enumerate" = none
  str : mg "str" = none
  int : mg "int" = none
  set : mg "set" = none
/-- a def of the text that stands at the module's top -/
abbrev DefAt (K : PySem.W.Frag) (mg : Str → Option Value) (x : Str) (st : Stmt) : Prop :=
  ∃ (f : Addr) (fd : FuncData), mg x = some (.ref f) ∧ FunD K x x (defArgs st) (defBody st) (defScope st) [] [] f fd
section
variable {P : Program} {w : World} {K : PySem.W.Frag} {mg : Str → Option Value} {base : Heap}
/-- a def's promise by its body -/
theorem DefAt.ok {x : Str} {st : Stmt} {N ps : List Str} {k : Nat} {sp : Sp} (D : DefAt K mg x st) (S : FnScope N ps (defScope st)) (len : ∀ vs H Q E, sp vs H Q E → vs.length = ps.length)
    (hb : ∀ (kV doc pm : Value) (an : Option Addr) (cdv ct : Value) (us : List Value), us.length = ps.length → bindArgs (PySem.W.fnOf x x (defArgs st) (defBody st) (defScope st) .none kV doc pm an cdv ct) ⟨us, []⟩ = pure (ps.zip us))
    (hbody : ∀ (f : Addr) (cdv : Value) (A : Around) (outer : List Env) (s : Shared) (H : Hp) (vs : List V) (Q : VK) (E : XK), Room k (A.deeper (envOfC x (defScope st) s.heap.objs.size f cdv)) → sp vs H Q E →
      ∃ t, PSs (cxOf CX0 P w K mg base N x (defScope st) f cdv A outer s H E).nox (defBody st) t ∧ t { nx := fun _ H' => Q .non H', rt := Q } (start N vs) H) : Calls P w K mg base (k + 1) x ps sp := by
  obtain ⟨f, fd, hm, F⟩ := D
  refine ⟨f, fd, hm, F.kp, F.bindsN hb, ?_⟩
  · refine F.ok S len fun cdv A outer s H vs Q E hr h => ?_
    obtain ⟨t, ht, q⟩ := hbody f cdv A outer s H vs Q E hr h
    exact ⟨t, ht.nox, q⟩
end
end SW

/-! ## SwB -/
/-! Masks as lists of their things; the model's operations on masks. -/
namespace SW
open PySem PySem.Spec PyProof.Rows L2 Bits

abbrev iv (n : Nat) : V := .int (n : Int)
abbrev nats (l : List Nat) : List V := l.map iv
def bits (m n : Nat) : List Nat := (List.range n).filter m.testBit
theorem bits_succ (m t : Nat) : bits m (t + 1) = bits m t ++ if m.testBit t = true then [t] else [] := by
  unfold bits
  rw [List.range_succ, List.filter_append]
  by_cases h : m.testBit t = true
  · rw [if_pos h, List.filter_cons_of_pos h]; rfl
  · rw [if_neg h, List.filter_cons_of_neg h]; rfl
theorem bits_add (m t : Nat) (h : m < 2 ^ t) : ∀ d, bits m (t + d) = bits m t
  | 0 => rfl
  | d + 1 => by
    rw [show t + (d + 1) = (t + d) + 1 from rfl, bits_succ, bits_add m t h d, if_neg, List.append_nil]
    rw [Nat.testBit_lt_two_pow (Nat.lt_of_lt_of_le h (Nat.pow_le_pow_right (by decide) (Nat.le_add_right t d)))]
    decide
theorem bits_eq {m t n : Nat} (h : m < 2 ^ t) (h2 : t ≤ n) : bits m n = bits m t := by
  obtain ⟨d, rfl⟩ := Nat.le.dest h2
  exact bits_add m t h d
theorem mem_bits {m n i : Nat} : i ∈ bits m n ↔ i < n ∧ m.testBit i = true := by
  unfold bits; rw [List.mem_filter, List.mem_range]
theorem bits_len (m n : Nat) : (bits m n).length ≤ n := by
  have h := List.length_filter_le m.testBit (List.range n)
  rw [List.length_range] at h; exact h
/-- the set of the things of a list -/
def setOf (l : List Nat) : Nat := l.foldl (fun m i => m ||| 2 ^ i) 0
theorem foldl_or_bit (l : List Nat) : ∀ (a i : Nat), (l.foldl (fun m i => m ||| 2 ^ i) a).testBit i = (a.testBit i || decide (i ∈ l)) := by
  induction l with
  | nil => intro a i; simp
  | cons x r ih =>
    intro a i
    rw [List.foldl_cons, ih, Nat.testBit_or, Nat.testBit_two_pow]
    by_cases h : i = x
    · subst h; simp
    · have h' : ¬ x = i := fun e => h e.symm
      simp [h, h', List.mem_cons]
theorem setOf_bit (l : List Nat) (i : Nat) : (setOf l).testBit i = decide (i ∈ l) := by
  unfold setOf; rw [foldl_or_bit]; simp
theorem lt_pow_of_bits {m n : Nat} (h : ∀ i, m.testBit i = true → i < n) : m < 2 ^ n := by
  apply Nat.lt_pow_two_of_testBit
  intro i hi
  cases q : m.testBit i with
  | false => rfl
  | true => exact absurd (h i q) (by omega)
theorem setOf_lt {l : List Nat} {n : Nat} (h : ∀ i ∈ l, i < n) : setOf l < 2 ^ n :=
  lt_pow_of_bits fun i hi => by
    rw [setOf_bit] at hi
    exact h i (of_decide_eq_true hi)
theorem bit_lt {m n i : Nat} (h : m < 2 ^ n) (hi : m.testBit i = true) : i < n := by
  rcases Nat.lt_or_ge i n with q | q
  · exact q
  · rw [Nat.testBit_lt_two_pow (Nat.lt_of_lt_of_le h (Nat.pow_le_pow_right (by decide) q))] at hi
    cases hi
theorem setOf_bits {m n : Nat} (h : m < 2 ^ n) : setOf (bits m n) = m := by
  apply Nat.eq_of_testBit_eq
  intro i
  rw [setOf_bit]
  cases q : m.testBit i with
  | true => exact decide_eq_true (mem_bits.mpr ⟨bit_lt h q, q⟩)
  | false => exact decide_eq_false fun hm => by rw [(mem_bits.mp hm).2] at q; cases q

/-! ### the model's operations -/
theorem toNat_nat (n : Nat) : ((n : Int)).toNat = n := Int.toNat_natCast n
theorem shr_nat (m t : Nat) : ((m : Int) / 2 ^ ((t : Int)).toNat) = ((m / 2 ^ t : Nat) : Int) := by
  rw [toNat_nat]
  have e : ((2 : Int) ^ t) = ((2 ^ t : Nat) : Int) := by rw [Int.natCast_pow]; rfl
  rw [e]
  exact (Int.natCast_ediv m (2 ^ t)).symm
theorem shl_nat (m t : Nat) : ((m : Int) * 2 ^ ((t : Int)).toNat) = ((m * 2 ^ t : Nat) : Int) := by
  rw [toNat_nat]
  exact natCast_mul_pow m t
theorem shl_one (t : Nat) : ((1 : Int) * 2 ^ ((t : Int)).toNat) = ((2 ^ t : Nat) : Int) := by
  have h := shl_nat 1 t
  rw [Nat.one_mul] at h
  exact h
theorem and_one (m t : Nat) : Builtin.bitAnd ((m / 2 ^ t : Nat) : Int) 1 = if m.testBit t = true then 1 else 0 := by
  have h := bit_at (x := (m : Int)) t
  have e : ((2 : Int) ^ t) = ((2 ^ t : Nat) : Int) := by rw [Int.natCast_pow]; rfl
  rw [Int.fdiv_eq_ediv_of_nonneg _ (by rw [e]; exact Int.natCast_nonneg _), e, ← Int.natCast_ediv] at h
  rw [h]
  have e2 : (((m / 2 ^ t : Nat) : Int) % 2) = ((m / 2 ^ t % 2 : Nat) : Int) := by omega
  rw [e2]
  have e3 : m.testBit t = decide (m / 2 ^ t % 2 = 1) := by
    rw [Nat.testBit_eq_decide_div_mod_eq]
  rw [e3]
  by_cases q : m / 2 ^ t % 2 = 1
  · rw [q]; simp
  · have : m / 2 ^ t % 2 = 0 := by omega
    rw [this]; simp
/-- (m >> t) & 1 == 1, as the readings tell it -/
theorem bit_test (m t : Nat) : decide (V.int (Builtin.bitAnd ((m : Int) / 2 ^ ((t : Int)).toNat) 1) = V.int 1) = m.testBit t := by
  rw [shr_nat, and_one]
  cases m.testBit t <;> decide
theorem bit_test0 (m t : Nat) : decide (V.int (Builtin.bitAnd ((m : Int) / 2 ^ ((t : Int)).toNat) 1) = V.int 0) = !m.testBit t := by
  rw [shr_nat, and_one]
  cases m.testBit t <;> decide
theorem or_nat (a b : Nat) : Builtin.bitOr (a : Int) (b : Int) = ((a ||| b : Nat) : Int) := by
  rw [bitOr_pp (Int.natCast_nonneg _) (Int.natCast_nonneg _)]; rfl
theorem dec_iv (a b : Nat) : decide (V.int (a : Int) = V.int (b : Int)) = decide (a = b) := by
  by_cases h : a = b
  · subst h; simp
  · rw [decide_eq_false h, decide_eq_false]
    intro e
    injection e with e
    exact h (by omega)
theorem small {n : Nat} (h : n ≤ 100000) : n ≤ sizeLine := Nat.le_trans h (by decide)
theorem smallt {n : Nat} (h : n < 100000) : n < sizeLine := Nat.lt_of_lt_of_le h (by decide)
end SW

/-! ## SwC -/
/-! sets.py: the masks' defs. -/
namespace SW
open PySem PySem.Spec PyProof.Rows L2 Bits
section
variable {P : Program} {w : World} {K : PySem.W.Frag} {mg : Str → Option Value} {base : Heap} {T : Tbs}

/-- a new list of numbers is handed back -/
def RetNs (T : Tbs) (H : Hp) (Q : VK) (l : List Nat) : Prop := ∀ p H', Ext T H H' → H p = none → H' p = some (.lst (nats l)) → Q (.ref p) H'

/-! ### things_in -/
abbrev s_things_in : Stmt := top 12
abbrev N_things_in : List Str := ["mask", "found", "thing"]
theorem sc_things_in : FnScope N_things_in ["mask"] (defScope s_things_in) := ⟨rfl, rfl, rfl, by decide +kernel, rfl, by decide +kernel, by decide +kernel⟩
def spThings (T : Tbs) : Sp := fun vs H Q _ => ∃ m n : Nat, vs = [iv m] ∧ m < 2 ^ n ∧ n ≤ 1000 ∧ RetNs T H Q (bits m n)
theorem ok_things_in (D : DefAt K mg "things_in" s_things_in) : Calls P w K mg base 1 "things_in" ["mask"] (spThings T) := by
  refine D.ok sc_things_in (fun vs H Q E h => ?_) (fun _ _ _ _ _ _ us hl => match us, hl with | [_], _ => rfl) (fun f cdv A outer s H vs Q E hr h => ?_)
  · obtain ⟨m, n, rfl, _⟩ := h; rfl
  obtain ⟨m, n, rfl, hm, hn, q⟩ := h
  have nd := sc_things_in.nd
  refine ⟨_, (pss_cons (ps_set (i := 1) nd rfl (Or.inl rfl) (pe_lst pa_nil))
      (pss_cons (ps_set (i := 2) nd rfl (Or.inl rfl) pe_int)
      (pss_cons (ps_while PassesOwn.never (pt_cmpR op_gt (pe_op op_shr (pv 0) (pv 2)) pe_int (nomark _))
        (pss_cons (ps_if (pt_cmpR op_eq (pe_op op_and (pe_op op_shr (pv 0) (pv 2)) pe_int) pe_int (nomark _))
          (pss_one (ps_expr (pe_bm PySem.F.plainAttrs_list PySem.F.slot_list_append PySem.F.type_list_append mt_append (pv 1) (pa_cons (pv 2) pa_nil))))
          pss_nil)
        (pss_one (ps_set (i := 2) nd rfl (Or.inl rfl) (pe_op op_add (pv 2) pe_int)))))
      (pss_one (ps_ret (pv 1)))))), ?_⟩
  refine ⟨Nat.zero_le _, fun l hl => ?_⟩
  refine ⟨fun mm σ H' => ∃ t : Nat, mm + t = n ∧ σ = [some (iv m), some (.ref l), some (iv t)] ∧ Ext T H H' ∧ H' l = some (.lst (nats (bits m t))),
    ⟨n, 0, rfl, rfl, .new hl, upd_same⟩, ?_⟩
  rintro mm σ H' ⟨t, ht, rfl, e, hL⟩
  refine ⟨_, rfl, _, rfl, _, _, rfl, rfl, Int.natCast_nonneg _, _, _, rfl, rfl, _, rfl, ?_⟩
  rw [shr_nat]
  refine ite2 (fun hc => ?_) (fun hc => ?_)
  · have hc' : (0 : Int) < ((m / 2 ^ t : Nat) : Int) := of_decide_eq_true hc
    have htn : t < n := by
      rcases Nat.lt_or_ge t n with h | h
      · exact h
      · have : m / 2 ^ t = 0 := Nat.div_eq_of_lt (Nat.lt_of_lt_of_le hm (Nat.pow_le_pow_right (by decide) h))
        rw [this] at hc'
        omega
    refine ⟨fun σ' H' => ∃ m', m' < mm ∧ ∃ t : Nat, m' + t = n ∧ σ' = [some (iv m), some (.ref l), some (iv t)] ∧ Ext T H H' ∧ H' l = some (.lst (nats (bits m t))), fun _ _ h => h, ?_⟩
    refine ⟨_, rfl, _, rfl, _, _, rfl, rfl, Int.natCast_nonneg _, _, _, rfl, rfl, rfl, _, rfl, ?_⟩
    rw [bit_test]
    refine ite2 (fun hb => ?_) (fun hb => ?_)
    · refine ⟨_, rfl, .inl ⟨rfl, _, SqL.of hL⟩, _, rfl, l, _, _, rfl, rfl, hL, ?_, ?_⟩
      · rw [List.length_map]
        exact smallt (by have := bits_len m t; omega)
      · refine ⟨_, rfl, _, _, rfl, rfl, mm - 1, by omega, t + 1, by omega, rfl, e.mutL hl hL, ?_⟩
        rw [upd_same, bits_succ, if_pos hb, nats, nats, List.map_append]
        rfl
    · refine ⟨_, rfl, _, _, rfl, rfl, mm - 1, by omega, t + 1, by omega, rfl, e, ?_⟩
      rw [bits_succ, if_neg hb, List.append_nil]
      exact hL
  · have hc' : ¬ (0 : Int) < ((m / 2 ^ t : Nat) : Int) := fun z => hc (decide_eq_true z)
    have hz : m / 2 ^ t = 0 := Nat.eq_zero_of_not_pos fun h => hc' (Int.natCast_pos.mpr h)
    have hlt : m < 2 ^ t := by
      rcases Nat.div_eq_zero_iff.mp hz with h | h
      · exact absurd h (by have := Nat.two_pow_pos t; omega)
      · exact h
    refine ⟨_, rfl, q l H' e hl ?_⟩
    rw [bits_eq hlt (by omega : t ≤ n)]
    exact hL

/-! ### set_of, many_in -/
abbrev s_set_of : Stmt := top 13
abbrev N_set_of : List Str := ["things", "mask", "thing"]
theorem sc_set_of : FnScope N_set_of ["things"] (defScope s_set_of) := ⟨rfl, rfl, rfl, by decide +kernel, rfl, by decide +kernel, by decide +kernel⟩
def spSetOf (K : PySem.W.Frag) : Sp := fun vs H Q _ => ∃ (a : Addr) (l : List Nat), vs = [.ref a] ∧ SqL K H a (nats l) ∧ (∀ i ∈ l, i ≤ 1000000) ∧ Q (iv (setOf l)) H
theorem setOf_take {l : List Nat} {i x : Nat} (h : l[i]? = some x) : setOf (l.take (i + 1)) = setOf (l.take i) ||| 2 ^ x := by
  unfold setOf
  rw [List.take_add_one, h, Option.toList_some, List.foldl_append]
  rfl
theorem nats_get {l : List Nat} {i : Nat} {x : V} (h : (nats l)[i]? = some x) : ∃ k, l[i]? = some k ∧ x = iv k := by
  rw [List.getElem?_map] at h
  cases e : l[i]? with
  | none => rw [e] at h; cases h
  | some k => rw [e] at h; exact ⟨k, rfl, (Option.some.inj h).symm⟩
theorem ok_set_of (D : DefAt K mg "set_of" s_set_of) : Calls P w K mg base 1 "set_of" ["things"] (spSetOf K) := by
  refine D.ok sc_set_of (fun vs H Q E h => ?_) (fun _ _ _ _ _ _ us hl => match us, hl with | [_], _ => rfl) (fun f cdv A outer s H vs Q E hr h => ?_)
  · obtain ⟨a, l, rfl, _⟩ := h; rfl
  obtain ⟨a, l, rfl, hS, hb, q⟩ := h
  have nd := sc_set_of.nd
  refine ⟨_, (pss_cons (ps_set (i := 1) nd rfl (Or.inl rfl) pe_int)
      (pss_cons (ps_for PassesOwn.never rfl (pi_list (pv 0)) (pg_name (i := 2) nd rfl (Or.inl rfl))
        (pss_one (ps_set (i := 1) nd rfl (Or.inl rfl) (pe_op op_or (pv 1) (pe_op op_shl pe_int (pv 2))))))
      (pss_one (ps_ret (pv 1))))), ?_⟩
  refine ⟨_, rfl, a, rfl, ⟨_, hS⟩, for_list (xs := nats l) (fun i σ H' => ∃ x, σ = [some (.ref a), some (iv (setOf (l.take i))), x] ∧ H' = H) ⟨none, rfl, rfl⟩ ?_ ?_ ?_⟩
  · rintro i σ H' _ ⟨x, rfl, rfl⟩; exact hS
  · rintro i y σ H' hi ⟨x, rfl, rfl⟩
    obtain ⟨k, hk, rfl⟩ := nats_get hi
    refine ⟨_, rfl, _, rfl, _, _, rfl, rfl, ⟨Int.natCast_nonneg _, ?_, by decide⟩, _, _, rfl, rfl, some (iv k), ?_, rfl⟩
    · have := hb k (List.mem_of_getElem? hk)
      show (k : Int) ≤ 1000000
      omega
    · show [some (V.ref a), some (V.int (Builtin.bitOr (setOf (l.take i) : Int) (1 * 2 ^ ((k : Int)).toNat))), some (iv k)] = _
      rw [shl_one, or_nat, ← setOf_take hk]
  · rintro σ H' ⟨x, rfl, rfl⟩
    rw [List.length_map, List.take_length]
    exact ⟨_, rfl, q⟩
abbrev s_many_in : Stmt := top 14
abbrev N_many_in : List Str := ["mask"]
theorem sc_many_in : FnScope N_many_in ["mask"] (defScope s_many_in) := ⟨rfl, rfl, rfl, by decide +kernel, rfl, by decide +kernel, by decide +kernel⟩
def spManyIn (T : Tbs) : Sp := fun vs H Q _ => ∃ m n : Nat, vs = [iv m] ∧ m < 2 ^ n ∧ n ≤ 1000 ∧ ∀ H', Ext T H H' → Q (iv (bits m n).length) H'
theorem ok_many_in (B : Blt mg) (D : DefAt K mg "many_in" s_many_in) (g_things_in : Calls P w K mg base 1 "things_in" ["mask"] (spThings T)) : Calls P w K mg base 2 "many_in" ["mask"] (spManyIn T) := by
  refine D.ok sc_many_in (fun vs H Q E h => ?_) (fun _ _ _ _ _ _ us hl => match us, hl with | [_], _ => rfl) (fun f cdv A outer s H vs Q E hr h => ?_)
  · obtain ⟨m, n, rfl, _⟩ := h; rfl
  obtain ⟨m, n, rfl, hm, hn, q⟩ := h
  refine ⟨_, (pss_one (ps_ret (pe_callB call_len_seq (by rfl) B.len PySem.boot_len (pa_cons (pe_callD g_things_in (hr.mono (by decide)) rfl (pa_cons (pv 0) pa_nil)) pa_nil)))), ?_⟩
  refine ⟨_, rfl, m, n, rfl, hm, hn, fun p H' e hp hL => ?_⟩
  refine ⟨p, _, rfl, .inl (SqL.of hL), ?_⟩
  rw [List.length_map]
  exact q H' e

/-! ### has_thing, ask_thing -/
abbrev s_has_thing : Stmt := top 17
abbrev N_has_thing : List Str := ["mask", "thing"]
theorem sc_has_thing : FnScope N_has_thing ["mask", "thing"] (defScope s_has_thing) := ⟨rfl, rfl, rfl, by decide +kernel, rfl, by decide +kernel, by decide +kernel⟩
def spHas : Sp := fun vs H Q _ => ∃ m t : Nat, vs = [iv m, iv t] ∧ Q (.bl (m.testBit t)) H
theorem ok_has_thing (D : DefAt K mg "has_thing" s_has_thing) : Calls P w K mg base 1 "has_thing" ["mask", "thing"] spHas := by
  refine D.ok sc_has_thing (fun vs H Q E h => ?_) (fun _ _ _ _ _ _ us hl => match us, hl with | [_, _], _ => rfl) (fun f cdv A outer s H vs Q E hr h => ?_)
  · obtain ⟨m, n, rfl, _⟩ := h; rfl
  obtain ⟨m, t, rfl, q⟩ := h
  refine ⟨_, (pss_one (ps_ret (pe_cmpR op_eq (pe_op op_and (pe_op op_shr (pv 0) (pv 1)) pe_int) pe_int (nomark _)))), ?_⟩
  refine ⟨_, rfl, _, rfl, _, _, rfl, rfl, Int.natCast_nonneg _, _, _, rfl, rfl, rfl, ?_⟩
  rw [bit_test]
  exact q
abbrev s_ask_thing : Stmt := top 18
abbrev N_ask_thing : List Str := ["many", "thing"]
theorem sc_ask_thing : FnScope N_ask_thing ["many", "thing"] (defScope s_ask_thing) := ⟨rfl, rfl, rfl, by decide +kernel, rfl, by decide +kernel, by decide +kernel⟩
def spAsk : Sp := fun vs H Q _ => ∃ n t : Nat, vs = [iv n, iv t] ∧ t < n ∧ Q .non H
theorem ok_ask_thing (D : DefAt K mg "ask_thing" s_ask_thing) : Calls P w K mg base 1 "ask_thing" ["many", "thing"] spAsk := by
  refine D.ok sc_ask_thing (fun vs H Q E h => ?_) (fun _ _ _ _ _ _ us hl => match us, hl with | [_, _], _ => rfl) (fun f cdv A outer s H vs Q E hr h => ?_)
  · obtain ⟨m, n, rfl, _⟩ := h; rfl
  obtain ⟨n, t, rfl, ht, q⟩ := h
  refine ⟨_, (pss_one (ps_if (PW.pt (pw_or (pt_cmpR op_lt (pv 1) pe_int (nomark _)) (pw_or1 (pt_cmpR op_ge (pv 1) (pv 0) (nomark _)))))
        pss_never
        pss_nil)), ?_⟩
  refine ⟨_, rfl, _, _, rfl, rfl, _, rfl, ?_⟩
  rw [show decide ((t : Int) < 0) = false from decide_eq_false (by omega)]
  refine iteF ⟨_, rfl, _, rfl, _, _, rfl, rfl, _, rfl, ?_⟩
  rw [show decide ((n : Int) ≤ (t : Int)) = false from decide_eq_false (by omega)]
  exact iteF q
end
end SW

/-! ## SwD -/
/-! Readings in short: comprehensions without new objects, lists of pairs and of lists. -/
namespace SW
open PySem PySem.Spec PyProof.Rows L2 Bits

/-- an expression, a test, an argument list that changes nothing known and gives v -/
def Vl (T : Tbs) (te : TE) (σ : L2.St) (H : Hp) (v : V) : Prop := ∀ Q : VK, (∀ H', Ext T H H' → Q v H') → te σ H Q
def Tl (T : Tbs) (tt : TT) (σ : L2.St) (H : Hp) (b : Bool) : Prop := ∀ Q : Bool → Hp → Prop, (∀ H', Ext T H H' → Q b H') → tt σ H Q
def Al (T : Tbs) (ta : TA) (σ : L2.St) (H : Hp) (vs : List V) : Prop := ∀ Q : List V → Hp → Prop, (∀ H', Ext T H H' → Q vs H') → ta σ H Q

/-! ### one step of a reading -/
section
variable {σ : L2.St} {H : Hp} {Q : VK} {D : Ends} {te ta tb : TE} {t u : TS} {c c2 : TT} {tr : TA} {r : R2} {rc : List V → Hp → VK → Prop} {sp : Sp} {dvs : List V} {E : XK} {B : Bool → Hp → Prop} {i : Nat}
theorem e_ret (h : te σ H D.rt) : tRet te D σ H := h
theorem e_seq (h : t { D with nx := u D } σ H) : tSeq t u D σ H := h
theorem e_set (h : te σ H fun x H1 => D.nx (σ.set i (some x)) H1) : tAsg te (gName i) D σ H := h
theorem e_drop (h : te σ H fun _ H1 => D.nx σ H1) : tDrop te D σ H := h
theorem e_cb (h : tr σ H fun vs H1 => rc vs H1 Q) : tCB rc tr σ H Q := h
theorem e_call (h : tr σ H fun vs H1 => sp (vs ++ dvs) H1 Q E) : tCall sp dvs E tr σ H Q := h
theorem e_cons {QA : List V → Hp → Prop} (h : ta σ H fun x H1 => tr σ H1 fun xs H2 => QA (x :: xs) H2) : tCons ta tr σ H QA := h
theorem e_op (h : ta σ H fun x H1 => tb σ H1 fun y H2 => r x y H2 Q) : tOp r ta tb σ H Q := h
theorem e_if (h : c σ H fun b H1 => if b = true then t D σ H1 else u D σ H1) : tIfS c t u D σ H := h
theorem e_tb (h : te σ H fun x H1 => ∃ b, x = .bl b ∧ B b H1) : tB te σ H B := h
theorem e_test (h : te σ H fun x H1 => ∃ b, x = .bl b ∧ B b H1) : tTest te σ H B := h
theorem e_and (h : c σ H fun b H1 => if b = true then c2 σ H1 B else B false H1) : tAnd c c2 σ H B := h
theorem e_or (h : c σ H fun b H1 => if b = true then B true H1 else c2 σ H1 B) : tOr c c2 σ H B := h
theorem e_not (h : c σ H fun b H1 => B (!b) H1) : tNot c σ H B := h
end
theorem filt_take {α : Type} {l : List α} {i : Nat} {x : α} (f : α → Bool) (h : l[i]? = some x) : (l.take (i + 1)).filter f = (l.take i).filter f ++ if f x = true then [x] else [] := by
  rw [List.take_add_one, h, Option.toList_some, List.filter_append]
  by_cases q : f x = true
  · rw [if_pos q, List.filter_cons_of_pos q]; rfl
  · rw [if_neg q, List.filter_cons_of_neg q]; rfl
theorem take_snoc {α : Type} {l : List α} {i : Nat} {x : α} (h : l[i]? = some x) : l.take (i + 1) = l.take i ++ [x] := by
  rw [List.take_add_one, h, Option.toList_some]

section
variable {T : Tbs} {K : PySem.W.Frag} {σ : L2.St} {H : Hp} {Q : VK} {tt : TT} {te tl : TE} {ta : TA} {vs : List Nat} {j : Nat} {α : Type}
/-- one turn of a comprehension's list D -/
theorem lc_turn {l : List α} {f : α → Bool} {v : α → V} {D : Addr} {i : Nat} {x : α} {H0 H' : Hp} {σ2 : L2.St} (hi : l[i]? = some x) (hz : l.length ≤ 40000) (hD0 : H0 D = none) (e : Ext T H0 H') (hD : H' D = some (.lst (((l.take i).filter f).map v)))
    (ht : Tl T tt σ2 H' (f x)) (he : f x = true → ∀ H1, Ext T H' H1 → Vl T te σ2 H1 (v x)) :
    tt σ2 H' fun b H3 => if b = true then te σ2 H3 fun y H4 => ∃ acc, H4 D = some (.lst acc) ∧ acc.length < sizeLine ∧ (Ext T H0 (upd H4 D (.lst (acc ++ [y]))) ∧ upd H4 D (.lst (acc ++ [y])) D = some (.lst (((l.take (i + 1)).filter f).map v)))
      else (Ext T H0 H3 ∧ H3 D = some (.lst (((l.take (i + 1)).filter f).map v))) := by
  refine ht _ fun H3 e3 => ?_
  cases hf : f x with
  | true =>
    refine iteT (he hf H3 e3 _ fun H4 e4 => ?_)
    refine ⟨_, e4.lst (e3.lst hD), ?_, ((e.trans e3).trans e4).mutL hD0 (e4.lst (e3.lst hD)), ?_⟩
    · rw [List.length_map]
      have h1 := List.length_filter_le f (l.take i)
      have h2 : (l.take i).length ≤ l.length := by rw [List.length_take]; omega
      exact smallt (by omega)
    · rw [upd_same, filt_take f hi, if_pos hf, List.map_append]
      rfl
  | false =>
    refine iteF ⟨e.trans e3, ?_⟩
    rw [filt_take f hi, if_neg (by rw [hf]; decide), List.append_nil]
    exact e3.lst hD
/-- [v(i) for i in range(n) if f(i)] -/
theorem lc_rng (n : Nat) (f : Nat → Bool) (v : Nat → V) (hn : n ≤ 40000) (ha : Al T ta σ H [iv n]) (hw : ∀ x, wipe ((wipe σ vs).set j (some x)) vs = wipe σ vs)
    (ht : ∀ i H1, i < n → Ext T H H1 → Tl T tt ((wipe σ vs).set j (some (iv i))) H1 (f i)) (he : ∀ i H1, i < n → f i = true → Ext T H H1 → Vl T te ((wipe σ vs).set j (some (iv i))) H1 (v i))
    (q : ∀ p H', Ext T H H' → H p = none → H' p = some (.lst (((List.range n).filter f).map v)) → Q (.ref p) H') : tLc (iRng1 ta) (gName j) tt te vs σ H Q := by
  refine ha _ fun H1 e1 => ⟨_, rfl, by omega, by omega, fun D hD => ?_⟩
  rw [toNat_nat]
  refine lc_range (lo := 0) (n := n) (fun i H' => Ext T H1 H' ∧ H' D = some (.lst ((((List.range n).take i).filter f).map v))) ⟨.new hD, upd_same⟩ (fun i H' hi ⟨e2, hL⟩ => ?_) fun H' ⟨e2, hL⟩ => ?_
  · have hi' : (List.range n)[i]? = some i := by rw [List.getElem?_range hi]
    show wipe ((wipe σ vs).set j (some (.int ((0 : Int) + (i : Int))))) vs = wipe σ vs ∧ _
    rw [Int.zero_add]
    exact ⟨hw _, lc_turn hi' (by rw [List.length_range]; exact hn) hD e2 hL (ht i H' hi (e1.trans e2)) fun hf H3 e3 => he i H3 hi hf ((e1.trans e2).trans e3)⟩
  · refine q D H' (e1.trans e2) (e1.back hD) ?_
    rw [List.take_of_length_le (by rw [List.length_range]; exact Nat.le_refl _)] at hL
    exact hL
/-- [v(x) for x in xs if f(x)], xs a list that stands or a new one -/
theorem lc_ls (l : List α) (g : α → V) (f : α → Bool) (v : α → V) (hn : l.length ≤ 40000) (ha : ∀ R : VK, (∀ p H', Ext T H H' → SqL K H' p (l.map g) → R (.ref p) H') → tl σ H R) (hw : ∀ x, wipe ((wipe σ vs).set j (some x)) vs = wipe σ vs)
    (ht : ∀ (i : Nat) x H1, l[i]? = some x → Ext T H H1 → Tl T tt ((wipe σ vs).set j (some (g x))) H1 (f x)) (he : ∀ (i : Nat) x H1, l[i]? = some x → f x = true → Ext T H H1 → Vl T te ((wipe σ vs).set j (some (g x))) H1 (v x))
    (q : ∀ p H', Ext T H H' → H p = none → H' p = some (.lst ((l.filter f).map v)) → Q (.ref p) H') : tLc (iList K tl) (gName j) tt te vs σ H Q := by
  refine ha _ fun a H1 e1 hS => ⟨a, rfl, ⟨_, hS⟩, fun D hD => ?_⟩
  refine lc_list (xs := l.map g) (fun i H' => Ext T H1 H' ∧ H' D = some (.lst (((l.take i).filter f).map v))) ⟨.new hD, upd_same⟩ (fun i H' _ ⟨e2, _⟩ => e2.sl hS) (fun i y H' hi ⟨e2, hL⟩ => ?_) fun H' ⟨e2, hL⟩ => ?_
  · rw [List.getElem?_map] at hi
    cases hx : l[i]? with
    | none => rw [hx] at hi; cases hi
    | some x =>
      rw [hx] at hi
      have hy : g x = y := Option.some.inj hi
      subst hy
      exact ⟨hw _, lc_turn hx hn hD e2 hL (ht i x H' hx (e1.trans e2)) fun hf H3 e3 => he i x H3 hx hf ((e1.trans e2).trans e3)⟩
  · refine q D H' (e1.trans e2) (e1.back hD) ?_
    rw [List.length_map, List.take_length] at hL
    exact hL
/-- the same over a tuple -/
theorem lc_tp (l : List α) (g : α → V) (f : α → Bool) (v : α → V) (hn : l.length ≤ 40000) (ha : ∀ R : VK, (∀ p H', Ext T H H' → SqT K H' p (l.map g) → R (.ref p) H') → tl σ H R) (hw : ∀ x, wipe ((wipe σ vs).set j (some x)) vs = wipe σ vs)
    (ht : ∀ (i : Nat) x H1, l[i]? = some x → Ext T H H1 → Tl T tt ((wipe σ vs).set j (some (g x))) H1 (f x)) (he : ∀ (i : Nat) x H1, l[i]? = some x → f x = true → Ext T H H1 → Vl T te ((wipe σ vs).set j (some (g x))) H1 (v x))
    (q : ∀ p H', Ext T H H' → H p = none → H' p = some (.lst ((l.filter f).map v)) → Q (.ref p) H') : tLc (iTup K tl) (gName j) tt te vs σ H Q := by
  refine ha _ fun a H1 e1 hS => ⟨a, rfl, ⟨_, hS⟩, fun D hD => ?_⟩
  refine lc_tup (xs := l.map g) (fun i H' => Ext T H1 H' ∧ H' D = some (.lst (((l.take i).filter f).map v))) ⟨.new hD, upd_same⟩ (fun i H' _ ⟨e2, _⟩ => e2.st hS) (fun i y H' hi ⟨e2, hL⟩ => ?_) fun H' ⟨e2, hL⟩ => ?_
  · rw [List.getElem?_map] at hi
    cases hx : l[i]? with
    | none => rw [hx] at hi; cases hi
    | some x =>
      rw [hx] at hi
      have hy : g x = y := Option.some.inj hi
      subst hy
      exact ⟨hw _, lc_turn hx hn hD e2 hL (ht i x H' hx (e1.trans e2)) fun hf H3 e3 => he i x H3 hx hf ((e1.trans e2).trans e3)⟩
  · refine q D H' (e1.trans e2) (e1.back hD) ?_
    rw [List.length_map, List.take_length] at hL
    exact hL
theorem filter_yes (l : List α) : l.filter (fun _ => true) = l := List.filter_eq_self.mpr fun _ _ => rfl
theorem tl_yes : Tl T tYes σ H true := fun _ q => q H .refl
theorem vl_var {v : V} {i : Nat} (h : σ[i]? = some (some v)) : Vl T (tVar i) σ H v := fun _ q => ⟨v, h, q H .refl⟩
/-- len(order), order a tuple in slot i -/
theorem al_lenT {i : Nat} {a : Addr} {xs : List V} (h : σ[i]? = some (some (.ref a))) (hS : SqT K H a xs) :
    Al T (tCons (tCB (rLenK K) (tCons (tVar i) tNil)) tNil) σ H [iv xs.length] := fun _ q =>
  ⟨_, h, a, xs, rfl, .inr hS, q H .refl⟩
/-! ### loops -/
theorem for_rng {tb : TS} {D : Ends} (n : Nat) (hn : n ≤ 1000000) (ha : Al T ta σ H [iv n]) (Pv : Nat → L2.St → Hp → Prop) (h0 : ∀ H1, Ext T H H1 → Pv 0 σ H1)
    (hs : ∀ i σ H, i < n → Pv i σ H → tb { D with nx := Pv (i + 1), ct := Pv (i + 1), bk := D.nx } (σ.set j (some (iv i))) H) (hd : ∀ σ H, Pv n σ H → D.nx σ H) : tFor (iRng1 ta) (gName j) tb D σ H := by
  refine ha _ fun H1 e1 => ⟨_, rfl, by omega, by omega, ?_⟩
  rw [toNat_nat]
  refine for_range (lo := 0) (n := n) Pv (h0 H1 e1) (fun i σ H hi hp => ?_) hd
  show tb _ (σ.set j (some (.int ((0 : Int) + (i : Int))))) H
  rw [Int.zero_add]
  exact hs i σ H hi hp
end

/-! ### lists of things that are told one by one -/
def LstOf {α : Type} (R : Hp → V → α → Prop) (H : Hp) (p : Addr) (xs : List α) : Prop := ∃ vs, H p = some (.lst vs) ∧ Paired (R H) vs xs
def IsPr (H : Hp) (v : V) (x : Nat × Nat) : Prop := ∃ q, v = .ref q ∧ H q = some (.tup [iv x.1, iv x.2])
def IsNs (H : Hp) (v : V) (l : List Nat) : Prop := ∃ q, v = .ref q ∧ H q = some (.lst (nats l))
section
variable {α : Type} {T : Tbs} {H H' : Hp} {p : Addr}
theorem IsPr.ext {v : V} {x : Nat × Nat} (e : Ext T H H') (h : IsPr H v x) : IsPr H' v x := by
  obtain ⟨q, rfl, h⟩ := h
  exact ⟨q, rfl, e.tup h⟩
theorem IsNs.ext {v : V} {x : List Nat} (e : Ext T H H') (h : IsNs H v x) : IsNs H' v x := by
  obtain ⟨q, rfl, h⟩ := h
  exact ⟨q, rfl, e.lst h⟩
theorem Pd.imp {α β : Type} {F G : α → β → Prop} : ∀ {l₁ : List α} {l₂ : List β}, Paired F l₁ l₂ → (∀ a b, F a b → G a b) → Paired G l₁ l₂
  | _, _, .nil, _ => .nil
  | _, _, .cons r t, f => .cons (f _ _ r) (Pd.imp t f)
theorem Pd.snoc {α β : Type} {F : α → β → Prop} {a : α} {b : β} (r : F a b) : ∀ {l₁ : List α} {l₂ : List β}, Paired F l₁ l₂ → Paired F (l₁ ++ [a]) (l₂ ++ [b])
  | _, _, .nil => .cons r .nil
  | _, _, .cons q t => .cons q (Pd.snoc r t)
theorem Pd.len {α β : Type} {F : α → β → Prop} : ∀ {l₁ : List α} {l₂ : List β}, Paired F l₁ l₂ → l₁.length = l₂.length
  | _, _, .nil => rfl
  | _, _, .cons _ t => congrArg (· + 1) (Pd.len t)
theorem Pd.get {α β : Type} {F : α → β → Prop} : ∀ {l₁ : List α} {l₂ : List β} {i : Nat} {a : α}, Paired F l₁ l₂ → l₁[i]? = some a → ∃ b, l₂[i]? = some b ∧ F a b
  | _, _, _, _, .nil, h => by simp at h
  | _, _, 0, _, .cons (b := b) r _, h => by
    have e : _ = _ := Option.some.inj h
    subst e
    exact ⟨b, rfl, r⟩
  | _, _, i + 1, _, .cons _ t, h => by
    obtain ⟨b, h1, h2⟩ := Pd.get (i := i) t h
    exact ⟨b, h1, h2⟩
theorem Pd.got {α β : Type} {F : α → β → Prop} : ∀ {l₁ : List α} {l₂ : List β} {i : Nat} {b : β}, Paired F l₁ l₂ → l₂[i]? = some b → ∃ a, l₁[i]? = some a ∧ F a b
  | _, _, _, _, .nil, h => by simp at h
  | _, _, 0, _, .cons (a := a) r _, h => by
    have e : _ = _ := Option.some.inj h
    subst e
    exact ⟨a, rfl, r⟩
  | _, _, i + 1, _, .cons _ t, h => by
    obtain ⟨b, h1, h2⟩ := Pd.got (i := i) t h
    exact ⟨b, h1, h2⟩
theorem LstOf.ext {R : Hp → V → α → Prop} (hR : ∀ v x, R H v x → R H' v x) {xs : List α} (e : Ext T H H') (h : LstOf R H p xs) : LstOf R H' p xs := by
  obtain ⟨vs, h1, h2⟩ := h
  exact ⟨vs, e.lst h1, Pd.imp h2 hR⟩
end
end SW

/-! ## SwM1 -/
/-! Orders as lists of masks: the mathematics, with no program in sight. -/
namespace SW
def le (O : List Nat) (a b : Nat) : Bool := (O.getD b 0).testBit a
structure IsOrd (O : List Nat) : Prop where
  bd : ∀ b, O.getD b 0 < 2 ^ O.length
  rf : ∀ b, b < O.length → le O b b = true
  an : ∀ a b, le O a b = true → le O b a = true → a = b
  tr : ∀ a b c, le O a b = true → le O b c = true → le O a c = true
/-- Warshall's filling, as the program does it in place -/
def wB (k : Nat) (M : List Nat) (b : Nat) : List Nat := if (M.getD b 0).testBit k = true then M.set b (M.getD b 0 ||| M.getD k 0) else M
def wK (M : List Nat) (k : Nat) : List Nat := (List.range M.length).foldl (wB k) M
def clos (M : List Nat) : List Nat := (List.range M.length).foldl wK M
def stP (S : List Nat) (x : Nat × Nat) : List Nat := S.set x.2 (S.getD x.2 0 ||| 2 ^ x.1)
def strt (n : Nat) (ps : List (Nat × Nat)) : List Nat := ps.foldl stP (List.replicate n 0)
def madeO (n : Nat) (ps : List (Nat × Nat)) : List Nat := (List.range n).map fun b => (clos (strt n ps)).getD b 0 ||| 2 ^ b
theorem wB_len (k : Nat) (M : List Nat) (b : Nat) : (wB k M b).length = M.length := by
  unfold wB; split
  · rw [List.length_set]
  · rfl
theorem foldl_len {β : Type} (f : List Nat → β → List Nat) (hf : ∀ M b, (f M b).length = M.length) : ∀ (l : List β) (M : List Nat), (l.foldl f M).length = M.length
  | [], _ => rfl
  | b :: r, M => by rw [List.foldl_cons, foldl_len f hf r, hf]
theorem wK_len (M : List Nat) (k : Nat) : (wK M k).length = M.length := foldl_len (wB k) (wB_len k) _ M
theorem clos_len (M : List Nat) : (clos M).length = M.length := foldl_len wK wK_len _ M
theorem stP_len (S : List Nat) (x : Nat × Nat) : (stP S x).length = S.length := by unfold stP; rw [List.length_set]
theorem strt_len (n : Nat) (ps : List (Nat × Nat)) : (strt n ps).length = n := by
  unfold strt; rw [foldl_len stP stP_len, List.length_replicate]
theorem madeO_len (n : Nat) (ps : List (Nat × Nat)) : (madeO n ps).length = n := by unfold madeO; rw [List.length_map, List.length_range]

/-! ### Warshall -/
theorem getD_set (M : List Nat) (b v i : Nat) (h : b < M.length) : (M.set b v).getD i 0 = if i = b then v else M.getD i 0 := by
  rw [List.getD_eq_getElem?_getD, List.getD_eq_getElem?_getD, List.getElem?_set]
  by_cases q : b = i
  · subst q; rw [if_pos rfl, if_pos h, if_pos rfl]; rfl
  · rw [if_neg q, if_neg (fun e => q e.symm)]
/-- one column: every row that has k takes k's row; k's own row has no k -/
theorem wK_inner (k : Nat) (M : List Nat) (hk : le M k k = false) : ∀ t, t ≤ M.length → ∀ b, ((List.range t).foldl (wB k) M).getD b 0 = if b < t ∧ le M k b = true then M.getD b 0 ||| M.getD k 0 else M.getD b 0
  | 0, _, b => by simp
  | t + 1, ht, b => by
    have ih := wK_inner k M hk t (by omega)
    rw [List.range_succ, List.foldl_append, List.foldl_cons, List.foldl_nil]
    have hl : ((List.range t).foldl (wB k) M).length = M.length := foldl_len (wB k) (wB_len k) _ M
    have ht0 : ((List.range t).foldl (wB k) M).getD t 0 = M.getD t 0 := by rw [ih, if_neg (by omega)]
    have hk0 : ((List.range t).foldl (wB k) M).getD k 0 = M.getD k 0 := by
      rw [ih]; split
      · rename_i h; rw [hk] at h; cases h.2
      · rfl
    generalize (List.range t).foldl (wB k) M = N at ih hl ht0 hk0 ⊢
    unfold wB
    rw [ht0, hk0]
    by_cases c : (M.getD t 0).testBit k = true
    · rw [if_pos c, getD_set _ _ _ _ (by rw [hl]; omega)]
      by_cases q : b = t
      · subst q; rw [if_pos rfl, if_pos ⟨by omega, c⟩]
      · rw [if_neg q, ih]
        by_cases d : b < t ∧ le M k b = true
        · rw [if_pos d, if_pos ⟨by omega, d.2⟩]
        · rw [if_neg d, if_neg (fun z => d ⟨by omega, z.2⟩)]
    · rw [if_neg c, ih]
      by_cases d : b < t ∧ le M k b = true
      · rw [if_pos d, if_pos ⟨by omega, d.2⟩]
      · rw [if_neg d, if_neg (fun z => d ⟨by
          rcases Nat.lt_or_ge b t with h | h
          · exact h
          · have : b = t := by omega
            subst this
            exact absurd z.2 c, z.2⟩)]
theorem wK_get (k : Nat) (M : List Nat) (hk : le M k k = false) (b : Nat) : (wK M k).getD b 0 = if le M k b = true then M.getD b 0 ||| M.getD k 0 else M.getD b 0 := by
  unfold wK
  rw [wK_inner k M hk M.length (Nat.le_refl _)]
  by_cases d : le M k b = true
  · have hb : b < M.length := by
      rcases Nat.lt_or_ge b M.length with h | h
      · exact h
      · unfold le at d
        rw [List.getD_eq_getElem?_getD, List.getElem?_eq_none h] at d
        simp at d
    rw [if_pos d, if_pos ⟨hb, d⟩]
  · rw [if_neg d, if_neg (fun z => d z.2)]
theorem wK_le (k : Nat) (M : List Nat) (hk : le M k k = false) (a b : Nat) : le (wK M k) a b = (le M a b || (le M k b && le M a k)) := by
  unfold le
  rw [wK_get k M hk]
  by_cases d : le M k b = true
  · rw [if_pos d, Nat.testBit_or]
    unfold le at d
    rw [d]; simp
  · rw [if_neg d]
    have d' : (M.getD b 0).testBit k = false := by unfold le at d; simpa using d
    rw [d']; simp
/-- what the filling gives within a strict order R that has the pairs: at column t all ways over the things below t -/
theorem clos_fill (M : List Nat) (R : Nat → Nat → Prop) (irr : ∀ a, ¬ R a a) (tr : ∀ a b c, R a b → R b c → R a c) (sub : ∀ a b, le M a b = true → R a b) :
    ∀ t, t ≤ M.length → (∀ a b, le ((List.range t).foldl wK M) a b = true → R a b) ∧ (∀ a b, le M a b = true → le ((List.range t).foldl wK M) a b = true) ∧
      (∀ a c b, c < t → le ((List.range t).foldl wK M) a c = true → le ((List.range t).foldl wK M) c b = true → le ((List.range t).foldl wK M) a b = true)
  | 0, _ => ⟨sub, fun _ _ h => h, fun _ _ _ h => absurd h (by omega)⟩
  | t + 1, ht => by
    obtain ⟨h1, h2, h3⟩ := clos_fill M R irr tr sub t (by omega)
    rw [List.range_succ, List.foldl_append, List.foldl_cons, List.foldl_nil]
    generalize (List.range t).foldl wK M = N at h1 h2 h3 ⊢
    have hk : le N t t = false := by
      cases q : le N t t with
      | false => rfl
      | true => exact absurd (h1 _ _ q) (irr t)
    have key := wK_le t N hk
    refine ⟨fun a b h => ?_, fun a b h => ?_, fun a c b hc x y => ?_⟩
    · rw [key, Bool.or_eq_true, Bool.and_eq_true] at h
      rcases h with h | ⟨h, h'⟩
      · exact h1 _ _ h
      · exact tr _ _ _ (h1 _ _ h') (h1 _ _ h)
    · rw [key, h2 a b h]; rfl
    · rw [key, Bool.or_eq_true, Bool.and_eq_true] at x y ⊢
      rcases Nat.lt_or_ge c t with q | q
      · rcases x with x | ⟨x, x'⟩
        · rcases y with y | ⟨y, y'⟩
          · exact .inl (h3 a c b q x y)
          · exact .inr ⟨y, h3 a c t q x y'⟩
        · rcases y with y | ⟨y, y'⟩
          · exact .inr ⟨h3 t c b q x y, x'⟩
          · exact .inr ⟨y, x'⟩
      · have e : c = t := by omega
        subst e
        rcases x with x | ⟨x, x'⟩
        · rcases y with y | ⟨y, y'⟩
          · exact .inr ⟨y, x⟩
          · exact .inr ⟨y, x⟩
        · rw [hk] at x; cases x
/-- the bits of the straight pairs -/
theorem strt_le (n : Nat) (ps : List (Nat × Nat)) (h : ∀ x ∈ ps, x.2 < n) (a b : Nat) : le (strt n ps) a b = decide ((a, b) ∈ ps) := by
  have key : ∀ (ps : List (Nat × Nat)) (S : List Nat), S.length = n → (∀ x ∈ ps, x.2 < n) → le (ps.foldl stP S) a b = (le S a b || decide ((a, b) ∈ ps)) := by
    intro ps
    induction ps with
    | nil => intro S _ _; simp
    | cons x r ih =>
      intro S hS hx
      rw [List.foldl_cons, ih _ (by rw [stP_len, hS]) fun y hy => hx y (List.mem_cons_of_mem _ hy)]
      have e : le (stP S x) a b = (le S a b || decide ((a, b) = x)) := by
        unfold le stP
        rw [getD_set _ _ _ _ (by rw [hS]; exact hx x List.mem_cons_self)]
        by_cases q : b = x.2
        · rw [if_pos q, Nat.testBit_or, Nat.testBit_two_pow, q]
          by_cases q2 : x.1 = a
          · subst q2; simp
          · have : ¬ (a, x.2) = x := fun z => q2 (by rw [← z])
            simp [q2, this]
        · rw [if_neg q]
          have : ¬ (a, b) = x := fun z => q (by rw [← z])
          simp [this]
      rw [e, Bool.or_assoc]
      congr 1
      by_cases q : (a, b) = x
      · subst q; simp
      · simp [q]
  unfold strt
  rw [key ps _ (List.length_replicate ..) h]
  have : le (List.replicate n 0) a b = false := by
    unfold le
    have : (List.replicate n 0).getD b 0 = 0 := by
      rw [List.getD_eq_getElem?_getD, List.getElem?_replicate]; split <;> rfl
    rw [this, Nat.zero_testBit]
  rw [this, Bool.false_or]

/-! ### covers -/
def cov (O : List Nat) (a b : Nat) : Bool := decide (a ≠ b) && (le O a b && (List.range O.length).all fun c => !(decide (c ≠ a) && (decide (c ≠ b) && (le O c b && le O a c))))
def nexts (O : List Nat) : List (Nat × Nat) := (List.range O.length).flatMap fun a => ((List.range O.length).filter (cov O a)).map fun b => (a, b)
theorem le_bd {O : List Nat} (h : IsOrd O) {a b : Nat} (hl : le O a b = true) : a < O.length ∧ b < O.length := by
  constructor
  · rcases Nat.lt_or_ge a O.length with q | q
    · exact q
    · unfold le at hl
      rw [Nat.testBit_lt_two_pow (Nat.lt_of_lt_of_le (h.bd b) (Nat.pow_le_pow_right (by decide) q))] at hl
      cases hl
  · rcases Nat.lt_or_ge b O.length with q | q
    · exact q
    · unfold le at hl
      rw [List.getD_eq_getElem?_getD, List.getElem?_eq_none q] at hl
      simp at hl
theorem mem_nexts {O : List Nat} {a b : Nat} : (a, b) ∈ nexts O ↔ a < O.length ∧ b < O.length ∧ cov O a b = true := by
  unfold nexts
  simp only [List.mem_flatMap, List.mem_map, List.mem_filter, List.mem_range]
  constructor
  · rintro ⟨x, hx, y, ⟨hy, hc⟩, e⟩
    injection e with e1 e2
    subst e1 e2
    exact ⟨hx, hy, hc⟩
  · rintro ⟨ha, hb, hc⟩
    exact ⟨a, ha, b, ⟨hb, hc⟩, rfl⟩
theorem cov_iff {O : List Nat} (h : IsOrd O) {a b : Nat} : cov O a b = true ↔ a ≠ b ∧ le O a b = true ∧ ∀ c, c ≠ a → c ≠ b → le O c b = true → le O a c = true → False := by
  unfold cov
  rw [Bool.and_eq_true, Bool.and_eq_true, decide_eq_true_eq, List.all_eq_true]
  constructor
  · rintro ⟨h1, h2, h3⟩
    refine ⟨h1, h2, fun c c1 c2 c3 c4 => ?_⟩
    have := h3 c (List.mem_range.mpr (le_bd h c3).1)
    simp [c1, c2, c3, c4] at this
  · rintro ⟨h1, h2, h3⟩
    refine ⟨h1, h2, fun c _ => ?_⟩
    cases q : (decide (c ≠ a) && (decide (c ≠ b) && (le O c b && le O a c))) with
    | false => rfl
    | true =>
      simp only [Bool.and_eq_true, decide_eq_true_eq] at q
      exact absurd (h3 c q.1 q.2.1 q.2.2.1 q.2.2.2) (by simp)
/-- how many things lie between -/
def gap (O : List Nat) (a b : Nat) : Nat := ((List.range O.length).filter fun c => le O a c && le O c b).length
theorem filter_len_lt {α : Type} (p q : α → Bool) (l : List α) (hpq : ∀ x ∈ l, p x = true → q x = true) (x : α) (hx : x ∈ l) (h1 : q x = true) (h2 : p x = false) : (l.filter p).length < (l.filter q).length := by
  induction l with
  | nil => cases hx
  | cons y r ih =>
    have mono : ∀ (r : List α), (∀ x ∈ r, p x = true → q x = true) → (r.filter p).length ≤ (r.filter q).length := by
      intro r hr
      induction r with
      | nil => exact Nat.le_refl _
      | cons z t ih2 =>
        have iht := ih2 fun x hx => hr x (List.mem_cons_of_mem _ hx)
        by_cases hz : p z = true
        · rw [List.filter_cons_of_pos hz, List.filter_cons_of_pos (hr z List.mem_cons_self hz)]
          exact Nat.succ_le_succ iht
        · rw [List.filter_cons_of_neg hz]
          by_cases hq : q z = true
          · rw [List.filter_cons_of_pos hq]; exact Nat.le_succ_of_le iht
          · rw [List.filter_cons_of_neg hq]; exact iht
    rcases List.mem_cons.mp hx with e | hx
    · subst e
      rw [List.filter_cons_of_neg (by rw [h2]; decide), List.filter_cons_of_pos h1]
      exact Nat.lt_succ_of_le (mono r fun z hz => hpq z (List.mem_cons_of_mem _ hz))
    · have ih' := ih (fun z hz => hpq z (List.mem_cons_of_mem _ hz)) hx
      by_cases hy : p y = true
      · rw [List.filter_cons_of_pos hy, List.filter_cons_of_pos (hpq y List.mem_cons_self hy)]
        exact Nat.succ_lt_succ ih'
      · rw [List.filter_cons_of_neg hy]
        by_cases hq : q y = true
        · rw [List.filter_cons_of_pos hq]; exact Nat.lt_succ_of_lt ih'
        · rw [List.filter_cons_of_neg hq]; exact ih'
/-- a relation that has the covers and is transitive has every strict pair -/
theorem covers_gen {O : List Nat} (h : IsOrd O) (S : Nat → Nat → Prop) (hc : ∀ a b, cov O a b = true → S a b) (tr : ∀ a b c, S a b → S b c → S a c) : ∀ (f a b : Nat), gap O a b ≤ f → a ≠ b → le O a b = true → S a b := by
  intro f
  induction f with
  | zero =>
    intro a b hf hn hl
    have hm : a ∈ (List.range O.length).filter fun c => le O a c && le O c b :=
      List.mem_filter.mpr ⟨List.mem_range.mpr (le_bd h hl).1, by rw [h.rf a (le_bd h hl).1, hl]; rfl⟩
    have hz : ((List.range O.length).filter fun c => le O a c && le O c b).length = 0 := by
      unfold gap at hf
      omega
    rw [List.eq_nil_of_length_eq_zero hz] at hm
    cases hm
  | succ f ih =>
    intro a b hf hn hl
    cases q : cov O a b with
    | true => exact hc a b q
    | false =>
      have : ¬ (a ≠ b ∧ le O a b = true ∧ ∀ c, c ≠ a → c ≠ b → le O c b = true → le O a c = true → False) := fun z => by
        rw [(cov_iff h).mpr z] at q; cases q
      have hex : ∃ c, c ≠ a ∧ c ≠ b ∧ le O c b = true ∧ le O a c = true := by
        refine Classical.byContradiction fun hno => this ⟨hn, hl, fun c c1 c2 c3 c4 => hno ⟨c, c1, c2, c3, c4⟩⟩
      obtain ⟨c, c1, c2, c3, c4⟩ := hex
      have g1 : gap O a c < gap O a b := by
        refine filter_len_lt _ _ _ (fun x _ hx => ?_) b (List.mem_range.mpr (le_bd h hl).2) ?_ ?_
        · rw [Bool.and_eq_true] at hx ⊢
          exact ⟨hx.1, h.tr _ _ _ hx.2 c3⟩
        · rw [hl, h.rf b (le_bd h hl).2]; rfl
        · cases z : le O b c with
          | false => rw [Bool.and_false]
          | true => exact absurd (h.an _ _ c3 z) c2
      have g2 : gap O c b < gap O a b := by
        refine filter_len_lt _ _ _ (fun x _ hx => ?_) a (List.mem_range.mpr (le_bd h hl).1) ?_ ?_
        · rw [Bool.and_eq_true] at hx ⊢
          exact ⟨h.tr _ _ _ c4 hx.1, hx.2⟩
        · rw [hl, h.rf a (le_bd h hl).1]; rfl
        · cases z : le O c a with
          | false => rfl
          | true => exact absurd (h.an _ _ z c4) c1
      exact tr _ _ _ (ih a c (by omega) (fun e => c1 e.symm) c4) (ih c b (by omega) c2 c3)
theorem ext_bits {L M : List Nat} (hl : L.length = M.length) (h : ∀ a b, le L a b = le M a b) : L = M := by
  apply List.ext_getElem hl
  intro i h1 h2
  apply Nat.eq_of_testBit_eq
  intro a
  have := h a i
  unfold le at this
  rw [List.getD_eq_getElem?_getD, List.getD_eq_getElem?_getD, List.getElem?_eq_getElem h1, List.getElem?_eq_getElem h2] at this
  exact this
/-- pairs that tell an order -/
structure Tells (ps : List (Nat × Nat)) (O : List Nat) : Prop where
  sub : ∀ x ∈ ps, x.1 ≠ x.2 ∧ le O x.1 x.2 = true
  cvs : ∀ x ∈ nexts O, x ∈ ps
theorem tells_clos {O : List Nat} (h : IsOrd O) {ps : List (Nat × Nat)} (t : Tells ps O) (a b : Nat) : le (clos (strt O.length ps)) a b = (decide (a ≠ b) && le O a b) := by
  have hb : ∀ x ∈ ps, x.2 < O.length := fun x hx => (le_bd h (t.sub x hx).2).2
  have st := strt_le O.length ps hb
  have hR := clos_fill (strt O.length ps) (fun a b => a ≠ b ∧ le O a b = true) (fun a z => z.1 rfl)
    (fun a b c x y => ⟨fun e => by
      subst e
      exact x.1 (h.an _ _ x.2 y.2), h.tr _ _ _ x.2 y.2⟩) (fun a b z => t.sub _ (of_decide_eq_true (by rw [← st]; exact z))) (strt O.length ps).length (Nat.le_refl _)
  obtain ⟨h1, h2, h3⟩ := hR
  have e : clos (strt O.length ps) = (List.range (strt O.length ps).length).foldl wK (strt O.length ps) := rfl
  rw [← e] at h1 h2 h3
  have bdd : ∀ a b, le (clos (strt O.length ps)) a b = true → b < (strt O.length ps).length ∧ a < (strt O.length ps).length := fun a b z => by
    rw [strt_len]
    exact ⟨(le_bd h (h1 a b z).2).2, (le_bd h (h1 a b z).2).1⟩
  cases q : le (clos (strt O.length ps)) a b with
  | true =>
    obtain ⟨z1, z2⟩ := h1 a b q
    rw [z2, decide_eq_true z1]; rfl
  | false =>
    cases r : (decide (a ≠ b) && le O a b) with
    | false => rfl
    | true =>
      rw [Bool.and_eq_true, decide_eq_true_eq] at r
      have := covers_gen h (fun a b => le (clos (strt O.length ps)) a b = true) (fun a b hc => h2 a b (by
        rw [st]
        have := (cov_iff h).mp hc
        exact decide_eq_true (t.cvs _ (mem_nexts.mpr ⟨(le_bd h this.2.1).1, (le_bd h this.2.1).2, hc⟩)))) (fun a b c x y => h3 a b c (bdd _ _ x).1 x y) _ a b (Nat.le_refl _) r.1 r.2
      rw [this] at q
      cases q
theorem tells_made {O : List Nat} (h : IsOrd O) {ps : List (Nat × Nat)} (t : Tells ps O) : madeO O.length ps = O ∧ ∀ b, le (clos (strt O.length ps)) b b = false := by
  have key := tells_clos h t
  refine ⟨ext_bits (madeO_len ..) fun a b => ?_, fun b => by rw [key]; simp⟩
  rcases Nat.lt_or_ge b O.length with hb | hb
  · have e : le (madeO O.length ps) a b = (le (clos (strt O.length ps)) a b || decide (b = a)) := by
      unfold le madeO
      rw [List.getD_eq_getElem?_getD, List.getElem?_map, List.getElem?_range hb]
      show ((clos (strt O.length ps)).getD b 0 ||| 2 ^ b).testBit a = _
      rw [Nat.testBit_or, Nat.testBit_two_pow]
    rw [e, key]
    by_cases q : a = b
    · subst q; rw [h.rf a hb]; simp
    · have q' : ¬ b = a := fun z => q z.symm
      simp [q, q']
  · have e : ∀ L : List Nat, L.length = O.length → le L a b = false := fun L hL => by
      unfold le
      rw [List.getD_eq_getElem?_getD, List.getElem?_eq_none (by omega)]
      simp
    rw [e _ (madeO_len ..), e _ rfl]
end SW

/-! ## SwE -/
/-! orders.py. -/
namespace SW
open PySem PySem.Spec PyProof.Rows L2 Bits

theorem ixN_nat {n b : Nat} (h : b < n) : ixN n (b : Int) = some b := by
  unfold ixN
  rw [if_pos (by omega), if_pos (by omega), toNat_nat]
theorem at_nats {M : List Nat} {b : Nat} (h : b < M.length) : atI (nats M) (b : Int) = some (iv (M.getD b 0)) := by
  refine atI_nat ?_
  rw [List.getElem?_map, List.getElem?_eq_getElem h, List.getD_eq_getElem?_getD, List.getElem?_eq_getElem h]
  rfl
theorem nats_set (M : List Nat) (b v : Nat) : (nats M).set b (iv v) = nats (M.set b v) := by
  unfold nats
  rw [List.map_set]
theorem nats_len (M : List Nat) : (nats M).length = M.length := List.length_map ..
section
variable {P : Program} {w : World} {K : PySem.W.Frag} {mg : Str → Option Value} {base : Heap} {T : Tbs}
/-- len(xs), xs a list in slot i -/
theorem al_lenL {σ : L2.St} {H : Hp} {i : Nat} {a : Addr} {xs : List V} (h : σ[i]? = some (some (.ref a))) (hS : SqL K H a xs) :
    Al T (tCons (tCB (rLenK K) (tCons (tVar i) tNil)) tNil) σ H [iv xs.length] := fun _ q =>
  ⟨_, h, a, xs, rfl, .inl hS, q H .refl⟩
theorem al_lenN {σ : L2.St} {H : Hp} {i n : Nat} {a : Addr} {N : List Nat} (h : σ[i]? = some (some (.ref a))) (hS : SqL K H a (nats N)) (e : N.length = n) :
    Al T (tCons (tCB (rLenK K) (tCons (tVar i) tNil)) tNil) σ H [iv n] := by
  rw [← e, ← nats_len N]
  exact al_lenL h hS
theorem al_var {σ : L2.St} {H : Hp} {i : Nat} {v : V} (h : σ[i]? = some (some v)) : Al T (tCons (tVar i) tNil) σ H [v] := fun _ q => ⟨_, h, q H .refl⟩

/-! ### closed_under -/
abbrev s_closed_under : Stmt := top 19
abbrev N_closed_under : List Str := ["masks", "k", "b"]
theorem sc_closed_under : FnScope N_closed_under ["masks"] (defScope s_closed_under) := ⟨rfl, rfl, rfl, by decide +kernel, rfl, by decide +kernel, by decide +kernel⟩
-- slots: 0 masks, 1 k, 2 b
def spClosed (T : Tbs) (K : PySem.W.Frag) : Sp := fun vs H Q _ => ∃ (a : Addr) (M : List Nat), vs = [.ref a] ∧ SqL K H a (nats M) ∧ M.length ≤ 1000 ∧ RetNs T H Q (clos M)
theorem ok_closed_under (B : Blt mg) (D : DefAt K mg "closed_under" s_closed_under) (g_has_thing : Calls P w K mg base 1 "has_thing" ["mask", "thing"] spHas) :
    Calls P w K mg base 2 "closed_under" ["masks"] (spClosed T K) := by
  refine D.ok sc_closed_under (fun vs H Q E h => ?_) (fun _ _ _ _ _ _ us hl => match us, hl with | [_], _ => rfl) (fun f cdv A outer s H vs Q E hr h => ?_)
  · obtain ⟨a, M, rfl, hS, hz, q⟩ := h; rfl
  obtain ⟨a, M, rfl, hS, hz, q⟩ := h
  have nd := sc_closed_under.nd
  have hu := hu_of hr
  refine ⟨_, (pss_cons (ps_set (i := 0) nd rfl (Or.inl rfl) (pe_callTy (r := rListK K) call_listK (by rfl) B.list (by decide +kernel) (pa_cons (pv 0) pa_nil)))
      (pss_cons (ps_for PassesOwn.never rfl (pi_range1 (by rfl) B.range (pa_cons (pe_callB (r := rLenK K) call_lenK (by rfl) B.len PySem.boot_len (pa_cons (pv 0) pa_nil)) pa_nil)) (pg_name (i := 1) nd rfl (Or.inl rfl))
        (pss_one (ps_for PassesOwn.never rfl (pi_range1 (by rfl) B.range (pa_cons (pe_callB (r := rLenK K) call_lenK (by rfl) B.len PySem.boot_len (pa_cons (pv 0) pa_nil)) pa_nil)) (pg_name (i := 2) nd rfl (Or.inl rfl))
          (pss_one (ps_if (pt_val (pe_callD g_has_thing (hr.mono (by decide)) rfl (pa_cons (pe_ix (r := rIxL K) ix_list (pv 0) (pv 2) (fun _ _ => rfl)) (pa_cons (pv 1) pa_nil))))
            (pss_one (ps_asg (pe_op op_or (pe_ix (r := rIxL K) ix_list (pv 0) (pv 2) (fun _ _ => rfl)) (pe_ix (r := rIxL K) ix_list (pv 0) (pv 1) (fun _ _ => rfl))) (pg_sub (pv 0) (pv 2) set_list)))
            pss_nil)))))
      (pss_one (ps_ret (pv 0))))), ?_⟩
  refine ⟨_, rfl, a, _, rfl, .inl hS, fun l hl => ?_⟩
  have el : ∀ k, ((List.range k).foldl wK M).length = M.length := fun k => foldl_len wK wK_len _ M
  refine for_rng (T := T) M.length (by omega) (al_lenN rfl (SqL.of upd_same) rfl) (fun k σ H' => ∃ x y, σ = [some (.ref l), x, y] ∧ Ext T H H' ∧ H' l = some (.lst (nats ((List.range k).foldl wK M)))) ?_ ?_ ?_
  · intro H1 e1
    exact ⟨none, none, rfl, Ext.trans (.new hl) e1, e1.lst upd_same⟩
  · rintro k σ H1 hk ⟨x, y, rfl, e1, hL⟩
    refine for_rng (T := T) M.length (by omega) (al_lenN rfl (SqL.of hL) (el k)) (fun b σ H' => ∃ y, σ = [some (.ref l), some (iv k), y] ∧ Ext T H H' ∧ H' l = some (.lst (nats ((List.range b).foldl (wB k) ((List.range k).foldl wK M))))) ?_ ?_ ?_
    · intro H2 e2
      exact ⟨y, rfl, e1.trans e2, e2.lst hL⟩
    · rintro b σ H2 hb ⟨y, rfl, e2, hL2⟩
      have en : ((List.range b).foldl (wB k) ((List.range k).foldl wK M)).length = M.length := by rw [foldl_len (wB k) (wB_len k), el]
      have es : (List.range (b + 1)).foldl (wB k) ((List.range k).foldl wK M) = wB k ((List.range b).foldl (wB k) ((List.range k).foldl wK M)) b := by
        rw [List.range_succ, List.foldl_append]; rfl
      rw [es]
      generalize (List.range b).foldl (wB k) ((List.range k).foldl wK M) = N at en hL2 ⊢
      have hb' : b < N.length := by omega
      have hk' : k < N.length := by omega
      refine ⟨_, rfl, _, rfl, l, _, _, _, rfl, rfl, SqL.of hL2, at_nats hb', _, rfl, _, _, rfl, _, rfl, ?_⟩
      refine ite2 (fun hc => ?_) (fun hc => ?_)
      · refine ⟨_, rfl, _, rfl, l, _, _, _, rfl, rfl, SqL.of hL2, at_nats hb', _, rfl, _, rfl, l, _, _, _, rfl, rfl, SqL.of hL2, at_nats hk', _, _, rfl, rfl, _, rfl, _, rfl, l, _, _, b, rfl, rfl, hL2, ixN_nat (by rw [nats_len]; exact hb'), _, rfl, e2.mutL hl hL2, ?_⟩
        show upd H2 l (.lst ((nats N).set b (V.int (Builtin.bitOr (N.getD b 0 : Nat) (N.getD k 0 : Nat))))) l = _
        rw [upd_same, or_nat, nats_set]
        unfold wB
        rw [if_pos hc]
      · refine ⟨_, rfl, e2, ?_⟩
        unfold wB
        rw [if_neg hc]
        exact hL2
    · rintro σ H2 ⟨y, rfl, e2, hL2⟩
      refine ⟨_, _, rfl, e2, ?_⟩
      rw [List.range_succ, List.foldl_append, List.foldl_cons, List.foldl_nil]
      show H2 l = some (.lst (nats ((List.range ((List.range k).foldl wK M).length).foldl (wB k) ((List.range k).foldl wK M))))
      rw [el k]
      exact hL2
  · rintro σ H1 ⟨x, y, rfl, e1, hL⟩
    exact ⟨_, rfl, q l H1 e1 hl hL⟩

/-! ### made_order -/
structure Cst (mg : Str → Option Value) : Prop where
  cMOST_THINGS : ∃ u, mg "MOST_THINGS" = some u ∧ RelV (.int 16) u
  cMOST : ∃ u, mg "MOST" = some u ∧ RelV (.int 16) u
  cLETTERS : ∃ u, mg "LETTERS" = some u ∧ RelV (.str "abcdefghijklmnopqrstuvwxyz") u
  cLONGEST : ∃ u, mg "LONGEST" = some u ∧ RelV (.int 8) u
theorem or_bit (m t : Nat) : Builtin.bitOr (m : Int) (1 * 2 ^ ((t : Int)).toNat) = ((m ||| 2 ^ t : Nat) : Int) := by
  rw [shl_one, or_nat]
theorem cpow1 {t : Nat} (h : t ≤ 1000000) : CPow 1 (t : Int) := ⟨Int.natCast_nonneg _, by omega, by decide⟩
theorem rep_nats (n : Nat) : (List.replicate ((n : Int)).toNat [V.int 0]).flatten = nats (List.replicate n 0) := by
  rw [toNat_nat, List.flatten_replicate_singleton]
  unfold nats
  rw [List.map_replicate]
  rfl
theorem len_dec_lt (n : Nat) : decide ((n : Int) < 0) = false := decide_eq_false (by omega)
abbrev s_made_order : Stmt := top 21
abbrev N_made_order : List Str := ["many", "pairs", "straight", "a", "b", "closed", "thing"]
theorem sc_made_order : FnScope N_made_order ["many", "pairs"] (defScope s_made_order) := ⟨rfl, rfl, rfl, by decide +kernel, rfl, by decide +kernel, by decide +kernel⟩
-- slots: 0 many, 1 pairs, 2 straight, 3 a, 4 b, 5 closed, 6 thing
def spMade (T : Tbs) : Sp := fun vs H Q _ => ∃ (n : Nat) (p : Addr) (ps : List (Nat × Nat)), vs = [iv n, .ref p] ∧ n ≤ 16 ∧ LstOf IsPr H p ps ∧ (∀ x ∈ ps, x.1 < n ∧ x.2 < n) ∧ (∀ b, le (clos (strt n ps)) b b = false) ∧
  ∀ q H', Ext T H H' → H q = none → H' q = some (.tup (nats (madeO n ps))) → Q (.ref q) H'
theorem ok_made_order (B : Blt mg) (G : Cst mg) (D : DefAt K mg "made_order" s_made_order) (g_has_thing : Calls P w K mg base 1 "has_thing" ["mask", "thing"] spHas) (g_ask_thing : Calls P w K mg base 1 "ask_thing" ["many", "thing"] spAsk)
    (g_closed_under : Calls P w K mg base 2 "closed_under" ["masks"] (spClosed T K)) : Calls P w K mg base 3 "made_order" ["many", "pairs"] (spMade T) := by
  refine D.ok sc_made_order (fun vs H Q E h => ?_) (fun _ _ _ _ _ _ us hl => match us, hl with | [_, _], _ => rfl) (fun f cdv A outer s H vs Q E hr h => ?_)
  · obtain ⟨n, p, ps, rfl, hn, hP, hb, hs, q⟩ := h; rfl
  obtain ⟨n, p, ps, rfl, hn, hP, hb, hs, q⟩ := h
  have nd := sc_made_order.nd
  have hu := hu_of hr
  refine ⟨_, (pss_cons (ps_if (PW.pt (pw_or (pt_cmpR op_lt (pv 0) pe_int (nomark _)) (pw_or1 (pt_cmpR op_gt (pv 0) (pe_cst G.cMOST_THINGS rfl) (nomark _)))))
        pss_never
        pss_nil)
      (pss_cons (ps_set (i := 2) nd rfl (Or.inl rfl) (pe_op op_rep (pe_lst (pa_cons pe_int pa_nil)) (pv 0)))
      (pss_cons (ps_for PassesOwn.never rfl (pi_list (pv 1)) (pg_tup rfl (pgs_cons (pg_name (i := 3) nd rfl (Or.inl rfl)) (pgs_cons (pg_name (i := 4) nd rfl (Or.inl rfl)) pgs_nil)))
        (pss_cons (ps_expr (pe_callD g_ask_thing (hr.mono (by decide)) rfl (pa_cons (pv 0) (pa_cons (pv 3) pa_nil))))
        (pss_cons (ps_expr (pe_callD g_ask_thing (hr.mono (by decide)) rfl (pa_cons (pv 0) (pa_cons (pv 4) pa_nil))))
        (pss_one (ps_asg (pe_op op_or (pe_ix (r := rIxL K) ix_list (pv 2) (pv 4) (fun _ _ => rfl)) (pe_op op_shl pe_int (pv 3))) (pg_sub (pv 2) (pv 4) set_list))))))
      (pss_cons (ps_set (i := 5) nd rfl (Or.inr rfl) (pe_callD g_closed_under (hr.mono (by decide)) rfl (pa_cons (pv 2) pa_nil)))
      (pss_cons (ps_for PassesOwn.never rfl (pi_range1 (by rfl) B.range (pa_cons (pv 0) pa_nil)) (pg_name (i := 6) nd rfl (Or.inl rfl))
        (pss_one (ps_if (pt_val (pe_callD g_has_thing (hr.mono (by decide)) rfl (pa_cons (pe_ix (r := rIxL K) ix_list (pv 5) (pv 6) (fun _ _ => rfl)) (pa_cons (pv 6) pa_nil))))
          pss_never
          pss_nil)))
      (pss_one (ps_ret (pe_callTy call_tuple_of (by rfl) B.tuple (by decide +kernel) (pa_cons (pe_lc (own := [("b", 4)]) (g := gName 4) rfl nd (pi_range1 (by rfl) B.range (pa_cons (pv 0) pa_nil)) (blkOk_by (own := [("b", 4)]) (N := N_made_order) (sc := defScope s_made_order) (by decide +kernel)) (fun _ _ _ _ _ => pg_name (i := 4) nd rfl (Or.inl rfl)) (fun _ _ _ _ _ => pts_nil) (fun _ _ _ _ _ => (pe_op op_or (pe_ix (r := rIxL K) ix_list (pv 5) (pv 4) (fun _ _ => rfl)) (pe_op op_shl pe_int (pv 4))))) pa_nil))))))))), ?_⟩
  refine ⟨_, rfl, _, _, rfl, rfl, _, rfl, ?_⟩
  rw [len_dec_lt]
  refine iteF ⟨_, rfl, _, _, rfl, rfl, _, rfl, ?_⟩
  rw [show decide ((16 : Int) < (n : Int)) = false from decide_eq_false (by omega)]
  refine iteF ?_
  refine ⟨by decide, fun l0 hl0 => ⟨_, rfl, l0, _, _, rfl, rfl, upd_same, by omega, by omega, ?_, fun l hl => ?_⟩⟩
  · show 1 * ((n : Int)).toNat ≤ sizeLine
    rw [toNat_nat]
    exact small (by omega)
  rw [rep_nats]
  have e0 : Ext T H (upd (upd H l0 (.lst [iv 0])) l (.lst (nats (List.replicate n 0)))) := Ext.trans (.new hl0) (.new hl)
  have hlH : H l = none := (Ext.new (T := T) hl0).back hl
  obtain ⟨qs, hq, hpd⟩ := hP
  have len_st : ∀ i, ((ps.take i).foldl stP (List.replicate n 0)).length = n := fun i => by rw [foldl_len stP stP_len, List.length_replicate]
  refine ⟨_, rfl, p, rfl, ⟨_, SqL.of (e0.lst hq)⟩, for_list (xs := qs) (fun i σ H' => ∃ x y z u, σ = [some (iv n), some (.ref p), some (.ref l), x, y, z, u] ∧ Ext T H H' ∧ H' l = some (.lst (nats ((ps.take i).foldl stP (List.replicate n 0)))))
    ⟨none, none, none, none, rfl, e0, upd_same⟩ (fun i σ H' _ ⟨_, _, _, _, _, e, _⟩ => SqL.of (e.lst hq)) ?_ ?_⟩
  · rintro i v σ H1 hi ⟨x, y, z, u, rfl, e, hL⟩
    obtain ⟨pr, hpr, r⟩ := Pd.get hpd hi
    obtain ⟨tq, rfl, ht⟩ := r
    obtain ⟨a, b⟩ := pr
    have hm := hb (a, b) (List.mem_of_getElem? hpr)
    refine ⟨tq, _, rfl, SqT.of (e.tup ht), rfl, _, _, rfl, _, _, rfl, rfl, ?_⟩
    refine ⟨_, rfl, _, rfl, n, a, rfl, hm.1, ?_⟩
    refine ⟨_, rfl, _, rfl, n, b, rfl, hm.2, ?_⟩
    have hbl : b < ((ps.take i).foldl stP (List.replicate n 0)).length := by rw [len_st]; exact hm.2
    refine ⟨_, rfl, _, rfl, l, _, _, _, rfl, rfl, SqL.of hL, at_nats hbl, _, rfl, _, _, rfl, rfl, cpow1 (by omega), _, _, rfl, rfl, _, rfl, _, rfl, l, _, _, b, rfl, rfl, hL, ixN_nat (by rw [nats_len]; exact hbl), ?_⟩
    refine ⟨some (iv a), some (iv b), z, u, rfl, e.mutL hlH hL, ?_⟩
    show upd H1 l (.lst ((nats _).set b (V.int (Builtin.bitOr _ _)))) l = _
    rw [upd_same, or_bit, nats_set, take_snoc hpr, List.foldl_append]
    rfl
  · rintro σ H1 ⟨x, y, z, u, rfl, e, hL⟩
    rw [Pd.len hpd, List.take_length] at hL
    -- closed = closed_under(straight)
    refine ⟨_, rfl, l, strt n ps, rfl, SqL.of hL, by rw [strt_len]; omega, fun c H2 e2 hc hC => ?_⟩
    have hcH : H c = none := e.back hc
    have e3 : Ext T H H2 := e.trans e2
    have cl : (clos (strt n ps)).length = n := by rw [clos_len, strt_len]
    have hg : ∀ i, i < n → atI (nats (clos (strt n ps))) (i : Int) = some (iv ((clos (strt n ps)).getD i 0)) := fun i hi => at_nats (by rw [cl]; exact hi)
    refine for_rng (T := T) n (by omega) (al_var rfl) (fun i σ H' => ∃ y', σ = [some (iv n), some (.ref p), some (.ref l), x, y, some (.ref c), y'] ∧ Ext T H H' ∧ H' c = some (.lst (nats (clos (strt n ps))))) ?_ ?_ ?_
    · intro H3 e4
      exact ⟨u, rfl, e3.trans e4, e4.lst hC⟩
    · rintro i σ H3 hi ⟨y', rfl, e4, hC4⟩
      refine ⟨_, rfl, _, rfl, c, _, _, _, rfl, rfl, SqL.of hC4, hg i hi, _, rfl, _, _, rfl, _, rfl, ?_⟩
      rw [show ((clos (strt n ps)).getD i 0).testBit i = false from hs i]
      exact iteF ⟨_, rfl, e4, hC4⟩
    · rintro σ H3 ⟨y', rfl, e4, hC4⟩
      -- the new tuple
      try dsimp only
      refine e_ret (e_cb (e_cons (lc_rng (T := T) n (fun _ => true) (fun b => iv ((clos (strt n ps)).getD b 0 ||| 2 ^ b)) (by omega) (al_var rfl) (fun _ => rfl) (fun _ _ _ _ => tl_yes) ?_ ?_)))
      · intro i H4 hi _ e5 R r
        refine ⟨_, rfl, _, rfl, c, _, _, _, rfl, rfl, SqL.of (e5.lst hC4), hg i hi, _, rfl, _, _, rfl, rfl, cpow1 (by omega), _, _, rfl, rfl, ?_⟩
        show R (V.int (Builtin.bitOr _ _)) H4
        rw [or_bit]
        exact r H4 .refl
      · intro p2 H4 e5 hp2 hL2
        refine ⟨p2, _, rfl, .inl ⟨SqL.of hL2, fun q2 hq2 => ?_⟩⟩
        refine q q2 _ (Ext.newer (e4.trans e5) hq2) ((e4.trans e5).back hq2) ?_
        rw [upd_same, filter_yes]
        unfold madeO nats
        rw [List.map_map]
        rfl

/-! ### above, between, next_pairs, least_things -/
theorem at_natsI {M : List Nat} {b : Nat} {i : Int} (e : i = (b : Int)) (h : b < M.length) : atI (nats M) i = some (iv (M.getD b 0)) := by
  rw [e]; exact at_nats h
/-- an order handed in: the tuple of its masks -/
structure OrdAt (K : PySem.W.Frag) (H : Hp) (a : Addr) (O : List Nat) : Prop where
  tup : SqT K H a (nats O)
  len : O.length ≤ 16
  bd : ∀ b, O.getD b 0 < 2 ^ O.length
theorem OrdAt.ext {H H' : Hp} {a : Addr} {O : List Nat} (e : Ext T H H') (h : OrdAt K H a O) : OrdAt K H' a O := ⟨e.st h.tup, h.len, h.bd⟩
theorem OrdAt.ix {H : Hp} {a : Addr} {O : List Nat} (h : OrdAt K H a O) {b : Nat} (hb : b < O.length) {Q : VK} (q : Q (iv (O.getD b 0)) H) : rIxT K (.ref a) (iv b) H Q :=
  ⟨a, _, _, _, rfl, rfl, h.tup, at_nats hb, q⟩
theorem al_lenO {σ : L2.St} {H : Hp} {i : Nat} {a : Addr} {O : List Nat} (h : σ[i]? = some (some (.ref a))) (hS : OrdAt K H a O) : Al T (tCons (tCB (rLenK K) (tCons (tVar i) tNil)) tNil) σ H [iv O.length] := by
  rw [← nats_len O]
  exact al_lenT h hS.tup
def upOf (O : List Nat) (a : Nat) : List Nat := (List.range O.length).filter fun b => decide (b ≠ a) && le O a b
abbrev s_above : Stmt := top 22
abbrev N_above : List Str := ["order", "a", "b"]
theorem sc_above : FnScope N_above ["order", "a"] (defScope s_above) := ⟨rfl, rfl, rfl, by decide +kernel, rfl, by decide +kernel, by decide +kernel⟩
-- slots: 0 order, 1 a, 2 b
def spAbove (T : Tbs) (K : PySem.W.Frag) : Sp := fun vs H Q _ => ∃ (p : Addr) (O : List Nat) (a : Nat), vs = [.ref p, iv a] ∧ OrdAt K H p O ∧ a < O.length ∧ ∀ H', Ext T H H' → Q (iv (setOf (upOf O a))) H'
theorem dec_ne_iv (a b : Nat) : (!decide (V.int (a : Int) = V.int (b : Int))) = decide (a ≠ b) := by
  rw [dec_iv]
  by_cases h : a = b <;> simp [h]
theorem ok_above (B : Blt mg) (D : DefAt K mg "above" s_above) (g_has_thing : Calls P w K mg base 1 "has_thing" ["mask", "thing"] spHas) (g_ask_thing : Calls P w K mg base 1 "ask_thing" ["many", "thing"] spAsk)
    (g_set_of : Calls P w K mg base 1 "set_of" ["things"] (spSetOf K)) : Calls P w K mg base 2 "above" ["order", "a"] (spAbove T K) := by
  refine D.ok sc_above (fun vs H Q E h => ?_) (fun _ _ _ _ _ _ us hl => match us, hl with | [_, _], _ => rfl) (fun f cdv A outer s H vs Q E hr h => ?_)
  · obtain ⟨p, O, a, rfl, hO, ha, q⟩ := h; rfl
  obtain ⟨p, O, a, rfl, hO, ha, q⟩ := h
  have nd := sc_above.nd
  have hu := hu_of hr
  refine ⟨_, (pss_cons (ps_expr (pe_callD g_ask_thing (hr.mono (by decide)) rfl (pa_cons (pe_callB (r := rLenK K) call_lenK (by rfl) B.len PySem.boot_len (pa_cons (pv 0) pa_nil)) (pa_cons (pv 1) pa_nil))))
      (pss_one (ps_ret (pe_callD g_set_of (hr.mono (by decide)) rfl (pa_cons (pe_lc (own := [("b", 2)]) (g := gName 2) rfl nd (pi_range1 (by rfl) B.range (pa_cons (pe_callB (r := rLenK K) call_lenK (by rfl) B.len PySem.boot_len (pa_cons (pv 0) pa_nil)) pa_nil)) (blkOk_by (own := [("b", 2)]) (N := N_above) (sc := defScope s_above) (by decide +kernel)) (fun _ _ _ _ _ => pg_name (i := 2) nd rfl (Or.inl rfl)) (fun _ _ _ _ _ => pts_one (PW.pt (pw_and (pt_cmpR op_ne (pv 2) (pv 1) (nomark _)) (pw_and1 (pt_val (pe_callD g_has_thing (hr.mono (by decide)) rfl (pa_cons (pe_ix (r := rIxT K) ix_tup (pv 0) (pv 2) (fun _ _ => rfl)) (pa_cons (pv 1) pa_nil)))))))) (fun _ _ _ _ _ => (pv 2))) pa_nil))))), ?_⟩
  refine ⟨_, rfl, p, _, rfl, .inr hO.tup, _, rfl, O.length, a, by rw [nats_len]; rfl, ha, ?_⟩
  try dsimp only
  refine e_ret (e_call (e_cons (lc_rng (T := T) O.length (fun b => decide (b ≠ a) && le O a b) iv (by have := hO.len; omega) (al_lenO rfl hO) (fun _ => rfl) ?_ ?_ ?_)))
  · intro b H1 hb e1 R r
    refine ⟨_, rfl, _, rfl, rfl, _, rfl, ?_⟩
    rw [dec_ne_iv]
    refine ite2 (fun hc => ?_) (fun hc => ?_)
    · refine ⟨_, rfl, _, rfl, (hO.ext e1).ix hb ⟨_, rfl, _, _, rfl, _, rfl, ?_⟩⟩
      have := r H1 .refl
      rw [hc, Bool.true_and] at this
      exact this
    · have := r H1 .refl
      rw [Bool.not_eq_true] at hc
      rw [hc, Bool.false_and] at this
      first
        | exact this
        | (rw [hc]; exact this)
  · intro b H1 _ _ _ R r
    exact ⟨_, rfl, r H1 .refl⟩
  · intro p2 H1 e1 _ hL
    refine ⟨p2, upOf O a, rfl, SqL.of hL, fun i hi => ?_, q H1 e1⟩
    have := List.mem_range.mp (List.mem_filter.mp hi).1
    have := hO.len
    omega
def btw (O : List Nat) (a b : Nat) : List Nat := (bits (O.getD b 0) O.length).filter fun c => le O a c
abbrev s_between : Stmt := top 23
abbrev N_between : List Str := ["order", "a", "b", "c"]
theorem sc_between : FnScope N_between ["order", "a", "b"] (defScope s_between) := ⟨rfl, rfl, rfl, by decide +kernel, rfl, by decide +kernel, by decide +kernel⟩
-- slots: 0 order, 1 a, 2 b, 3 c
def spBetween (T : Tbs) (K : PySem.W.Frag) : Sp := fun vs H Q _ => ∃ (p : Addr) (O : List Nat) (a b : Nat), vs = [.ref p, iv a, iv b] ∧ OrdAt K H p O ∧ a < O.length ∧ b < O.length ∧ ∀ H', Ext T H H' → Q (iv (setOf (btw O a b))) H'
theorem ok_between (B : Blt mg) (D : DefAt K mg "between" s_between) (g_has_thing : Calls P w K mg base 1 "has_thing" ["mask", "thing"] spHas) (g_ask_thing : Calls P w K mg base 1 "ask_thing" ["many", "thing"] spAsk)
    (g_set_of : Calls P w K mg base 1 "set_of" ["things"] (spSetOf K)) (g_things_in : Calls P w K mg base 1 "things_in" ["mask"] (spThings T)) : Calls P w K mg base 2 "between" ["order", "a", "b"] (spBetween T K) := by
  refine D.ok sc_between (fun vs H Q E h => ?_) (fun _ _ _ _ _ _ us hl => match us, hl with | [_, _, _], _ => rfl) (fun f cdv A outer s H vs Q E hr h => ?_)
  · obtain ⟨p, O, a, b, rfl, hO, ha, hb, q⟩ := h; rfl
  obtain ⟨p, O, a, b, rfl, hO, ha, hb, q⟩ := h
  have nd := sc_between.nd
  have hu := hu_of hr
  refine ⟨_, (pss_cons (ps_expr (pe_callD g_ask_thing (hr.mono (by decide)) rfl (pa_cons (pe_callB (r := rLenK K) call_lenK (by rfl) B.len PySem.boot_len (pa_cons (pv 0) pa_nil)) (pa_cons (pv 1) pa_nil))))
      (pss_cons (ps_expr (pe_callD g_ask_thing (hr.mono (by decide)) rfl (pa_cons (pe_callB (r := rLenK K) call_lenK (by rfl) B.len PySem.boot_len (pa_cons (pv 0) pa_nil)) (pa_cons (pv 2) pa_nil))))
      (pss_one (ps_ret (pe_callD g_set_of (hr.mono (by decide)) rfl (pa_cons (pe_lc (own := [("c", 3)]) (g := gName 3) rfl nd (pi_list (pe_callD g_things_in (hr.mono (by decide)) rfl (pa_cons (pe_ix (r := rIxT K) ix_tup (pv 0) (pv 2) (fun _ _ => rfl)) pa_nil))) (blkOk_by (own := [("c", 3)]) (N := N_between) (sc := defScope s_between) (by decide +kernel)) (fun _ _ _ _ _ => pg_name (i := 3) nd rfl (Or.inl rfl)) (fun _ _ _ _ _ => pts_one (pt_val (pe_callD g_has_thing (hr.mono (by decide)) rfl (pa_cons (pe_ix (r := rIxT K) ix_tup (pv 0) (pv 3) (fun _ _ => rfl)) (pa_cons (pv 1) pa_nil))))) (fun _ _ _ _ _ => (pv 3))) pa_nil)))))), ?_⟩
  refine ⟨_, rfl, p, _, rfl, .inr hO.tup, _, rfl, O.length, a, by rw [nats_len]; rfl, ha, ?_⟩
  refine ⟨_, rfl, p, _, rfl, .inr hO.tup, _, rfl, O.length, b, by rw [nats_len]; rfl, hb, ?_⟩
  try dsimp only
  refine e_ret (e_call (e_cons (lc_ls (T := T) (K := K) (bits (O.getD b 0) O.length) iv (fun c => le O a c) iv (by have := bits_len (O.getD b 0) O.length; have := hO.len; omega) ?_ (fun _ => rfl) ?_ ?_ ?_)))
  · intro R r
    exact ⟨_, rfl, _, rfl, hO.ix hb ⟨_, O.length, rfl, hO.bd b, by have := hO.len; omega, fun p2 H1 e1 _ hL => r p2 H1 e1 (SqL.of hL)⟩⟩
  · intro i c H1 hc e1 R r
    have hcn : c < O.length := (mem_bits.mp (List.mem_of_getElem? hc)).1
    exact ⟨_, rfl, _, rfl, (hO.ext e1).ix hcn ⟨_, rfl, _, _, rfl, _, rfl, r H1 .refl⟩⟩
  · intro i c H1 _ _ _ R r
    exact ⟨_, rfl, r H1 .refl⟩
  · intro p2 H1 e1 _ hL
    refine ⟨p2, btw O a b, rfl, SqL.of hL, fun i hi => ?_, q H1 e1⟩
    have := (mem_bits.mp (List.mem_filter.mp hi).1).1
    have := hO.len
    omega
def leasts (O : List Nat) : List Nat := (List.range O.length).filter fun b => decide (O.getD b 0 = 2 ^ b)
abbrev s_least_things : Stmt := top 25
abbrev N_least_things : List Str := ["order", "b"]
theorem sc_least_things : FnScope N_least_things ["order"] (defScope s_least_things) := ⟨rfl, rfl, rfl, by decide +kernel, rfl, by decide +kernel, by decide +kernel⟩
-- slots: 0 order, 1 b
def spLeast (T : Tbs) (K : PySem.W.Frag) : Sp := fun vs H Q _ => ∃ (p : Addr) (O : List Nat), vs = [.ref p] ∧ OrdAt K H p O ∧ ∀ H', Ext T H H' → Q (iv (setOf (leasts O))) H'
theorem ok_least_things (B : Blt mg) (D : DefAt K mg "least_things" s_least_things) (g_set_of : Calls P w K mg base 1 "set_of" ["things"] (spSetOf K)) : Calls P w K mg base 2 "least_things" ["order"] (spLeast T K) := by
  refine D.ok sc_least_things (fun vs H Q E h => ?_) (fun _ _ _ _ _ _ us hl => match us, hl with | [_], _ => rfl) (fun f cdv A outer s H vs Q E hr h => ?_)
  · obtain ⟨p, O, rfl, hO, q⟩ := h; rfl
  obtain ⟨p, O, rfl, hO, q⟩ := h
  have nd := sc_least_things.nd
  have hu := hu_of hr
  refine ⟨_, (pss_one (ps_ret (pe_callD g_set_of (hr.mono (by decide)) rfl (pa_cons (pe_lc (own := [("b", 1)]) (g := gName 1) rfl nd (pi_range1 (by rfl) B.range (pa_cons (pe_callB (r := rLenK K) call_lenK (by rfl) B.len PySem.boot_len (pa_cons (pv 0) pa_nil)) pa_nil)) (blkOk_by (own := [("b", 1)]) (N := N_least_things) (sc := defScope s_least_things) (by decide +kernel)) (fun _ _ _ _ _ => pg_name (i := 1) nd rfl (Or.inl rfl)) (fun _ _ _ _ _ => pts_one (pt_cmpR op_eq (pe_ix (r := rIxT K) ix_tup (pv 0) (pv 1) (fun _ _ => rfl)) (pe_op op_shl pe_int (pv 1)) (nomark _))) (fun _ _ _ _ _ => (pv 1))) pa_nil)))), ?_⟩
  try dsimp only
  refine e_ret (e_call (e_cons (lc_rng (T := T) O.length (fun b => decide (O.getD b 0 = 2 ^ b)) iv (by have := hO.len; omega) (al_lenO rfl hO) (fun _ => rfl) ?_ ?_ ?_)))
  · intro b H1 hb e1 R r
    refine ⟨_, rfl, _, rfl, (hO.ext e1).ix hb ⟨_, rfl, _, _, rfl, rfl, cpow1 (by have := hO.len; omega), rfl, _, rfl, ?_⟩⟩
    have := r H1 .refl
    rw [← dec_iv, ← shl_one] at this
    exact this
  · intro b H1 _ _ _ R r
    exact ⟨_, rfl, r H1 .refl⟩
  · intro p2 H1 e1 _ hL
    refine ⟨p2, leasts O, rfl, SqL.of hL, fun i hi => ?_, q H1 e1⟩
    have := List.mem_range.mp (List.mem_filter.mp hi).1
    have := hO.len
    omega
/-- what the program asks of a pair is what a cover is -/
theorem btw_cov {O : List Nat} (hb : ∀ b, O.getD b 0 < 2 ^ O.length) (hr : ∀ b, b < O.length → le O b b = true) {a b : Nat} (ha : a < O.length) (hbn : b < O.length) (hn : a ≠ b) : decide (setOf (btw O a b) = setOf [a, b]) = cov O a b := by
  have mb : ∀ c, c ∈ btw O a b ↔ le O c b = true ∧ le O a c = true := fun c => by
    unfold btw
    rw [List.mem_filter, mem_bits]
    refine ⟨fun h => ⟨h.1.2, h.2⟩, fun h => ⟨⟨bit_lt (hb b) h.1, h.1⟩, h.2⟩⟩
  cases q : cov O a b with
  | true =>
    unfold cov at q
    rw [Bool.and_eq_true, Bool.and_eq_true, List.all_eq_true] at q
    obtain ⟨_, q2, q3⟩ := q
    refine decide_eq_true (Nat.eq_of_testBit_eq fun i => ?_)
    rw [setOf_bit, setOf_bit]
    refine decide_eq_decide.mpr ?_
    rw [mb]
    constructor
    · rintro ⟨h1, h2⟩
      have h3 := q3 i (List.mem_range.mpr (bit_lt (hb b) h1))
      rw [h1, h2] at h3
      by_cases e1 : i = a
      · simp [e1]
      · by_cases e2 : i = b
        · simp [e2]
        · simp [e1, e2] at h3
    · intro h
      rcases List.mem_cons.mp h with e | h
      · subst e; exact ⟨q2, hr i ha⟩
      · have e := List.mem_singleton.mp h
        subst e; exact ⟨hr i hbn, q2⟩
  | false =>
    refine decide_eq_false fun e => ?_
    have key : ∀ i, (le O i b = true ∧ le O a i = true) ↔ i ∈ [a, b] := fun i => by
      have h1 : (setOf (btw O a b)).testBit i = (setOf [a, b]).testBit i := by rw [e]
      rw [setOf_bit, setOf_bit] at h1
      rw [← mb]
      exact decide_eq_decide.mp h1
    have h2 := (key a).mpr List.mem_cons_self
    have : cov O a b = true := by
      unfold cov
      rw [Bool.and_eq_true, Bool.and_eq_true, List.all_eq_true]
      refine ⟨decide_eq_true hn, h2.1, fun c _ => ?_⟩
      cases z : (decide (c ≠ a) && (decide (c ≠ b) && (le O c b && le O a c))) with
      | false => rfl
      | true =>
        simp only [Bool.and_eq_true, decide_eq_true_eq] at z
        have := (key c).mp ⟨z.2.2.1, z.2.2.2⟩
        rcases List.mem_cons.mp this with e | h
        · exact absurd e z.1
        · exact absurd (List.mem_singleton.mp h) z.2.1
    rw [this] at q
    cases q
end
end SW

/-! ## SwF -/
/-! next_pairs, and the same of the law. -/
namespace SW
open PySem PySem.Spec PyProof.Rows L2 Bits

theorem IsPr.upd {H : Hp} {l : Addr} {o : HO} {xs : List V} {v : V} {x : Nat × Nat} (hl : H l = some (.lst xs)) (h : IsPr H v x) : IsPr (upd H l o) v x := by
  obtain ⟨q, rfl, h⟩ := h
  exact ⟨q, rfl, by rw [upd_ne (ne_of h hl (by intro z; cases z))]; exact h⟩
/-- one more told thing behind a list -/
theorem LstOf.snoc {α : Type} {R : Hp → V → α → Prop} {H : Hp} {l : Addr} {xs : List α} {vs : List V} {v : V} {x : α} (hu : ∀ v x, R H v x → R (upd H l (.lst (vs ++ [v]))) v x)
    (hu' : ∀ u y, R H u y → R (upd H l (.lst (vs ++ [v]))) u y) (hp : Paired (R H) vs xs) (r : R H v x) : LstOf R (upd H l (.lst (vs ++ [v]))) l (xs ++ [x]) :=
  ⟨_, upd_same, Pd.snoc (hu' _ _ r) (Pd.imp hp hu')⟩
theorem prs_snoc {H : Hp} {l : Addr} {xs : List (Nat × Nat)} {vs : List V} {v : V} {x : Nat × Nat} (hl : H l = some (.lst vs)) (hp : Paired (IsPr H) vs xs) (r : IsPr H v x) : LstOf IsPr (upd H l (.lst (vs ++ [v]))) l (xs ++ [x]) :=
  ⟨_, upd_same, Pd.snoc (r.upd hl) (Pd.imp hp fun _ _ h => h.upd hl)⟩
/-- the rows of pairs so far: all of the things below a, and a's own below b -/
def nextsTo (O : List Nat) (a b : Nat) : List (Nat × Nat) := ((List.range a).flatMap fun a => ((List.range O.length).filter (cov O a)).map fun b => (a, b)) ++ ((List.range b).filter (cov O a)).map fun b => (a, b)
theorem nextsTo_step (O : List Nat) (a b : Nat) : nextsTo O a (b + 1) = nextsTo O a b ++ if cov O a b = true then [(a, b)] else [] := by
  unfold nextsTo
  rw [List.range_succ, List.filter_append, List.map_append, List.append_assoc]
  congr 2
  by_cases h : cov O a b = true
  · rw [if_pos h, List.filter_cons_of_pos h]; rfl
  · rw [if_neg h, List.filter_cons_of_neg h]; rfl
theorem nextsTo_row (O : List Nat) (a : Nat) : nextsTo O a O.length = nextsTo O (a + 1) 0 := by
  unfold nextsTo
  rw [List.range_succ (n := a), List.flatMap_append]
  simp
theorem nextsTo_all (O : List Nat) : nextsTo O O.length 0 = nexts O := by
  unfold nextsTo nexts
  simp
theorem nextsTo_nil (O : List Nat) : nextsTo O 0 0 = [] := rfl
theorem cov_len {O : List Nat} {a : Nat} : ((List.range O.length).filter (cov O a)).length ≤ O.length := by
  have h := List.length_filter_le (cov O a) (List.range O.length)
  rw [List.length_range] at h
  exact h
theorem nextsTo_len (O : List Nat) (a b : Nat) (hb : b ≤ O.length) : (nextsTo O a b).length ≤ a * O.length + b := by
  unfold nextsTo
  rw [List.length_append, List.length_map]
  have h1 : ∀ a, ((List.range a).flatMap fun a => ((List.range O.length).filter (cov O a)).map fun b => (a, b)).length ≤ a * O.length := by
    intro a
    induction a with
    | zero => simp
    | succ a ih =>
      rw [List.range_succ, List.flatMap_append, List.length_append, Nat.succ_mul]
      refine Nat.add_le_add ih ?_
      simp only [List.flatMap_cons, List.flatMap_nil, List.append_nil, List.length_map]
      exact cov_len
  have h2 : ((List.range b).filter (cov O a)).length ≤ b := by
    have h := List.length_filter_le (cov O a) (List.range b)
    rw [List.length_range] at h
    exact h
  have := h1 a
  omega
section
variable {P : Program} {w : World} {K : PySem.W.Frag} {mg : Str → Option Value} {base : Heap} {T : Tbs}
/-- a new list of pairs is handed back -/
def RetPrs (T : Tbs) (H : Hp) (Q : VK) (l : List (Nat × Nat)) : Prop := ∀ p H', Ext T H H' → H p = none → LstOf IsPr H' p l → Q (.ref p) H'
abbrev s_next_pairs : Stmt := top 24
abbrev N_next_pairs : List Str := ["order", "found", "a", "b"]
theorem sc_next_pairs : FnScope N_next_pairs ["order"] (defScope s_next_pairs) := ⟨rfl, rfl, rfl, by decide +kernel, rfl, by decide +kernel, by decide +kernel⟩
-- slots: 0 order, 1 found, 2 a, 3 b
def spNextPairs (T : Tbs) (K : PySem.W.Frag) : Sp := fun vs H Q _ => ∃ (p : Addr) (O : List Nat), vs = [.ref p] ∧ OrdAt K H p O ∧ (∀ b, b < O.length → le O b b = true) ∧ RetPrs T H Q (nexts O)
theorem ok_next_pairs (B : Blt mg) (D : DefAt K mg "next_pairs" s_next_pairs) (g_between : Calls P w K mg base 2 "between" ["order", "a", "b"] (spBetween T K)) (g_set_of : Calls P w K mg base 1 "set_of" ["things"] (spSetOf K)) :
    Calls P w K mg base 3 "next_pairs" ["order"] (spNextPairs T K) := by
  refine D.ok sc_next_pairs (fun vs H Q E h => ?_) (fun _ _ _ _ _ _ us hl => match us, hl with | [_], _ => rfl) (fun f cdv A outer s H vs Q E hr h => ?_)
  · obtain ⟨p, O, rfl, hO, hrf, q⟩ := h; rfl
  obtain ⟨p, O, rfl, hO, hrf, q⟩ := h
  have nd := sc_next_pairs.nd
  have hu := hu_of hr
  refine ⟨_, (pss_cons (ps_set (i := 1) nd rfl (Or.inl rfl) (pe_lst pa_nil))
      (pss_cons (ps_for PassesOwn.never rfl (pi_range1 (by rfl) B.range (pa_cons (pe_callB (r := rLenK K) call_lenK (by rfl) B.len PySem.boot_len (pa_cons (pv 0) pa_nil)) pa_nil)) (pg_name (i := 2) nd rfl (Or.inl rfl))
        (pss_one (ps_for PassesOwn.never rfl (pi_range1 (by rfl) B.range (pa_cons (pe_callB (r := rLenK K) call_lenK (by rfl) B.len PySem.boot_len (pa_cons (pv 0) pa_nil)) pa_nil)) (pg_name (i := 3) nd rfl (Or.inl rfl))
          (pss_one (ps_if (PW.pt (pw_and (pt_cmpR op_ne (pv 2) (pv 3) (nomark _)) (pw_and1 (pt_cmpR op_eq (pe_callD g_between (hr.mono (by decide)) rfl (pa_cons (pv 0) (pa_cons (pv 2) (pa_cons (pv 3) pa_nil)))) (pe_callD g_set_of (hr.mono (by decide)) rfl (pa_cons (pe_lst (pa_cons (pv 2) (pa_cons (pv 3) pa_nil))) pa_nil)) (nomark _)))))
            (pss_one (ps_expr (pe_bm PySem.F.plainAttrs_list PySem.F.slot_list_append PySem.F.type_list_append mt_append (pv 1) (pa_cons (pe_tup (pa_cons (pv 2) (pa_cons (pv 3) pa_nil))) pa_nil))))
            pss_nil)))))
      (pss_one (ps_ret (pv 1))))), ?_⟩
  have hlen := hO.len
  refine ⟨Nat.zero_le _, fun l hl => ?_⟩
  try dsimp only
  refine e_seq (for_rng (T := T) O.length (by omega) (al_lenO rfl (hO.ext (Ext.new (T := T) hl))) (fun a σ H' => ∃ x y, σ = [some (.ref p), some (.ref l), x, y] ∧ Ext T H H' ∧ LstOf IsPr H' l (nextsTo O a 0)) ?_ ?_ ?_)
  · intro H1 e1
    exact ⟨none, none, rfl, Ext.trans (.new hl) e1, [], e1.lst upd_same, .nil⟩
  · rintro a σ H1 ha ⟨x, y, rfl, e1, hL⟩
    refine for_rng (T := T) O.length (by omega) (al_lenO rfl (hO.ext e1)) (fun b σ H' => ∃ y, σ = [some (.ref p), some (.ref l), some (iv a), y] ∧ Ext T H H' ∧ LstOf IsPr H' l (nextsTo O a b)) ?_ ?_ ?_
    · intro H2 e2
      exact ⟨y, rfl, e1.trans e2, hL.ext (fun _ _ h => h.ext e2) e2⟩
    · rintro b σ H2 hb ⟨y, rfl, e2, hL2⟩
      obtain ⟨vs, hv, hpd⟩ := hL2
      have nl : vs.length < 100000 := by
        rw [Pd.len hpd]
        have h1 := nextsTo_len O a b (by omega)
        have h2 : a * O.length ≤ 16 * 16 := Nat.mul_le_mul (by omega) (by omega)
        omega
      refine ⟨_, rfl, _, rfl, rfl, _, rfl, ?_⟩
      rw [dec_ne_iv]
      refine ite2 (fun hc => ?_) (fun hc => ?_)
      · refine ⟨_, rfl, _, rfl, _, rfl, p, O, a, b, rfl, hO.ext e2, ha, hb, fun H3 e3 => ?_⟩
        refine ⟨_, rfl, _, rfl, ⟨(by show 2 ≤ sizeLine; decide), fun d hd => ?_⟩⟩
        refine ⟨d, [a, b], rfl, SqL.of upd_same, fun i hi => ?_, rfl, _, rfl, ?_⟩
        · rcases List.mem_cons.mp hi with e | hi
          · omega
          · have := List.mem_singleton.mp hi; omega
        rw [dec_iv, btw_cov hO.bd hrf ha hb (of_decide_eq_true hc)]
        have e4 : Ext T H2 (upd H3 d (.lst [iv a, iv b])) := Ext.newer e3 hd
        refine ite2 (fun hcv => ?_) (fun hcv => ?_)
        · refine ⟨_, rfl, .inl ⟨rfl, _, SqL.of (e4.lst hv)⟩, _, rfl, _, rfl, (by show 2 ≤ sizeLine; decide), fun t ht => ?_⟩
          have e5 : Ext T H2 (upd (upd H3 d (.lst [iv a, iv b])) t (.tup [iv a, iv b])) := Ext.newer e4 ht
          refine ⟨l, vs, _, rfl, rfl, e5.lst hv, smallt nl, _, rfl, (e2.trans e5).mutL hl (e5.lst hv), ?_⟩
          rw [nextsTo_step, if_pos hcv]
          exact prs_snoc (e5.lst hv) (Pd.imp hpd fun _ _ h => h.ext e5) ⟨t, rfl, upd_same⟩
        · refine ⟨_, rfl, e2.trans e4, ?_⟩
          rw [nextsTo_step, if_neg hcv, List.append_nil]
          exact ⟨vs, e4.lst hv, Pd.imp hpd fun _ _ h => h.ext e4⟩
      · refine ⟨_, rfl, e2, ?_⟩
        rw [nextsTo_step, if_neg, List.append_nil]
        · exact ⟨vs, hv, hpd⟩
        · intro z
          unfold cov at z
          rw [Bool.and_eq_true] at z
          exact hc z.1
    · rintro σ H2 ⟨y, rfl, e2, hL2⟩
      exact ⟨_, _, rfl, e2, by rw [← nextsTo_row]; exact hL2⟩
  · rintro σ H1 ⟨x, y, rfl, e1, hL⟩
    rw [nextsTo_all] at hL
    exact ⟨_, rfl, q l H1 e1 hl hL⟩
end
end SW

/-! ## SwG -/
/-! Tests and values that change nothing; the law's own covers. -/
namespace SW
open PySem PySem.Spec PyProof.Rows L2 Bits

theorem filt_range (f : Nat → Bool) (c : Nat) : (List.range (c + 1)).filter f = (List.range c).filter f ++ if f c = true then [c] else [] := by
  rw [List.range_succ, List.filter_append]
  by_cases h : f c = true
  · rw [if_pos h, List.filter_cons_of_pos h]; rfl
  · rw [if_neg h, List.filter_cons_of_neg h]; rfl
def Vv (te : TE) (σ : L2.St) (H : Hp) (v : V) : Prop := ∀ Q : VK, Q v H → te σ H Q
def Tt (tt : TT) (σ : L2.St) (H : Hp) (b : Bool) : Prop := ∀ B : Bool → Hp → Prop, B b H → tt σ H B
section
variable {σ : L2.St} {H : Hp} {ta tb te : TE} {c c2 : TT} {x y z v : V} {b1 b2 b3 : Bool} {K : PySem.W.Frag}
theorem vv_var {i : Nat} (h : σ[i]? = some (some v)) : Vv (tVar i) σ H v := fun _ q => ⟨v, h, q⟩
theorem vv_c : Vv (tC v) σ H v := fun _ q => q
theorem vv_op {r : R2} (ha : Vv ta σ H x) (hb : Vv tb σ H y) (hr : ∀ Q : VK, Q z H → r x y H Q) : Vv (tOp r ta tb) σ H z := fun Q q => ha _ (hb _ (hr Q q))
theorem vv_I0 {g : Int → Int → V} {i j : Int} (ha : Vv ta σ H (.int i)) (hb : Vv tb σ H (.int j)) : Vv (tOp (rI0 g) ta tb) σ H (g i j) := vv_op ha hb fun _ q => ⟨i, j, rfl, rfl, q⟩
theorem vv_I {C : Int → Int → Prop} {g : Int → Int → V} {i j : Int} (hc : C i j) (ha : Vv ta σ H (.int i)) (hb : Vv tb σ H (.int j)) : Vv (tOp (rI C g) ta tb) σ H (g i j) := vv_op ha hb fun _ q => ⟨i, j, rfl, rfl, hc, q⟩
theorem vv_is {w : V} (h : Vv te σ H v) (e : v = w) : Vv te σ H w := e ▸ h
theorem vv_ixT {p : Addr} {xs : List V} {i : Nat} (ha : Vv ta σ H (.ref p)) (hb : Vv tb σ H (iv i)) (hS : SqT K H p xs) (h : xs[i]? = some v) : Vv (tOp (rIxT K) ta tb) σ H v := vv_op ha hb fun _ q => ⟨p, _, _, _, rfl, rfl, hS, atI_nat h, q⟩
theorem vv_ixL {p : Addr} {xs : List V} {i : Nat} (ha : Vv ta σ H (.ref p)) (hb : Vv tb σ H (iv i)) (hS : SqL K H p xs) (h : xs[i]? = some v) : Vv (tOp (rIxL K) ta tb) σ H v := vv_op ha hb fun _ q => ⟨p, _, _, _, rfl, rfl, hS, atI_nat h, q⟩
theorem vv_ixO {p : Addr} {O : List Nat} {i : Nat} (ha : Vv ta σ H (.ref p)) (hb : Vv tb σ H (iv i)) (hO : OrdAt K H p O) (h : i < O.length) : Vv (tOp (rIxT K) ta tb) σ H (iv (O.getD i 0)) := vv_op ha hb fun _ q => hO.ix h q
theorem tt_test {te : TE} (h : Vv te σ H (.bl b1)) : Tt (tTest te) σ H b1 := fun _ q => h _ ⟨b1, rfl, q⟩
theorem tt_tb {te : TE} (h : Vv te σ H (.bl b1)) : Tt (tB te) σ H b1 := fun _ q => h _ ⟨b1, rfl, q⟩
theorem tt_is (h : Tt c σ H b1) (e : b1 = b2) : Tt c σ H b2 := e ▸ h
theorem tt_and (h1 : Tt c σ H b1) (h2 : b1 = true → Tt c2 σ H b2) : Tt (tAnd c c2) σ H (b1 && b2) := fun B q => h1 _ (by
  cases b1 with
  | true => exact iteT (h2 rfl B q)
  | false => exact iteF q)
theorem tt_or (h1 : Tt c σ H b1) (h2 : b1 = false → Tt c2 σ H b2) : Tt (tOr c c2) σ H (b1 || b2) := fun B q => h1 _ (by
  cases b1 with
  | true => exact iteT q
  | false => exact iteF (h2 rfl B q))
theorem tt_not (h1 : Tt c σ H b1) : Tt (tNot c) σ H (!b1) := fun B q => h1 _ q
theorem tt_ne {a b : Nat} (ha : Vv ta σ H (iv a)) (hb : Vv tb σ H (iv b)) : Tt (tTest (tOp rNe ta tb)) σ H (decide (a ≠ b)) :=
  tt_is (tt_test (vv_op (z := .bl (!decide (V.int (a : Int) = V.int (b : Int)))) ha hb fun _ q => ⟨rfl, q⟩)) (dec_ne_iv a b)
theorem tt_eq {a b : Nat} (ha : Vv ta σ H (iv a)) (hb : Vv tb σ H (iv b)) : Tt (tTest (tOp rEq ta tb)) σ H (decide (a = b)) :=
  tt_is (tt_test (vv_op (z := .bl (decide (V.int (a : Int) = V.int (b : Int)))) ha hb fun _ q => ⟨rfl, q⟩)) (dec_iv a b)
/-- order[b] >> a & 1 == 1 -/
abbrev tBit (K : PySem.W.Frag) (i j k : Nat) (one : Int) : TT := tTest (tOp rEq (tOp (rI0 fun i j => .int (Builtin.bitAnd i j)) (tOp (rI (fun _ j => 0 ≤ j) fun i j => .int (i / 2 ^ j.toNat)) (tOp (rIxT K) (tVar i) (tVar j)) (tVar k)) (tC (.int 1))) (tC (.int one)))
theorem tt_bit {i j k : Nat} {p : Addr} {O : List Nat} {a b : Nat} (hi : σ[i]? = some (some (.ref p))) (hj : σ[j]? = some (some (iv b))) (hk : σ[k]? = some (some (iv a))) (hO : OrdAt K H p O) (hb : b < O.length) : Tt (tBit K i j k 1) σ H (le O a b) :=
  tt_is (tt_test (vv_op (z := .bl (decide (V.int (Builtin.bitAnd ((O.getD b 0 : Int) / 2 ^ ((a : Int)).toNat) 1) = V.int 1))) (vv_I0 (vv_I (Int.natCast_nonneg _) (vv_ixO (vv_var hi) (vv_var hj) hO hb) (vv_var hk)) vv_c) vv_c fun _ q => ⟨rfl, q⟩)) (bit_test _ _)
theorem tt_bit0 {i j k : Nat} {p : Addr} {O : List Nat} {a b : Nat} (hi : σ[i]? = some (some (.ref p))) (hj : σ[j]? = some (some (iv b))) (hk : σ[k]? = some (some (iv a))) (hO : OrdAt K H p O) (hb : b < O.length) : Tt (tBit K i j k 0) σ H (!le O a b) :=
  tt_is (tt_test (vv_op (z := .bl (decide (V.int (Builtin.bitAnd ((O.getD b 0 : Int) / 2 ^ ((a : Int)).toNat) 1) = V.int 0))) (vv_I0 (vv_I (Int.natCast_nonneg _) (vv_ixO (vv_var hi) (vv_var hj) hO hb) (vv_var hk)) vv_c) vv_c fun _ q => ⟨rfl, q⟩)) (bit_test0 _ _)
theorem Tt.l {T : Tbs} (h : Tt c σ H b1) : Tl T c σ H b1 := fun _ q => h _ (q H .refl)
theorem Vv.l {T : Tbs} (h : Vv te σ H v) : Vl T te σ H v := fun _ q => h _ (q H .refl)
theorem s_if {t u : TS} {D : Ends} (h : Tt c σ H b1) (h1 : b1 = true → t D σ H) (h2 : b1 = false → u D σ H) : tIfS c t u D σ H := h _ (by
  cases b1 with
  | true => exact iteT (h1 rfl)
  | false => exact iteF (h2 rfl))
/-- append of a known value -/
theorem s_app {D : Ends} {l : Addr} {xs : List V} (hl : H l = some (.lst xs)) (ho : Vv ta σ H (.ref l)) (he : Vv te σ H v) (hz : xs.length < 100000) (q : D.nx σ (upd H l (.lst (xs ++ [v])))) : tDrop (tBM K "list" rAppend ta (tCons te tNil)) D σ H :=
  ho _ ⟨.inl ⟨rfl, _, SqL.of hl⟩, he _ ⟨l, xs, v, rfl, rfl, hl, smallt hz, q⟩⟩
theorem s_set {D : Ends} {i : Nat} (he : Vv te σ H v) (q : D.nx (σ.set i (some v)) H) : tAsg te (gName i) D σ H := he _ q
theorem s_newL {D : Ends} {i : Nat} (q : ∀ l, H l = none → D.nx (σ.set i (some (.ref l))) (upd H l (.lst []))) : tAsg (tLst tNil) (gName i) D σ H := ⟨Nat.zero_le _, q⟩
theorem dp_nats {p : Addr} {l : List Nat} (h : SqL K H p (nats l)) : Dp K H (.ref p) (.list ((l.map fun (n : Nat) => ((n : Nat) : Int)).map PyData.int)) := by
  refine .lst h ?_
  clear h
  induction l with
  | nil => exact .nil
  | cons x r ih => exact .cons (.int _) ih
end
section
variable {P : Program} {w : World} {K : PySem.W.Frag} {mg : Str → Option Value} {base : Heap} {T : Tbs}
abbrev s__law_nexts : Stmt := top 113
abbrev N__law_nexts : List Str := ["_law_order_here", "_law_found", "_law_a", "_law_b", "_law_middle", "_law_c"]
theorem sc__law_nexts : FnScope N__law_nexts ["_law_order_here"] (defScope s__law_nexts) := ⟨rfl, rfl, rfl, by decide +kernel, rfl, by decide +kernel, by decide +kernel⟩
-- slots: 0 _law_order_here, 1 _law_found, 2 _law_a, 3 _law_b, 4 _law_middle, 5 _law_c
def spNextsL (T : Tbs) (K : PySem.W.Frag) : Sp := fun vs H Q _ => ∃ (p : Addr) (O : List Nat), vs = [.ref p] ∧ OrdAt K H p O ∧ RetPrs T H Q (nexts O)
theorem ok__law_nexts (B : Blt mg) (D : DefAt K mg "_law_nexts" s__law_nexts) : Calls P w K mg base 1 "_law_nexts" ["_law_order_here"] (spNextsL T K) := by
  refine D.ok sc__law_nexts (fun vs H Q E h => ?_) (fun _ _ _ _ _ _ us hl => match us, hl with | [_], _ => rfl) (fun f cdv A outer s H vs Q E hr h => ?_)
  · obtain ⟨p, O, rfl, hO, q⟩ := h; rfl
  obtain ⟨p, O, rfl, hO, q⟩ := h
  have nd := sc__law_nexts.nd
  have hu := hu_of hr
  refine ⟨_, (pss_cons (ps_set (i := 1) nd rfl (Or.inl rfl) (pe_lst pa_nil))
      (pss_cons (ps_for PassesOwn.never rfl (pi_range1 (by rfl) B.range (pa_cons (pe_callB (r := rLenK K) call_lenK (by rfl) B.len PySem.boot_len (pa_cons (pv 0) pa_nil)) pa_nil)) (pg_name (i := 2) nd rfl (Or.inl rfl))
        (pss_one (ps_for PassesOwn.never rfl (pi_range1 (by rfl) B.range (pa_cons (pe_callB (r := rLenK K) call_lenK (by rfl) B.len PySem.boot_len (pa_cons (pv 0) pa_nil)) pa_nil)) (pg_name (i := 3) nd rfl (Or.inl rfl))
          (pss_one (ps_if (PW.pt (pw_and (pt_cmpR op_ne (pv 2) (pv 3) (nomark _)) (pw_and1 (pt_cmpR op_eq (pe_op op_and (pe_op op_shr (pe_ix (r := rIxT K) ix_tup (pv 0) (pv 3) (fun _ _ => rfl)) (pv 2)) pe_int) pe_int (nomark _)))))
            (pss_cons (ps_set (i := 4) nd rfl (Or.inl rfl) (pe_lst pa_nil))
            (pss_cons (ps_for PassesOwn.never rfl (pi_range1 (by rfl) B.range (pa_cons (pe_callB (r := rLenK K) call_lenK (by rfl) B.len PySem.boot_len (pa_cons (pv 0) pa_nil)) pa_nil)) (pg_name (i := 5) nd rfl (Or.inl rfl))
              (pss_one (ps_if (PW.pt (pw_and (pt_cmpR op_ne (pv 5) (pv 2) (nomark _)) (pw_and (pt_cmpR op_ne (pv 5) (pv 3) (nomark _)) (pw_and (pt_cmpR op_eq (pe_op op_and (pe_op op_shr (pe_ix (r := rIxT K) ix_tup (pv 0) (pv 3) (fun _ _ => rfl)) (pv 5)) pe_int) pe_int (nomark _)) (pw_and1 (pt_cmpR op_eq (pe_op op_and (pe_op op_shr (pe_ix (r := rIxT K) ix_tup (pv 0) (pv 5) (fun _ _ => rfl)) (pv 2)) pe_int) pe_int (nomark _)))))))
                (pss_one (ps_expr (pe_bm PySem.F.plainAttrs_list PySem.F.slot_list_append PySem.F.type_list_append mt_append (pv 4) (pa_cons (pv 5) pa_nil))))
                pss_nil)))
            (pss_one (ps_if (pt_cmpR (op_eqD hr.units) (pv 4) (pe_lst pa_nil) (nomark _))
              (pss_one (ps_expr (pe_bm PySem.F.plainAttrs_list PySem.F.slot_list_append PySem.F.type_list_append mt_append (pv 1) (pa_cons (pe_tup (pa_cons (pv 2) (pa_cons (pv 3) pa_nil))) pa_nil))))
              pss_nil))))
            pss_nil)))))
      (pss_one (ps_ret (pv 1))))), ?_⟩
  have hlen := hO.len
  refine e_seq (s_newL fun l hl => ?_)
  try dsimp only
  refine e_seq (for_rng (T := T) O.length (by omega) (al_lenO rfl (hO.ext (Ext.new (T := T) hl))) (fun a σ H' => ∃ x y z u, σ = [some (.ref p), some (.ref l), x, y, z, u] ∧ Ext T H H' ∧ LstOf IsPr H' l (nextsTo O a 0)) ?_ ?_ ?_)
  · intro H1 e1
    exact ⟨none, none, none, none, rfl, Ext.trans (.new hl) e1, [], e1.lst upd_same, .nil⟩
  · rintro a σ H1 ha ⟨x, y, z, u, rfl, e1, hL⟩
    refine for_rng (T := T) O.length (by omega) (al_lenO rfl (hO.ext e1)) (fun b σ H' => ∃ y z u, σ = [some (.ref p), some (.ref l), some (iv a), y, z, u] ∧ Ext T H H' ∧ LstOf IsPr H' l (nextsTo O a b)) ?_ ?_ ?_
    · intro H2 e2
      exact ⟨y, z, u, rfl, e1.trans e2, hL.ext (fun _ _ h => h.ext e2) e2⟩
    · rintro b σ H2 hb ⟨y, z, u, rfl, e2, hL2⟩
      obtain ⟨vs, hv, hpd⟩ := hL2
      have nl : vs.length < 100000 := by
        rw [Pd.len hpd]
        have h1 := nextsTo_len O a b (by omega)
        have h2 : a * O.length ≤ 16 * 16 := Nat.mul_le_mul (by omega) (by omega)
        omega
      have hO2 := hO.ext e2
      refine s_if (tt_and (tt_ne (vv_var rfl) (vv_var rfl)) fun _ => tt_bit rfl rfl rfl hO2 hb) (fun hc => ?_) (fun hc => ?_)
      · refine e_seq (s_newL fun m hm => ?_)
        try dsimp only
        have e3 : Ext T H (upd H2 m (.lst [])) := Ext.newer e2 hm
        have hmH : H m = none := e2.back hm
        have nml : l ≠ m := ne_of_none hv hm
        refine e_seq (for_rng (T := T) O.length (by omega) (al_lenO rfl (hO.ext e3)) (fun c σ H' => ∃ u, σ = [some (.ref p), some (.ref l), some (iv a), some (iv b), some (.ref m), u] ∧ Ext T H H' ∧ H' l = some (.lst vs) ∧ Paired (IsPr H') vs (nextsTo O a b) ∧
          H' m = some (.lst (nats ((List.range c).filter fun c => decide (c ≠ a) && (decide (c ≠ b) && (le O c b && le O a c)))))) ?_ ?_ ?_)
        · intro H3 e4
          have e5 : Ext T H2 H3 := Ext.trans (.new hm) e4
          exact ⟨u, rfl, e3.trans e4, e5.lst hv, Pd.imp hpd fun _ _ h => h.ext e5, e4.lst upd_same⟩
        · rintro c σ H3 hcn ⟨u, rfl, e4, hv4, hpd4, hm4⟩
          have hO4 := hO.ext e4
          have hstep : ((List.range (c + 1)).filter fun c => decide (c ≠ a) && (decide (c ≠ b) && (le O c b && le O a c))) = ((List.range c).filter fun c => decide (c ≠ a) && (decide (c ≠ b) && (le O c b && le O a c))) ++ if (decide (c ≠ a) && (decide (c ≠ b) && (le O c b && le O a c))) = true then [c] else [] :=
            filt_range (fun c => decide (c ≠ a) && (decide (c ≠ b) && (le O c b && le O a c))) c
          refine s_if (tt_and (tt_ne (vv_var rfl) (vv_var rfl)) fun _ => tt_and (tt_ne (vv_var rfl) (vv_var rfl)) fun _ => tt_and (tt_bit rfl rfl rfl hO4 hb) fun _ => tt_bit rfl rfl rfl hO4 hcn) (fun hd => ?_) (fun hd => ?_)
          · refine s_app hm4 (vv_var rfl) (vv_var rfl) ?_ ⟨_, rfl, e4.mutL hmH hm4, ?_, Pd.imp hpd4 fun _ _ h => h.upd hm4, ?_⟩
            · rw [nats_len]
              have h := List.length_filter_le (fun c => decide (c ≠ a) && (decide (c ≠ b) && (le O c b && le O a c))) (List.range c)
              rw [List.length_range] at h
              omega
            · rw [upd_ne nml]; exact hv4
            · rw [upd_same, hstep, if_pos hd, nats, nats, List.map_append]; rfl
          · refine ⟨_, rfl, e4, hv4, hpd4, ?_⟩
            rw [hstep, if_neg (by rw [hd]; decide), List.append_nil]
            exact hm4
        · rintro σ H3 ⟨u, rfl, e4, hv4, hpd4, hm4⟩
          refine ⟨_, rfl, Nat.zero_le _, fun d hd => ?_⟩
          have e5 : Ext T H3 (upd H3 d (.lst [])) := .new hd
          refine ⟨_, _, dp_nats (SqL.of (e5.lst hm4)), .lst (SqL.of upd_same) .nil, PySem.W.ke_shaped_ints _, by decide, _, rfl, ?_⟩
          have hcov : PyData.eqv (.list ((((List.range O.length).filter fun c => decide (c ≠ a) && (decide (c ≠ b) && (le O c b && le O a c))).map fun (n : Nat) => ((n : Nat) : Int)).map PyData.int)) (.list []) = cov O a b := by
            unfold cov
            rw [Bool.and_eq_true] at hc
            rw [hc.1, hc.2, Bool.true_and, Bool.true_and]
            show PyData.eqvAll _ [] = _
            cases q : (List.range O.length).filter fun c => decide (c ≠ a) && (decide (c ≠ b) && (le O c b && le O a c)) with
            | nil =>
              have : ((List.range O.length).all fun c => !(decide (c ≠ a) && (decide (c ≠ b) && (le O c b && le O a c)))) = true := by
                rw [List.all_eq_true]
                intro c hcm
                have := List.filter_eq_nil_iff.mp q c hcm
                rw [Bool.not_eq_true] at this
                rw [this]
                rfl
              rw [this]
              rfl
            | cons x r =>
              have hx : x ∈ (List.range O.length).filter fun c => decide (c ≠ a) && (decide (c ≠ b) && (le O c b && le O a c)) := by rw [q]; exact List.mem_cons_self
              have hx2 := List.mem_filter.mp hx
              have : ((List.range O.length).all fun c => !(decide (c ≠ a) && (decide (c ≠ b) && (le O c b && le O a c)))) = false := by
                rw [List.all_eq_false]
                exact ⟨x, hx2.1, by rw [hx2.2]; decide⟩
              rw [this]
              rfl
          rw [hcov]
          refine ite2 (fun hcv => ?_) (fun hcv => ?_)
          · refine ⟨_, rfl, .inl ⟨rfl, _, SqL.of (e5.lst hv4)⟩, _, rfl, _, rfl, (by show 2 ≤ sizeLine; decide), fun t ht => ?_⟩
            have e6 : Ext T H3 (upd (upd H3 d (.lst [])) t (.tup [iv a, iv b])) := Ext.newer e5 ht
            refine ⟨l, vs, _, rfl, rfl, e6.lst hv4, smallt nl, _, _, _, rfl, (e4.trans e6).mutL hl (e6.lst hv4), ?_⟩
            rw [nextsTo_step, if_pos hcv]
            exact prs_snoc (e6.lst hv4) (Pd.imp hpd4 fun _ _ h => h.ext e6) ⟨t, rfl, upd_same⟩
          · refine ⟨_, _, _, rfl, e4.trans e5, ?_⟩
            rw [nextsTo_step, if_neg hcv, List.append_nil]
            exact ⟨vs, e5.lst hv4, Pd.imp hpd4 fun _ _ h => h.ext e5⟩
      · refine ⟨_, _, _, rfl, e2, ?_⟩
        rw [nextsTo_step, if_neg, List.append_nil]
        · exact ⟨vs, hv, hpd⟩
        · intro z
          unfold cov at z
          rw [Bool.and_eq_true, Bool.and_eq_true] at z
          rw [z.1, z.2.1] at hc
          cases hc
    · rintro σ H2 ⟨y, z, u, rfl, e2, hL2⟩
      exact ⟨_, _, _, _, rfl, e2, by rw [← nextsTo_row]; exact hL2⟩
  · rintro σ H1 ⟨x, y, z, u, rfl, e1, hL⟩
    rw [nextsTo_all] at hL
    exact ⟨_, rfl, q l H1 e1 hl hL⟩
end
end SW

/-! ## SwH -/
/-! The order's text: the program's and the law's. -/
namespace SW
open PySem PySem.Spec PyProof.Rows L2 Bits TL

abbrev txts (l : List Str) : List V := l.map V.str
abbrev nmOf (ns : List Str) (a : Nat) : Str := ns.getD a Str.empty
def row2 (ns : List Str) (x : Nat × Nat) : Str := nmOf ns x.1 ++ (" < " : Str) ++ nmOf ns x.2
def headRow (ns : List Str) : Str := Txt.join " " (("things" : Str) :: ns)
def textOf (ns : List Str) (O : List Nat) : Str := Txt.join "\n" (headRow ns :: (nexts O).map (row2 ns))
theorem len_lt3 : (" < " : Str).length = 3 := by decide +kernel
theorem len_sp : (" " : Str).length = 1 := by decide +kernel
theorem len_nl : ("\n" : Str).length = 1 := by decide +kernel
theorem len_things : ("things" : Str).length = 6 := by decide +kernel
theorem sum_len_le {L : Nat} : ∀ {ys : List Str}, (∀ y ∈ ys, y.length ≤ L) → (ys.map (·.length)).sum ≤ ys.length * L
  | [], _ => by simp
  | y :: r, h => by
    rw [List.map_cons, List.sum_cons, List.length_cons, Nat.succ_mul, Nat.add_comm (r.length * L)]
    exact Nat.add_le_add (h y List.mem_cons_self) (sum_len_le fun z hz => h z (List.mem_cons_of_mem _ hz))
theorem join_room {L c : Nat} {s : Str} {ys : List Str} (h : ∀ y ∈ ys, y.length ≤ L) (hc : ys.length ≤ c) (hL : c * (L + s.length) ≤ 16777216) : (ys.map (·.length)).sum + ys.length * s.length ≤ 16777216 := by
  have h1 := sum_len_le h
  have h2 : ys.length * (L + s.length) ≤ c * (L + s.length) := Nat.mul_le_mul_right _ hc
  rw [Nat.mul_add] at h2
  omega
theorem joinL_len (S : List Nat) : ∀ ps : List (List Nat), (joinL S ps).length ≤ (ps.map (·.length)).sum + ps.length * S.length
  | [] => Nat.zero_le _
  | [p] => by simp [joinL]
  | p :: q :: r => by
    have ih := joinL_len S (q :: r)
    rw [joinL, List.length_append, List.length_append]
    simp only [List.map_cons, List.sum_cons, List.length_cons, Nat.succ_mul] at ih ⊢
    omega
theorem join_len (y : Str) (ps : List Str) : (Txt.join y ps).length ≤ (ps.map (·.length)).sum + ps.length * y.length := by
  rw [len_tl, join_eq, tl_join]
  have h := joinL_len (tl y) (ps.map tl)
  rw [List.map_map, List.length_map] at h
  exact h
structure NmsOk (ns : List Str) (n : Nat) : Prop where
  len : ns.length = n
  sh : ∀ s ∈ ns, s.length ≤ 8
theorem nm_len {ns : List Str} {n : Nat} (h : NmsOk ns n) (a : Nat) : (nmOf ns a).length ≤ 8 := by
  unfold nmOf
  rw [List.getD_eq_getElem?_getD]
  cases e : ns[a]? with
  | none => exact Nat.zero_le 8
  | some s => exact h.sh s (List.mem_of_getElem? e)
theorem nm_get {ns : List Str} {n a : Nat} (h : NmsOk ns n) (ha : a < n) : (txts ns)[a]? = some (.str (nmOf ns a)) := by
  rw [List.getElem?_map]
  unfold nmOf
  rw [List.getD_eq_getElem?_getD, List.getElem?_eq_getElem (by rw [h.len]; exact ha)]
  rfl
theorem row2_len {ns : List Str} {n : Nat} (h : NmsOk ns n) (x : Nat × Nat) : (row2 ns x).length ≤ 19 := by
  have h1 := nm_len h x.1
  have h2 := nm_len h x.2
  unfold row2
  rw [Str.length_append, Str.length_append, len_lt3]
  omega
theorem head_len {ns : List Str} {n : Nat} (h : NmsOk ns n) (hn : n ≤ 16) : (headRow ns).length ≤ 200 := by
  refine Nat.le_trans (join_len _ _) ?_
  have h1 : (((("things" : Str) :: ns).map (·.length)).sum) ≤ (("things" : Str) :: ns).length * 8 := sum_len_le fun y hy => by
    rcases List.mem_cons.mp hy with e | hy
    · rw [e, len_things]; decide
    · exact h.sh y hy
  rw [List.length_cons, h.len] at h1
  rw [len_sp, List.length_cons, h.len]
  omega
theorem head_room {ns : List Str} {n : Nat} (h : NmsOk ns n) (hn : n ≤ 16) : (((("things" : Str) :: ns).map (·.length)).sum) + (("things" : Str) :: ns).length * (" " : Str).length ≤ 16777216 :=
  join_room (L := 8) (c := 17) (fun y hy => by
    rcases List.mem_cons.mp hy with e | hy
    · rw [e, len_things]; decide
    · exact h.sh y hy) (by rw [List.length_cons, h.len]; omega) (by rw [len_sp]; decide)
theorem nexts_len {O : List Nat} (hn : O.length ≤ 16) : (nexts O).length ≤ 256 := by
  have h := nextsTo_len O O.length 0 (Nat.zero_le _)
  rw [nextsTo_all] at h
  have : O.length * O.length ≤ 16 * 16 := Nat.mul_le_mul hn hn
  omega
theorem text_room {ns : List Str} {n : Nat} (h : NmsOk ns n) (hn : n ≤ 16) (ps : List (Nat × Nat)) (hp : ps.length ≤ 256) : ((headRow ns :: ps.map (row2 ns)).map (·.length)).sum + (headRow ns :: ps.map (row2 ns)).length * ("\n" : Str).length ≤ 16777216 :=
  join_room (L := 200) (c := 257) (fun y hy => by
    rcases List.mem_cons.mp hy with e | hy
    · rw [e]; exact head_len h hn
    · obtain ⟨x, _, rfl⟩ := List.mem_map.mp hy
      have := row2_len h x
      omega) (by rw [List.length_cons, List.length_map]; omega) (by rw [len_nl]; decide)
section
variable {P : Program} {w : World} {K : PySem.W.Frag} {mg : Str → Option Value} {base : Heap} {T : Tbs}
theorem vv_addS {σ : L2.St} {H : Hp} {ta tb : TE} {x y : Str} (ha : Vv ta σ H (.str x)) (hb : Vv tb σ H (.str y)) (hl : x.length + y.length ≤ 100000) :
    Vv (tOp (fun x y H Q => ∃ i j, x = V.str i ∧ y = V.str j ∧ i.length + j.length ≤ sizeLine ∧ Q (.str (i ++ j)) H) ta tb) σ H (.str (x ++ y)) := vv_op ha hb fun _ q => ⟨x, y, rfl, rfl, small hl, q⟩
/-- names[a] + ' < ' + names[b] -/
theorem vv_row {σ : L2.St} {H : Hp} {i j k : Nat} {p : Addr} {ns : List Str} {n a b : Nat} (hi : σ[i]? = some (some (.ref p))) (hj : σ[j]? = some (some (iv a))) (hk : σ[k]? = some (some (iv b))) (hS : SqL K H p (txts ns)) (hn : NmsOk ns n) (ha : a < n) (hb : b < n) :
    Vv (tOp (fun x y H Q => ∃ i j, x = V.str i ∧ y = V.str j ∧ i.length + j.length ≤ sizeLine ∧ Q (.str (i ++ j)) H)
      (tOp (fun x y H Q => ∃ i j, x = V.str i ∧ y = V.str j ∧ i.length + j.length ≤ sizeLine ∧ Q (.str (i ++ j)) H) (tOp (rIxL K) (tVar i) (tVar j)) (tC (.str " < "))) (tOp (rIxL K) (tVar i) (tVar k))) σ H (.str (row2 ns (a, b))) := by
  have h1 := nm_len hn a
  have h2 := nm_len hn b
  refine vv_is (v := .str (nmOf ns a ++ (" < " : Str) ++ nmOf ns b)) ?_ rfl
  refine vv_addS (vv_addS (vv_ixL (vv_var hi) (vv_var hj) hS (nm_get hn ha)) vv_c (by rw [len_lt3]; omega)) (vv_ixL (vv_var hi) (vv_var hk) hS (nm_get hn hb)) ?_
  rw [Str.length_append, len_lt3]
  omega
def spTextP (T : Tbs) (K : PySem.W.Frag) : Sp := fun vs H Q _ => ∃ (a : Addr) (ns : List Str) (p : Addr) (O : List Nat), vs = [.ref a, .ref p] ∧ H a = some (.lst (txts ns)) ∧ OrdAt K H p O ∧ (∀ b, b < O.length → le O b b = true) ∧ NmsOk ns O.length ∧
  ∀ H', Ext T H H' → Q (.str (textOf ns O)) H'
def spTextL (T : Tbs) (K : PySem.W.Frag) : Sp := fun vs H Q _ => ∃ (a : Addr) (ns : List Str) (p : Addr) (O : List Nat), vs = [.ref a, .ref p] ∧ H a = some (.lst (txts ns)) ∧ OrdAt K H p O ∧ NmsOk ns O.length ∧
  ∀ H', Ext T H H' → Q (.str (textOf ns O)) H'
abbrev s_shown_order : Stmt := top 87
abbrev N_shown_order : List Str := ["names", "order", "rows", "a", "b"]
theorem sc_shown_order : FnScope N_shown_order ["names", "order"] (defScope s_shown_order) := ⟨rfl, rfl, rfl, by decide +kernel, rfl, by decide +kernel, by decide +kernel⟩
-- slots: 0 names, 1 order, 2 rows, 3 a, 4 b
theorem ok_shown_order (B : Blt mg) (D : DefAt K mg "shown_order" s_shown_order) (g_next_pairs : Calls P w K mg base 3 "next_pairs" ["order"] (spNextPairs T K)) : Calls P w K mg base 4 "shown_order" ["names", "order"] (spTextP T K) := by
  refine D.ok sc_shown_order (fun vs H Q E h => ?_) (fun _ _ _ _ _ _ us hl => match us, hl with | [_, _], _ => rfl) (fun f cdv A outer s H vs Q E hr h => ?_)
  · obtain ⟨a, ns, p, O, rfl, hA, hO, hrf, hns, q⟩ := h; rfl
  obtain ⟨a, ns, p, O, rfl, hA, hO, hrf, hns, q⟩ := h
  have nd := sc_shown_order.nd
  have hu := hu_of hr
  refine ⟨_, (pss_cons (ps_set (i := 2) nd rfl (Or.inl rfl) (pe_lst (pa_cons (pe_join pe_str (pe_op op_cat (pe_lst (pa_cons pe_str pa_nil)) (pe_callTy (r := rListK K) call_listK (by rfl) B.list (by decide +kernel) (pa_cons (pv 0) pa_nil)))) pa_nil)))
      (pss_cons (ps_for PassesOwn.never rfl (pi_list (pe_callD g_next_pairs (hr.mono (by decide)) rfl (pa_cons (pv 1) pa_nil))) (pg_tup rfl (pgs_cons (pg_name (i := 3) nd rfl (Or.inl rfl)) (pgs_cons (pg_name (i := 4) nd rfl (Or.inl rfl)) pgs_nil)))
        (pss_one (ps_expr (pe_bm PySem.F.plainAttrs_list PySem.F.slot_list_append PySem.F.type_list_append mt_append (pv 2) (pa_cons (pe_op op_add_str (pe_op op_add_str (pe_ix (r := rIxL K) ix_list (pv 0) (pv 3) (fun _ _ => rfl)) pe_str) (pe_ix (r := rIxL K) ix_list (pv 0) (pv 4) (fun _ _ => rfl))) pa_nil)))))
      (pss_one (ps_ret (pe_join pe_str (pv 2)))))), ?_⟩
  have hlen := hO.len
  refine ⟨⟨_, rfl⟩, (by show 1 ≤ sizeLine; decide), fun d hd => ⟨_, rfl, a, txts ns, rfl, .inl (SqL.of (Ext.lst (T := T) (.new hd) hA)), fun c hc => ?_⟩⟩
  have e1 : Ext T H (upd H d (.lst [V.str "things"])) := .new hd
  have e2 : Ext T H (upd (upd H d (.lst [V.str "things"])) c (.lst (txts ns))) := Ext.newer e1 hc
  refine ⟨d, c, _, _, rfl, rfl, (Ext.new (T := T) hc).lst upd_same, upd_same, ?_, fun g hg => ⟨_, g, ("things" : Str) :: ns, rfl, rfl, .inl (SqL.of upd_same), head_room hns hlen, (by show 1 ≤ sizeLine; decide), fun l hl => ?_⟩⟩
  · show 1 + (txts ns).length ≤ sizeLine
    rw [List.length_map, hns.len]
    exact small (by omega)
  have e3 := Ext.newer (o := .lst ([V.str "things"] ++ txts ns)) e2 hg
  have e4 := Ext.newer (o := .lst [V.str (headRow ns)]) e3 hl
  refine ⟨_, rfl, p, O, rfl, hO.ext e4, hrf, fun r H1 e5 hr1 hL => ?_⟩
  obtain ⟨vs, hv, hpd⟩ := hL
  have hlH : H l = none := e3.back hl
  refine ⟨r, rfl, ⟨_, SqL.of hv⟩, for_list (xs := vs) (fun i σ H' => ∃ x y, σ = [some (.ref a), some (.ref p), some (.ref l), x, y] ∧ Ext T H H' ∧ H' r = some (.lst vs) ∧ Paired (IsPr H') vs (nexts O) ∧ H' l = some (.lst (txts (headRow ns :: ((nexts O).take i).map (row2 ns)))))
    ⟨none, none, rfl, e4.trans e5, hv, hpd, e5.lst upd_same⟩ (fun i σ H' _ ⟨_, _, _, _, h, _⟩ => SqL.of h) ?_ ?_⟩
  · rintro i v σ H2 hi ⟨x, y, rfl, e6, hv2, hpd2, hL2⟩
    obtain ⟨⟨x1, x2⟩, hx, t, rfl, ht⟩ := Pd.get hpd2 hi
    have hm := mem_nexts.mp (List.mem_of_getElem? hx)
    refine ⟨t, _, rfl, SqT.of ht, rfl, _, _, rfl, _, _, rfl, rfl, ?_⟩
    refine s_app hL2 (vv_var rfl) (vv_row rfl rfl rfl (SqL.of (e6.lst hA)) hns hm.1 hm.2.1) ?_ ⟨_, _, rfl, e6.mutL hlH hL2, ?_, Pd.imp hpd2 fun _ _ h => h.upd hL2, ?_⟩
    · rw [List.length_map, List.length_cons, List.length_map, List.length_take]
      have := nexts_len hlen
      omega
    · rw [upd_ne fun z => ?_]
      · exact hv2
      · rw [z] at hr1
        rw [upd_same] at hr1
        cases hr1
    · rw [upd_same, take_snoc hx, List.map_append]
      simp [txts]
  · rintro σ H2 ⟨x, y, rfl, e6, hv2, hpd2, hL2⟩
    rw [Pd.len hpd, List.take_length] at hL2
    exact ⟨⟨_, rfl⟩, _, rfl, _, l, _, rfl, rfl, .inl (SqL.of hL2), text_room hns hlen _ (nexts_len hlen), q H2 e6⟩
abbrev s__law_text : Stmt := top 114
abbrev N__law_text : List Str := ["_law_names_here", "_law_order_here", "_law_rows", "_law_a", "_law_b"]
theorem sc__law_text : FnScope N__law_text ["_law_names_here", "_law_order_here"] (defScope s__law_text) := ⟨rfl, rfl, rfl, by decide +kernel, rfl, by decide +kernel, by decide +kernel⟩
-- slots: 0 _law_names_here, 1 _law_order_here, 2 _law_rows, 3 _law_a, 4 _law_b
theorem ok__law_text (B : Blt mg) (D : DefAt K mg "_law_text" s__law_text) (g__law_nexts : Calls P w K mg base 1 "_law_nexts" ["_law_order_here"] (spNextsL T K)) : Calls P w K mg base 2 "_law_text" ["_law_names_here", "_law_order_here"] (spTextL T K) := by
  refine D.ok sc__law_text (fun vs H Q E h => ?_) (fun _ _ _ _ _ _ us hl => match us, hl with | [_, _], _ => rfl) (fun f cdv A outer s H vs Q E hr h => ?_)
  · obtain ⟨a, ns, p, O, rfl, hA, hO, hns, q⟩ := h; rfl
  obtain ⟨a, ns, p, O, rfl, hA, hO, hns, q⟩ := h
  have nd := sc__law_text.nd
  have hu := hu_of hr
  refine ⟨_, (pss_cons (ps_set (i := 2) nd rfl (Or.inl rfl) (pe_lst (pa_cons (pe_join pe_str (pe_op op_cat (pe_lst (pa_cons pe_str pa_nil)) (pv 0))) pa_nil)))
      (pss_cons (ps_for PassesOwn.never rfl (pi_list (pe_callD g__law_nexts (hr.mono (by decide)) rfl (pa_cons (pv 1) pa_nil))) (pg_tup rfl (pgs_cons (pg_name (i := 3) nd rfl (Or.inl rfl)) (pgs_cons (pg_name (i := 4) nd rfl (Or.inl rfl)) pgs_nil)))
        (pss_one (ps_expr (pe_bm PySem.F.plainAttrs_list PySem.F.slot_list_append PySem.F.type_list_append mt_append (pv 2) (pa_cons (pe_op op_add_str (pe_op op_add_str (pe_ix (r := rIxL K) ix_list (pv 0) (pv 3) (fun _ _ => rfl)) pe_str) (pe_ix (r := rIxL K) ix_list (pv 0) (pv 4) (fun _ _ => rfl))) pa_nil)))))
      (pss_one (ps_ret (pe_join pe_str (pv 2)))))), ?_⟩
  have hlen := hO.len
  refine ⟨⟨_, rfl⟩, (by show 1 ≤ sizeLine; decide), fun d hd => ?_⟩
  have e1 : Ext T H (upd H d (.lst [V.str "things"])) := .new hd
  refine ⟨_, rfl, d, a, _, _, rfl, rfl, upd_same, e1.lst hA, ?_, fun g hg => ⟨_, g, ("things" : Str) :: ns, rfl, rfl, .inl (SqL.of upd_same), head_room hns hlen, (by show 1 ≤ sizeLine; decide), fun l hl => ?_⟩⟩
  · show 1 + (txts ns).length ≤ sizeLine
    rw [List.length_map, hns.len]
    exact small (by omega)
  have e3 := Ext.newer (o := .lst ([V.str "things"] ++ txts ns)) e1 hg
  have e4 := Ext.newer (o := .lst [V.str (headRow ns)]) e3 hl
  refine ⟨_, rfl, p, O, rfl, hO.ext e4, fun r H1 e5 hr1 hL => ?_⟩
  obtain ⟨vs, hv, hpd⟩ := hL
  have hlH : H l = none := e3.back hl
  refine ⟨r, rfl, ⟨_, SqL.of hv⟩, for_list (xs := vs) (fun i σ H' => ∃ x y, σ = [some (.ref a), some (.ref p), some (.ref l), x, y] ∧ Ext T H H' ∧ H' r = some (.lst vs) ∧ Paired (IsPr H') vs (nexts O) ∧ H' l = some (.lst (txts (headRow ns :: ((nexts O).take i).map (row2 ns)))))
    ⟨none, none, rfl, e4.trans e5, hv, hpd, e5.lst upd_same⟩ (fun i σ H' _ ⟨_, _, _, _, h, _⟩ => SqL.of h) ?_ ?_⟩
  · rintro i v σ H2 hi ⟨x, y, rfl, e6, hv2, hpd2, hL2⟩
    obtain ⟨⟨x1, x2⟩, hx, t, rfl, ht⟩ := Pd.get hpd2 hi
    have hm := mem_nexts.mp (List.mem_of_getElem? hx)
    refine ⟨t, _, rfl, SqT.of ht, rfl, _, _, rfl, _, _, rfl, rfl, ?_⟩
    refine s_app hL2 (vv_var rfl) (vv_row rfl rfl rfl (SqL.of (e6.lst hA)) hns hm.1 hm.2.1) ?_ ⟨_, _, rfl, e6.mutL hlH hL2, ?_, Pd.imp hpd2 fun _ _ h => h.upd hL2, ?_⟩
    · rw [List.length_map, List.length_cons, List.length_map, List.length_take]
      have := nexts_len hlen
      omega
    · rw [upd_ne fun z => ?_]
      · exact hv2
      · rw [z] at hr1
        rw [upd_same] at hr1
        cases hr1
    · rw [upd_same, take_snoc hx, List.map_append]
      simp [txts]
  · rintro σ H2 ⟨x, y, rfl, e6, hv2, hpd2, hL2⟩
    rw [Pd.len hpd, List.take_length] at hL2
    exact ⟨⟨_, rfl⟩, _, rfl, _, l, _, rfl, rfl, .inl (SqL.of hL2), text_room hns hlen _ (nexts_len hlen), q H2 e6⟩
end
end SW

/-! ## SwL -/
/-! sorted(range(n), key=lambda a: ..): the lambda made, called for each number, the list sorted by what it gives. -/
namespace SW
open PySem PySem.Spec PyProof.Rows L2 Bits

/-! ### the lambda made -/
section
variable {X : Cx} {pins : List (Addr × Obj)} {σ : L2.St} {H : Hp} {s : Shared} {T : Tbs}
theorem ext_table {P c : Addr} {q : Str} {ps more : Array Value} (hP : H P = some (.tbl ps)) (nC : H c = none) (ht : LamX.Tabs T H → LamX.Tabs T (upd (upd H P (.tbl (ps ++ more))) c (LamX.CodeO c q))) :
    Ext T H (upd (upd H P (.tbl (ps ++ more))) c (LamX.CodeO c q)) := by
  refine ⟨fun b o e n => ?_, ht, fun b o e => ?_⟩
  · rw [upd_ne (ne_of_none e nC), upd_ne fun z => n ps (Option.some.inj (e.symm.trans (by rw [z]; exact hP)))]
    exact e
  · rw [upd_ne (ne_of_none e nC)]
    by_cases z : b = P
    · exact ⟨_, by rw [z]; exact upd_same⟩
    · exact ⟨o, by rw [upd_ne z]; exact e⟩
theorem tabs_table {P c : Addr} {q : Str} {ps : Array Value} {pos : Pos} (hP : H P = some (.tbl ps)) (nC : H c = none) (ht : TriplesOk ps.toList) (hu : ∀ p ∈ T, p.1 = P → p.2 = q) (hT : LamX.Tabs T H) :
    LamX.Tabs T (upd (upd H P (.tbl (ps ++ #[rawInt pos.line, rawInt pos.col, .ref c]))) c (LamX.CodeO c q)) := by
  have old : ∀ b o, H b = some o → (∀ ps, o ≠ .tbl ps) → upd (upd H P (.tbl (ps ++ #[rawInt pos.line, rawInt pos.col, .ref c]))) c (LamX.CodeO c q) b = some o := fun b o e n => by
    rw [upd_ne (ne_of_none e nC), upd_ne fun z => n ps (Option.some.inj (e.symm.trans (by rw [z]; exact hP)))]
    exact e
  have eL : (ps ++ #[rawInt pos.line, rawInt pos.col, .ref c]).toList = ps.toList ++ [rawInt pos.line, rawInt pos.col, .ref c] := by simp
  intro p hp
  obtain ⟨ps', a1, a2, a3⟩ := hT p hp
  by_cases hb : p.1 = P
  · have e1 : ps' = ps := by
      rw [hb, hP] at a1
      cases a1
      rfl
    subst e1
    refine ⟨_, by rw [hb, upd_ne (ne_of_none hP nC)]; exact upd_same, by rw [eL]; exact PySem.TriplesOk_snoc _ _ _ _ ht, fun p' cv hcv => ?_⟩
    rw [eL] at hcv
    rcases LamX.among_app _ ht hcv with z | z
    · obtain ⟨c0, e2, e3⟩ := a3 p' cv z
      exact ⟨c0, e2, old _ _ e3 LamX.codeO_ne⟩
    · exact ⟨c, z, by rw [hu p hp hb]; exact upd_same⟩
  · refine ⟨ps', by rw [upd_ne (ne_of_none a1 nC), upd_ne hb]; exact a1, a2, fun p' cv hcv => ?_⟩
    obtain ⟨c0, e2, e3⟩ := a3 p' cv hcv
    exact ⟨c0, e2, old _ _ e3 LamX.codeO_ne⟩
/-- the lambda's function object stands, its code object is new or found in the table -/
theorem lam_made {c P : Addr} {params : Arguments} {body : Expr} {scope : Scope} {pos : Pos} {E : Value → Shared → Prop} {Q : Value → Shared → Prop} (I : Inv X pins σ H s) (TB : LamX.TabB X.base X.mg c P) (hcode : X.env.code = .ref c)
    (hm : (P, X.env.qual ++ "<lambda>") ∈ T) (hu : ∀ p ∈ T, p.1 = P → p.2 = X.env.qual ++ "<lambda>") (hT : LamX.Tabs T H) (hdef : defaultsOf params X.env = ([], [])) (hfree : ∀ y ∈ scope.names, y.2 = .free → ∃ c, X.env.cells.lookup y.1 = some c)
    (h : ∀ (f c' : Addr) (pm ctv : Value) (H1 : Hp) (s' : Shared), Inv X pins σ H1 s' → Ext T H H1 → LamX.Tabs T H1 →
      s'.heap.get? f = some (PySem.W.kla_obj "<lambda>" (X.env.qual ++ "<lambda>") params body scope (cloFrom X.env.cells scope.names []) pm c' ctv) → FpOk X pins H1 f → H1 c' = some (LamX.CodeO c' (X.env.qual ++ "<lambda>")) → Q (.ref f) s') :
    wpAny (model X.prog X.w) X.A (eval (.Lambda params body scope pos) X.env) Q E s := by
  obtain ⟨ps, hP, ht, ha⟩ := hT _ hm
  refine PySem.W.kla_eval hdef ?_
  have bP : s.heap.BuiltinsAt X.mg P := TB.bm.keeps I.bk
  have hP' : s.heap.get? P = some { cls := .none, data := .fields ps } := I.hok P _ hP
  cases hc : codeAmong pos ps.toList with
  | none =>
    refine PySem.W.kla_makeFunction (mg := X.mg) (c := c) (P := P) (ps := ps) (closure_ok hfree) I.ok.glob (I.mod.glob.keeps I.bk) hcode (TB.code.keeps I.bk) hP' ht hc TB.gP bP fun c' ctv h' tk hx hge hlt hrec htb => ?_
    obtain ⟨c2, oc, vs, t, e2, hoc, hd, hv⟩ := hrec
    cases e2
    have hsz : s.heap.objs.size ≤ h'.objs.size := Nat.le_trans hge (Nat.le_of_lt hlt)
    have nC : H c' = none := I.hok.fresh hge
    have up : ∀ {b : Addr} {o : Obj}, h'.get? b = some o → (h'.push (PySem.W.kla_obj "<lambda>" (X.env.qual ++ "<lambda>") params body scope (cloFrom X.env.cells scope.names []) ((X.mg "__name__").getD .none) c' ctv)).get? b = some o := fun e => Heap.get?_push_of_some _ e
    have I1 := LamX.inv_table (t' := tk) (more := #[rawInt pos.line, rawInt pos.col, .ref c']) I hP (fun b o hb e => up (hx b o hb e)) (up htb) hge ⟨oc, vs, t, up hoc, hd, hv⟩
    have T1 := tabs_table (T := T) (pos := pos) hP nC ht hu hT
    refine h h'.objs.size c' ((X.mg "__name__").getD .none) ctv _ _ I1 (ext_table hP nC fun _ => T1) T1 (Heap.get?_push_size _ rfl) (I.fpOk hsz ?_) upd_same
    rw [upd_ne (Nat.ne_of_gt hlt), upd_ne (Nat.ne_of_gt (Nat.lt_of_lt_of_le (Heap.lt_size hP') hsz))]
    exact I.hok.fresh hsz
  | some cv =>
    obtain ⟨c', e, hco⟩ := ha pos cv hc
    subst e
    refine PySem.W.kla_makeFunctionHit (mg := X.mg) (c := c) (P := P) (ps := ps) (closure_ok hfree) I.ok.glob (I.mod.glob.keeps I.bk) hcode (TB.code.keeps I.bk) hP' ht hc bP fun ctv h' tk hx hsz => ?_
    have I1 : Inv X pins σ H { s with heap := h'.push (PySem.W.kla_obj "<lambda>" (X.env.qual ++ "<lambda>") params body scope (cloFrom X.env.cells scope.names []) ((X.mg "__name__").getD .none) c' ctv), toks := tk } := I.kept fun b o e => Heap.get?_push_of_some _ (hx b o e)
    exact h h'.objs.size c' ((X.mg "__name__").getD .none) ctv H _ I1 .refl hT (Heap.get?_push_size _ rfl) (I.fpOk hsz (I.hok.fresh hsz)) hco
end

/-! ### the lambda of one parameter called -/
structure Lam1 (sc scope : Scope) (a : Str) : Prop where
  kind : scope.kind = .function
  co : scope.isCoroutine = false
  gen : scope.isGenerator = false
  par : scope.names.lookup a = some .local
  own : ∀ y ∈ scope.names, y.2 = .local → y.1 = a
  cell : ∀ y ∈ scope.names, y.2 ≠ .cell
  free : ∀ y ∈ scope.names, y.2 = .free → sc.names.lookup y.1 = some .cell ∨ sc.names.lookup y.1 = some .free
def lam1B (sc scope : Scope) (a : Str) : Bool :=
  decide (scope.kind = .function) && (!scope.isCoroutine && (!scope.isGenerator && (decide (scope.names.lookup a = some .local) &&
    scope.names.all fun y => (!decide (y.2 = .local) || decide (y.1 = a)) && (!decide (y.2 = .cell) && (!decide (y.2 = .free) || (decide (sc.names.lookup y.1 = some .cell) || decide (sc.names.lookup y.1 = some .free)))))))
theorem lam1_by {sc scope : Scope} {a : Str} (h : lam1B sc scope a = true) : Lam1 sc scope a := by
  unfold lam1B at h
  simp only [Bool.and_eq_true, Bool.or_eq_true, Bool.not_eq_true', decide_eq_true_eq, decide_eq_false_iff_not, List.all_eq_true] at h
  obtain ⟨h1, h2, h3, h4, h5⟩ := h
  refine ⟨h1, h2, h3, h4, fun y hy e => ?_, fun y hy => (h5 y hy).2.1, fun y hy e => ?_⟩
  · rcases (h5 y hy).1 with z | z
    · exact absurd e z
    · exact z
  · rcases (h5 y hy).2.2 with z | z
    · exact absurd e z
    · exact z
theorem Lam1.has {X : Cx} {scope : Scope} {a : Str} (L : Lam1 X.env.scope scope a) (ok : X.Ok) : ∀ y ∈ scope.names, y.2 = .free → ∃ c, X.env.cells.lookup y.1 = some c := fun y hy e => by
  rcases L.free y hy e with k | k
  · exact ok.has _ (.inl k)
  · exact ok.has _ (.inr k)
/-- the context of the lambda's body, entered at s: the maker's names, then the parameter -/
def lamCx1 (X : Cx) (A : Around) (s : Shared) (H : Hp) (scope : Scope) (a : Str) (f c' : Addr) : Cx where
  prog := X.prog
  w := X.w
  K := X.K
  mg := X.mg
  base := X.base
  A := A.deeper (LamX.lamEnv X scope s.heap.objs.size f c')
  N := X.N ++ [a]
  s_0 := s
  H_0 := H
  env := LamX.lamEnv X scope s.heap.objs.size f c'
  outer := X.stack
  stack := LamX.lamEnv X scope s.heap.objs.size f c' :: X.stack
  ex := []
  fn := fun _ => false
  calm := true
  pn := []
  xe := fun _ _ => False
section
variable {X : Cx} {pins : List (Addr × Obj)} {σ : L2.St} {H : Hp} {s : Shared}
theorem lam_begin {A : Around} {scope : Scope} {a : Str} {f c' : Addr} {h₁ : Heap} {tk : Nat} {v : V} {u : Value} (I : Inv X pins σ H s) (L : Lam1 X.env.scope scope a) (haN : ∀ (i : Nat) (w : V), X.N[i]? = some a → σ[i]? ≠ some (some w)) (e0 : Env0 X.prog X.w X.K X.mg X.base A X.stack s H) (hd : A.handled = none)
    (hns : h₁.Ns s.heap.objs.size fun y => ([(a, u)] : List (Str × Value)).reverse.lookup y) (kp : ∀ b o, s.heap.get? b = some o → h₁.get? b = some o) (rv : RelV v u) :
    Inv (lamCx1 X A s H scope a f c') [] (σ ++ [some v]) H { s with heap := h₁, toks := tk } := by
  have hfree := L.has I.ok
  have cm : ∀ {y c}, (cloFrom X.env.cells scope.names []).lookup y = some c → X.env.cells.lookup y = some c := fun {y c} e => by
    rcases cloFrom_mem (PySem.mem_of_lookup e) with hm | ⟨h1, h2⟩
    · cases hm
    · obtain ⟨c1, hc⟩ := hfree _ h1 rfl
      have hc : X.env.cells.lookup y = some c1 := hc
      have e2 : c = c1 := by
        rw [h2, hc]
        rfl
      rw [e2]
      exact hc
  have look : ∀ {y}, scope.names.lookup y = some .free → ∃ c, (cloFrom X.env.cells scope.names []).lookup y = some c := fun {y} hl =>
    mem_lookup (cloFrom_has (cells := X.env.cells) (acc := []) (show (y, NameKind.free) ∈ scope.names from PySem.mem_of_lookup hl))
  have noA : ∀ b : Addr, b ∉ (lamCx1 X A s H scope a f c').ex := fun b z => absurd (show b ∈ ([] : List Addr) from z) (by simp)
  refine ⟨⟨e0.mod, L.kind, rfl, rfl, Nat.le_refl _, fun y z c e1 e2 => I.ok.inj y z c (cm e1) (cm e2), fun y hy => ?_, fun y c z _ => absurd (show false = true from z) Bool.false_ne_true, fun _ => hd, Around.frames_deeper e0.frames, .inr ⟨rfl, rfl⟩, fun b z => absurd z (noA b), e0.bs, e0.bsz, fun b _ _ => noA b,
      fun b z => absurd z (noA b), e0.funs, e0.frf⟩,
    rfl, e0.bare, Un.kept kp, ⟨_, hns, fun i y w e1 e2 e3 => ?_⟩, fun y c e => ?_, e0.hok.fresh (Nat.le_refl _), fun y c e => I.freeC y c (cm e), fun q hq => absurd (show q ∈ ([] : List (Addr × Obj)) ++ [] from hq) (by simp), e0.hok.kept kp, ?_⟩
  · have hy : scope.names.lookup y = some .cell ∨ scope.names.lookup y = some .free := hy
    rcases hy with hy | hy
    · exact absurd rfl (L.cell _ (PySem.mem_of_lookup hy))
    · exact look hy
  · have e1 : (X.N ++ [a])[i]? = some y := e1
    have e3 : Vis scope y := e3
    rcases Nat.lt_or_ge i X.N.length with hi | hi
    · rw [List.getElem?_append_left hi] at e1
      rw [List.getElem?_append_left (by rw [I.len]; exact hi)] at e2
      rcases e3 with k | k | k
      · have := L.own _ (PySem.mem_of_lookup k) rfl
        exact absurd e2 (haN i w (this ▸ e1))
      · exact absurd rfl (L.cell _ (PySem.mem_of_lookup k))
      · obtain ⟨m, hn, hl⟩ := I.loc
        have hvis : Vis X.env.scope y := (L.free _ (PySem.mem_of_lookup k) rfl).elim (fun k => .inr (.inl k)) (fun k => .inr (.inr k))
        obtain ⟨w', r, q⟩ := hl i y w e1 e2 hvis
        obtain ⟨c2, h2⟩ := look k
        refine ⟨w', r, .inr ⟨.inr k, c2, h2, ?_⟩⟩
        have c1 := cm h2
        rcases q with ⟨k', _⟩ | ⟨_, c3, e', z⟩
        · have k' : X.env.scope.names.lookup y = some .local := k'
          rcases L.free _ (PySem.mem_of_lookup k) rfl with k2 | k2 <;> rw [show X.env.scope.names.lookup y = _ from k2] at k' <;> cases k'
        · rw [c1] at e'
          cases e'
          obtain ⟨o, ho, hdd⟩ := z
          exact ⟨o, kp _ _ ho, hdd⟩
    · have hl : σ.length = X.N.length := I.len
      have hia : i = X.N.length := by
        have := (List.getElem?_eq_some_iff.mp e1).1
        rw [List.length_append, List.length_singleton] at this
        omega
      subst hia
      rw [List.getElem?_append_right (Nat.le_refl _), Nat.sub_self] at e1
      rw [← hl, List.getElem?_append_right (Nat.le_refl _), Nat.sub_self] at e2
      have ey : a = y := Option.some.inj e1
      have ew : some v = some w := Option.some.inj e2
      cases ew
      subst ey
      refine ⟨u, rv, .inl ⟨L.par, ?_⟩⟩
      simp
  · obtain ⟨w', o, ho, hdd⟩ := I.cell y c (cm e)
    exact ⟨w', o, kp _ _ ho, hdd⟩
  · show (σ ++ [some v]).length = (X.N ++ [a]).length
    rw [List.length_append, List.length_append, I.len]
    rfl
theorem lam_call {A : Around} {T : Tbs} {scope : Scope} {a : Str} {f c' : Addr} {pm ctv : Value} {params : Arguments} {body : Expr} {tb : TE} {k : Nat} {v z : V} {u : Value} (I : Inv X pins σ H s) (L : Lam1 X.env.scope scope a) (haN : ∀ (i : Nat) (w : V), X.N[i]? = some a → σ[i]? ≠ some (some w)) (hr : Room (k + 1) A)
    (e0 : Env0 X.prog X.w X.K X.mg X.base A X.stack s H)
    (hf : s.heap.get? f = some (PySem.W.kla_obj "<lambda>" (X.env.qual ++ "<lambda>") params body scope (cloFrom X.env.cells scope.names []) pm c' ctv)) (hc : H c' = some (LamX.CodeO c' (X.env.qual ++ "<lambda>")))
    (hbind : bindArgs (PySem.W.kla_fn "<lambda>" (X.env.qual ++ "<lambda>") params body scope (cloFrom X.env.cells scope.names []) pm (.ref c') ctv) ⟨[u], []⟩ = pure [(a, u)]) (rv : RelV v u)
    (hbody : Room k (A.deeper (LamX.lamEnv X scope s.heap.objs.size f c')) → PE (lamCx1 X A s H scope a f c') body tb) (ht : ∀ Q : VK, (∀ H', Ext T H H' → Q z H') → tb (σ ++ [some v]) H Q) :
    wpAny (model X.prog X.w) A (call (.ref f) [u]) (fun r s' => ∃ H', Inv X pins σ H' s' ∧ RelV z r ∧ Ext T H H') (fun _ _ => False) s := by
  obtain ⟨⟨oc, vs, t, hoc, hdc, hvc⟩, _, _⟩ := I.hok c' _ hc
  have rc : codeAny (model X.prog X.w) A (.call (.ref f) ⟨[u], []⟩) (CR CX0 X.stack X.prog X.w H s (fun x H' => x = z ∧ Ext T H H') E0) s := by
    refine PySem.W.kla_callFunE hr.depth hf rfl L.co L.gen rfl ⟨c', oc, vs, t, rfl, hoc, hdc, hvc⟩ ?_
    rw [hbind]
    refine wpAny_pure (wpAny_newFunctionEnv L.cell (fun y hy => by
      rw [List.mem_singleton.mp hy]
      exact L.par) (fun h₁ hns hsb => ⟨I.nolimit.fresh _ hsb, ?_⟩) L.kind)
    show codeAny _ _ (.expr body (LamX.lamEnv X scope s.heap.objs.size f c')) _ _
    have kp : ∀ b o, s.heap.get? b = some o → h₁.get? b = some o := fun b o e => hsb.extBut b o (Nat.ne_of_lt (Heap.lt_size e)) (Heap.get?_push_of_some _ e)
    have J := lam_begin (A := A) (f := f) (c' := c') (tk := s.toks + ([(a, u)] : List (Str × Value)).length) I L haN e0 hr.hd hns kp rv
    refine PySem.W.kla_codeExpr (wpAny_mono ((hbody (hr.deeper _)).run [] _ _ H (fun x H' => x = z ∧ Ext T H H') J (ht _ fun H' e => ⟨rfl, e⟩)) (fun v s' hq => ?_) fun e s' hq => (show False from hq).elim)
    obtain ⟨w', H', J', rv, q⟩ := hq
    exact ⟨w', H', J'.os, J'.bare, J'.base, J'.hok, rv, q⟩
  refine wpAny_call (codeAny_mono rc fun r s' hq => ?_)
  cases r with
  | error e => exact (show False from hq).elim
  | ok fl =>
    cases fl with
    | ret w =>
      obtain ⟨x, H', J, rx, q⟩ := I.after (Q := fun x H' => x = z ∧ Ext T H H') hq
      obtain ⟨rfl, e⟩ := q
      exact ⟨H', J, rx, e⟩
    | next => exact (show False from hq).elim
    | brk => exact (show False from hq).elim
    | cont => exact (show False from hq).elim
end
end SW

/-! ## SwS -/
/-! sorted(range(n), key=f), the call of f told over the layer. -/
namespace SW
open PySem PySem.Spec PyProof.Rows L2 Bits PySem.W

theorem each_len {α β : Type} {R : α → β → Prop} : ∀ {as : List α} {bs : List β}, EachIs R as bs → as.length = bs.length
  | _, _, .nil => rfl
  | _, _, .cons _ t => congrArg (· + 1) (each_len t)
theorem each_imp {α β : Type} {R S : α → β → Prop} (h : ∀ a b, R a b → S a b) : ∀ {as : List α} {bs : List β}, EachIs R as bs → EachIs S as bs
  | _, _, .nil => .nil
  | _, _, .cons r t => .cons (h _ _ r) (each_imp h t)
theorem each_snoc' {α β : Type} {R : α → β → Prop} {a : α} {b : β} (r : R a b) : ∀ {as : List α} {bs : List β}, EachIs R as bs → EachIs R (as ++ [a]) (bs ++ [b])
  | _, _, .nil => .cons r .nil
  | _, _, .cons q t => .cons q (each_snoc' r t)
theorem each_map' {α β γ : Type} {R : α → γ → Prop} (k : β → γ) : ∀ {as : List α} {bs : List β}, EachIs (fun a b => R a (k b)) as bs → EachIs R as (bs.map k)
  | _, _, .nil => .nil
  | _, _, .cons q t => .cons q (each_map' k t)
theorem vals_nats {L : List Nat} : ∀ {us : List Value}, EachIs (fun v (i : Nat) => RelV (iv i) v) us L → Vals (nats L) us := by
  induction L with
  | nil => intro us h; cases h; exact .nil
  | cons x r ih => intro us h; cases h with | cons q t => exact .cons q (ih t)
theorem each_vals {L : List Nat} : ∀ {us : List Value}, Vals (nats L) us → EachIs (fun v (i : Nat) => RelV (iv i) v) us L := by
  induction L with
  | nil => intro us h; cases h; exact .nil
  | cons x r ih => intro us h; cases h with | cons q t => exact .cons q (ih t)
section
variable {X : Cx} {pins : List (Addr × Obj)} {σ : L2.St} {H : Hp} {s : Shared} {T : Tbs} {Q : VK}
/-- two untracked objects of ours change at once: the one is tracked from now on -/
theorem inv_done {a kS : Addr} {L : List Nat} {h' : Heap} {tk : Nat} {out : List Value} {c : Nat} (I : Inv X pins σ H s) (fa : FpOk X pins H a) (fk : FpOk X pins H kS) (k : ∀ b o, b ≠ a → b ≠ kS → s.heap.get? b = some o → h'.get? b = some o)
    (ha : h'.get? a = some (seqObj "list" out.toArray c)) (hv : Vals (nats L) out) (hz : L.length ≤ 1000) : Inv X pins σ (upd H a (.lst (nats L))) { s with heap := h', toks := tk } := by
  obtain ⟨a1, a2, a3, a4, a5, a6⟩ := fa
  obtain ⟨k1, k2, k3, k4, k5, k6⟩ := fk
  have na : ∀ b u, H b = some u → b ≠ a := fun b u e => ne_of_none e a1
  have nk : ∀ b u, H b = some u → b ≠ kS := fun b u e => ne_of_none e k1
  refine I.step (g' := s.gens) (d' := s.drawn) (ch := [a, kS]) (fun b hb => ?_) (fun b o _ _ hc e _ => k b o (fun z => hc (by simp [z])) (fun z => hc (by simp [z])) e) (fun b o _ _ hc e _ => ⟨o.slots, k b o (fun z => hc (by simp [z])) (fun z => hc (by simp [z])) e⟩)
    (fun b o hc _ n => by rw [upd_ne (fun z => hc (by simp [z]))]; exact n) (fun b o hc e => ⟨o, k b o (fun z => hc (by simp [z])) (fun z => hc (by simp [z])) e⟩) (fun b xs e => by rw [upd_ne (na _ _ e)]; exact e) (fun b o u e => by rw [upd_ne (na _ _ e)]; exact e)
    (fun b ps e => ⟨#[], by rw [upd_ne (na _ _ e), e]; simp⟩) (fun m hm => ?_) (fun b u e => ?_) I.bare
  · rcases List.mem_cons.mp hb with rfl | hb
    · exact ⟨a4, a2, a5, a6⟩
    · rw [List.mem_singleton.mp hb]
      exact ⟨k4, k2, k5, k6⟩
  · obtain ⟨ob, es, ep, ho, r⟩ := hm
    exact ⟨ob, es, ep, k _ ob a2.symm k2.symm ho, r⟩
  · by_cases hb : b = a
    · subst hb
      rw [upd_same] at e
      cases e
      exact ⟨by rw [nats_len]; exact small (by omega), out, c, hv, ha⟩
    · rw [upd_ne hb] at e
      refine (I.hok b u e).stay (fun d w hd q => ?_) (fun d q => by rw [upd_ne (na _ _ q)]; exact q) fun d xs q => by rw [upd_ne (na _ _ q)]; exact q
      rcases hd with z | z
      · rw [z] at q ⊢
        exact k b w hb (nk _ _ e) q
      · exact k d w (na _ _ z) (nk _ _ z) q
theorem sorted_lam {n : Nat} {r f : Addr} {g : Nat → Nat} {fo : Obj} {t u v : Tok} (I : Inv X pins σ H s) (hh : X.A.handled = none) (hr : IsRange s.heap r 0 (n : Int) 1 t u v) (hn : n ≤ 1000) (hf : s.heap.get? f = some fo) (hff : FpOk X pins H f) (hfc : ∀ v, fo.data ≠ .cell v)
    (hu : X.A.units + 64 < cLine)
    (call1 : ∀ (i : Nat) (s' : Shared) (H' : Hp) (pins' : List (Addr × Obj)) (w : Value), i < n → Inv X pins' σ H' s' → Ext T H H' → s'.heap.get? f = some fo → RelV (iv i) w →
      wpAny (model X.prog X.w) X.A.in1.in1 (call (.ref f) [w]) (fun r s'' => ∃ H'', Inv X pins' σ H'' s'' ∧ RelV (iv (g i)) r ∧ Ext T H' H'') (fun _ _ => False) s')
    (q : ∀ (L : List Nat) (p : Addr) (H3 : Hp), Ext T H H3 → H p = none → H3 p = some (.lst (nats L)) → L.Perm (List.range n) → L.Pairwise (fun a b => g a ≤ g b) → Q (.ref p) H3) :
    wpAny (model X.prog X.w) X.A (call (.builtin "sorted") [.ref r] [(Str.ofString "key", .ref f)]) (EP X pins σ Q) X.xe s := by
  refine call_function_entry_kw kind_sorted plain_sorted entry_sorted (ksk_s1 _ _) ?_
  unfold Builtin.«sorted»
  refine wpAny_bind (m := checkCount "sorted" 1 1 _) (wpAny_pure ?_)
  have hok : RgOk 0 (n : Int) := RgOk.of_le (by omega) (by omega) (by omega) (by omega)
  refine wpAny_bind (collect_range (n := n) (A := X.A.in1) hh hr ?_ ?_ (by omega) fun h1 tk acc hk hacc => ?_)
  · exact small_one (by omega) (by omega) (by omega) (by omega)
  · rw [rangeSize_nat]; omega
  have hvs : Vals (nats (List.range n)) acc.toList := by
    have h2 := vals_rg (a := 0) (b := (n : Int)) (by rw [show ((n : Int) - 0).toNat = n by omega]; exact hacc)
    unfold rgV at h2
    rw [show ((n : Int) - 0).toNat = n by omega] at h2
    refine cast ?_ h2
    congr 1
    unfold nats
    refine List.map_congr_left fun i _ => ?_
    rw [Int.zero_add]
  have hlen : acc.toList.length = n := by
    have := hvs.length
    rw [nats_len, List.length_range] at this
    exact this.symm
  generalize acc.toList = vs at hvs hlen
  have I1 : Inv X pins σ H { s with heap := h1, toks := tk } := I.kept hk
  have hz : vs.length ≤ sizeLine := by rw [hlen]; exact small (by omega)
  refine wpAny_bind (wpAny_newList ?_ hz)
  obtain ⟨a, ea⟩ : ∃ a, h1.objs.size = a := ⟨_, rfl⟩
  show wpAny _ _ _ _ _ { s with heap := h1.push (seqObj "list" vs.toArray 0), toks := tk }
  have fa : FpOk X pins H a := I1.fpOk (Nat.le_of_eq ea) (I1.hok.fresh (Nat.le_of_eq ea))
  have o1 : (h1.push (seqObj "list" vs.toArray 0)).get? a = some (seqObj "list" vs.toArray 0) := by rw [← ea]; exact Heap.get?_push_size _ rfl
  have I2 : Inv X pins σ H { s with heap := h1.push (seqObj "list" vs.toArray 0), toks := tk } := I1.kept (t' := tk) fun b o e => Heap.get?_push_of_some _ e
  show wpAny _ _ _ _ _ _
  rw [show (Value.ref h1.objs.size) = .ref a by rw [ea]]
  refine wpAny_bind (wpAny_holding (wpAny_call_entry_kw slot_list_sort ⟨_, o1, rfl⟩ entry_list_sort ?_ (ksk_l1 _ _)))
  show wpAny (model X.prog X.w) X.A.in1.in1 (Builtin.«list.sort» ⟨[.ref a], [(Str.ofString "key", .ref f)]⟩) _ _ _
  rw [ksk_t1]
  unfold ksk_tree
  refine wpAny_bind (listItems_at o1 rfl ?_)
  refine wpAny_bind (listUpdate_at o1 rfl ?_ (by rw [List.size_toArray]; exact hz) (Nat.zero_le _))
  obtain ⟨e1, o2⟩ : ∃ e1, ((h1.push (seqObj "list" vs.toArray 0)).update a (Obj.mapSeq fun _ => (#[] : Array Value))).get? a = some (seqObj "list" #[] e1) := ⟨_, get?_update_seq o1 fun _ => #[]⟩
  have sb := Heap.SameBut.update (h1.push (seqObj "list" vs.toArray 0)) a (Obj.mapSeq fun _ => (#[] : Array Value))
  have I3 : Inv X pins σ H { s with heap := (h1.push (seqObj "list" vs.toArray 0)).update a (Obj.mapSeq fun _ => (#[] : Array Value)), toks := tk } :=
    Inv.turned (s := { s with heap := h1.push (seqObj "list" vs.toArray 0), toks := tk }) (it := a) (t' := tk) I2 (fun b o hb e => (sb.2 b hb).trans e) fa.1 fa.2.1 fa.2.2.2.1 fa.2.2.2.2.1 fa.2.2.2.2.2
  have f3 : ((h1.push (seqObj "list" vs.toArray 0)).update a (Obj.mapSeq fun _ => (#[] : Array Value))).get? f = some fo := by
    rw [sb.2 f fun z => ?_]
    · exact Heap.get?_push_of_some _ (hk _ _ hf)
    · have h2 := Heap.lt_size (hk _ _ hf)
      rw [z, ea] at h2
      exact Nat.lt_irrefl _ h2
  generalize (h1.push (seqObj "list" vs.toArray 0)).update a (Obj.mapSeq fun _ => (#[] : Array Value)) = h3 at o2 I3 f3
  refine wpAny_bind (seqEpoch_at o2 rfl ?_)
  refine wpAny_bind (wpAny_newTuple ?_ (by show vs.toArray.toList.length ≤ _; exact hz))
  refine wpAny_bind (wpAny_newList ?_ (Nat.zero_le _))
  refine wpAny_holding ?_
  have I4 : Inv X pins σ H { s with heap := h3.push (seqObj "tuple" vs.toArray.toList.toArray 0), toks := tk } := I3.kept (t' := tk) fun b o e => Heap.get?_push_of_some _ e
  obtain ⟨kS, ek⟩ : ∃ kS, (h3.push (seqObj "tuple" vs.toArray.toList.toArray 0)).objs.size = kS := ⟨_, rfl⟩
  have fk : FpOk X pins H kS := I4.fpOk (Nat.le_of_eq ek) (I4.hok.fresh (Nat.le_of_eq ek))
  have hka : kS ≠ a := fun z => by
    have h2 := Heap.lt_size o2
    have e : a = h3.objs.size + 1 := by rw [← z, ← ek, size_push']
    rw [e] at h2
    exact absurd h2 (Nat.not_lt_of_le (Nat.le_succ _))
  have hkf : kS ≠ f := fun z => by
    have h2 := Heap.lt_size f3
    have e : f = h3.objs.size + 1 := by rw [← z, ← ek, size_push']
    rw [e] at h2
    exact absurd h2 (Nat.not_lt_of_le (Nat.le_succ _))
  show wpAny _ _ _ _ _ { s with heap := (h3.push (seqObj "tuple" vs.toArray.toList.toArray 0)).push (seqObj "list" #[] 0), toks := tk }
  rw [show (Value.ref (h3.push (seqObj "tuple" vs.toArray.toList.toArray 0)).objs.size) = .ref kS by rw [ek]]
  have I5 : Inv X pins σ H { s with heap := (h3.push (seqObj "tuple" vs.toArray.toList.toArray 0)).push (seqObj "list" #[] 0), toks := tk } := I4.kept (t' := tk) fun b o e => Heap.get?_push_of_some _ e
  have o5 : ((h3.push (seqObj "tuple" vs.toArray.toList.toArray 0)).push (seqObj "list" #[] 0)).get? a = some (seqObj "list" #[] e1) := Heap.get?_push_of_some _ (Heap.get?_push_of_some _ o2)
  have f5 : ((h3.push (seqObj "tuple" vs.toArray.toList.toArray 0)).push (seqObj "list" #[] 0)).get? f = some fo := Heap.get?_push_of_some _ (Heap.get?_push_of_some _ f3)
  have k5 : ((h3.push (seqObj "tuple" vs.toArray.toList.toArray 0)).push (seqObj "list" #[] 0)).get? kS = some (seqObj "list" #[] 0) := by rw [← ek]; exact Heap.get?_push_size _ rfl
  generalize (h3.push (seqObj "tuple" vs.toArray.toList.toArray 0)).push (seqObj "list" #[] 0) = h5 at I5 o5 f5 k5
  unfold ksk_rest
  refine wpAny_bind (wpAny_rule ?_)
  rw [List.forIn_toArray]
  refine wpAny_bind (ksk_fold (fun j s' => ∃ (H' : Hp) (kA : Array Value) (e : Nat), Inv X pins σ H' s' ∧ Ext T H H' ∧ H' a = none ∧ H' kS = none ∧ H' f = none ∧ s'.heap.get? a = some (seqObj "list" #[] e1) ∧ s'.heap.get? f = some fo ∧ s'.heap.get? kS = some (seqObj "list" kA e) ∧
      EachIs (fun w (i : Nat) => RelV (iv (g i)) w) kA.toList (List.range j)) vs 0 { s with heap := h5, toks := tk }
    ⟨H, #[], 0, I5, .refl, fa.1, fk.1, hff.1, o5, f5, k5, EachIs.nil⟩ (fun j x s' hx hJ => ?_) fun s' hJ => ?_)
  · rw [Nat.zero_add] at hJ ⊢
    obtain ⟨H', kA, e, J, eH, na, nk, nf, oa, of, ok', hE⟩ := hJ
    have hj : j < n := by rw [← hlen]; exact (List.getElem?_eq_some_iff.mp hx).1
    have rx : RelV (iv j) x := by
      obtain ⟨u, h1, h2⟩ := hvs.get (i := j) (x := iv j) (by rw [List.getElem?_map, List.getElem?_range hj]; rfl)
      rw [hx] at h1
      cases h1
      exact h2
    have hkz : kA.size = j := by
      have := each_len hE
      rw [List.length_range, Array.length_toList] at this
      exact this
    have fp : ∀ b ∈ [a, kS, f], FpOk X pins H' b := fun b hb => by
      rcases List.mem_cons.mp hb with rfl | hb
      · exact ⟨na, fa.2⟩
      · rcases List.mem_cons.mp hb with rfl | hb
        · exact ⟨nk, fk.2⟩
        · rw [List.mem_singleton.mp hb]
          exact ⟨nf, hff.2⟩
    have hob : ∀ b ∈ [a, kS, f], ∃ o, s'.heap.get? b = some o ∧ ∀ v, o.data ≠ .cell v := fun b hb => by
      rcases List.mem_cons.mp hb with rfl | hb
      · exact ⟨_, oa, fun v z => nomatch z⟩
      · rcases List.mem_cons.mp hb with rfl | hb
        · exact ⟨_, ok', fun v z => nomatch z⟩
        · rw [List.mem_singleton.mp hb]
          exact ⟨_, of, hfc⟩
    have J2 := J.pinned fp hob
    have pa := mem_pinsAt (fp := [a, kS, f]) (b := a) (by simp) oa
    have pk := mem_pinsAt (fp := [a, kS, f]) (b := kS) (by simp) ok'
    have pf := mem_pinsAt (fp := [a, kS, f]) (b := f) (by simp) of
    refine wpAny_bind (wpAny_attempt (wpAny_mono (call1 j s' H' _ x hj J2 eH of rx) (fun v s2 hq => ?_) fun _ _ hF => hF.elim))
    obtain ⟨H2, J3, rv, e2⟩ := hq
    obtain ⟨oa2, na2, _⟩ := J3.pin _ (List.mem_append_right _ (List.mem_append_right _ pa))
    obtain ⟨ok2, nk2, _⟩ := J3.pin _ (List.mem_append_right _ (List.mem_append_right _ pk))
    obtain ⟨of2, nf2, _⟩ := J3.pin _ (List.mem_append_right _ (List.mem_append_right _ pf))
    have J4 := J3.unpinned
    have sb2 := Heap.SameBut.update s2.heap kS (Obj.mapSeq (·.push v))
    obtain ⟨c2, hc2⟩ : ∃ c2, (s2.heap.update kS (Obj.mapSeq (·.push v))).get? kS = some (seqObj "list" (kA.push v) c2) := ⟨_, get?_update_seq ok2 (·.push v)⟩
    have hs1 : kA.size ≤ sizeLine := by rw [hkz]; exact small (by omega)
    have hs2 : (kA.push v).size ≤ sizeLine + 1 := by rw [Array.size_push]; omega
    refine wpAny_bind (listUpdate_at ok2 rfl ?_ hs1 hs2)
    refine wpAny_pure ⟨rfl, H2, kA.push v, c2, J4.turned (it := kS) (t' := s2.toks) (fun b o hb e => (sb2.2 b hb).trans e) nk2 fk.2.1 fk.2.2.2.1 fk.2.2.2.2.1 fk.2.2.2.2.2, eH.trans e2, na2, nk2, nf2, (sb2.2 a hka.symm).trans oa2, (sb2.2 f hkf.symm).trans of2, hc2, ?_⟩
    rw [Array.toList_push, List.range_succ]
    exact each_snoc' (R := fun w (i : Nat) => RelV (iv (g i)) w) rv hE
  · rw [Nat.zero_add] at hJ
    obtain ⟨H', kA, e, J, eH, na, nk, nf, oa, of, ok', hE⟩ := hJ
    rw [hlen] at hE
    have hkz : kA.size = n := by
      have := each_len hE
      rw [List.length_range, Array.length_toList] at this
      exact this
    refine wpAny_bind (listItems_at ok' rfl ?_)
    have hds : EachIs (fun w d => ∃ as, Reads s'.heap w d as) kA.toList ((List.range n).map fun i => PyData.int (g i : Nat)) := each_map' (fun (i : Nat) => PyData.int (g i : Nat)) (each_imp (fun w i rw' => by
      obtain ⟨tk', rfl⟩ := rw'
      exact ⟨[], Reads.int _ _⟩) hE)
    have hal : AllAlike ((List.range n).map fun i => PyData.int (g i : Nat)) := AllAlike.of fun b b' => by simp [alike]
    have hso : Sortable ((List.range n).map fun i => PyData.int (g i : Nat)) := Sortable.others fun b => ⟨(fun z => nomatch z), fun xs z => nomatch z⟩
    refine keyH_end (κ := dataKind s'.heap ((List.range n).map fun i => PyData.int (g i : Nat))) (h₁ := hideAll s'.heap [kS]) (fun b o hb ho => of_hideAll _ ho) (hideAll_none [kS] (by simp)) ok' oa hka
      (SortsAt.data hds hal hso fun d hd => ?_) (by rw [hkz, hlen]) hz fun h' tk' c kp ho => ?_
    · obtain ⟨i, _, rfl⟩ := List.mem_map.mp hd
      show X.A.units + 2 + 0 < cLine
      omega
    · have hout : EachIs (fun w (i : Nat) => RelV (iv i) w) (sortVals (dataKind s'.heap ((List.range n).map fun i => PyData.int (g i : Nat))) false kA.toList vs) ((List.range n).mergeSort (dataLe false fun i => PyData.int (g i : Nat))) :=
        keyedOut_each (fun i => PyData.int (g i : Nat)) ⟨s'.heap, kA.toList, hal, rfl, hds⟩ (each_vals hvs)
      rw [dataLe_int (fun i : Nat => (g i : Int))] at hout
      have hperm := List.mergeSort_perm (List.range n) (fun a b => decide (((g a : Nat) : Int) ≤ (g b : Nat)))
      have hpw : ((List.range n).mergeSort fun a b => decide (((g a : Nat) : Int) ≤ (g b : Nat))).Pairwise fun a b => g a ≤ g b := by
        have h2 := List.pairwise_mergeSort (le := fun a b => decide (((g a : Nat) : Int) ≤ (g b : Nat))) (fun a b c x y => by
          simp only [decide_eq_true_eq] at x y ⊢
          omega) (fun a b => by
          simp only [Bool.or_eq_true, decide_eq_true_eq]
          omega) (List.range n)
        refine h2.imp fun {a b} h3 => ?_
        simp only [decide_eq_true_eq] at h3
        omega
      generalize (List.range n).mergeSort (fun a b => decide (((g a : Nat) : Int) ≤ (g b : Nat))) = L at hout hperm hpw
      have hLl : L.length = n := by rw [hperm.length_eq, List.length_range]
      refine ⟨.none, rfl, wpAny_pure ⟨_, rfl, .ref a, upd H' a (.lst (nats L)), ?_, rfl, q L a _ (Ext.newer eH na) (eH.back na) upd_same hperm hpw⟩⟩
      refine inv_done (kS := kS) J ⟨na, fa.2⟩ ⟨nk, fk.2⟩ (fun b o h1 h2 h3 => kp b o h1 (hideAll_get _ h3 (by simp [h2]))) ho (vals_nats hout) (by omega)
end
end SW

/-! ## SwS2 -/
/-! The rule for sorted(range(e), key=lambda a: body). -/
namespace SW
open PySem PySem.Spec PyProof.Rows L2 Bits
section
variable {X : Cx}
/-- range(e) as a value: a new range object -/
def tRngV (te : TE) : TE := fun σ H Q => te σ H fun x H1 => ∃ n : Int, x = .int n ∧ ∀ r, H1 r = none → Q (.ref r) (upd H1 r (.rng 0 n))
theorem pe_rngV {e : Expr} {te : TE} {p pos : Pos} (hg : Gl X "range") (hm : X.mg "range" = none) (he : PE X e te) (na : starEach [e] X.env = (false, eval e X.env) :: starEach [] X.env := by rfl) : PE X (.Call (.Name "range" p) [e] [] pos) (tRngV te) := by
  refine ⟨fun pins s σ H Q I h => ?_⟩
  refine Call_ (ld_blt I hg hm boot_range (PyProof.Rows.callWith_type1 (one_arg he I h (fun v s2 x H2 I2 r q => ?_) na) na))
  obtain ⟨n, rfl, q⟩ := q
  obtain ⟨t, rfl⟩ := r
  exact call_range_1 ⟨.ref s2.heap.objs.size, upd H2 s2.heap.objs.size (.rng 0 n), I2.laid (fun b u e => Heap.get?_push_of_some _ e) (Nat.le_refl _) ⟨_, _, _, Heap.get?_push_size _ rfl⟩, rfl, q _ (I2.hok.fresh (Nat.le_refl _))⟩
def tSortL (T : Tbs) (N : List Str) (a : Str) (te tb : TE) : TE := fun σ H Q => (∀ (i : Nat) (w : V), N[i]? = some a → σ[i]? ≠ some (some w)) ∧ tCons (tRngV te) tNil σ H fun vs H1 => ∃ (n : Nat) (H0 : Hp) (r : Addr), vs = [.ref r] ∧ H1 = upd H0 r (.rng 0 (n : Int)) ∧ H0 r = none ∧ n ≤ 1000 ∧ LamX.Tabs T H0 ∧ ∃ g : Nat → Nat,
  (∀ i H2, i < n → Ext T H0 H2 → ∀ R : VK, (∀ H3, Ext T H2 H3 → R (iv (g i)) H3) → tb (σ ++ [some (iv i)]) H2 R) ∧
  ∀ (L : List Nat) (p : Addr) (H3 : Hp), Ext T H0 H3 → H0 p = none → H3 p = some (.lst (nats L)) → L.Perm (List.range n) → L.Pairwise (fun a b => g a ≤ g b) → Q (.ref p) H3
theorem s_sortL {T : Tbs} {N : List Str} {a : Str} {te tb : TE} {σ : L2.St} {H : Hp} {Q : VK} {n : Nat} (g : Nat → Nat) (hN : ∀ (i : Nat) (w : V), N[i]? = some a → σ[i]? ≠ some (some w)) (he : Vv te σ H (iv n)) (hn : n ≤ 1000) (hT : LamX.Tabs T H)
    (hb : ∀ i H2, i < n → Ext T H H2 → ∀ R : VK, (∀ H3, Ext T H2 H3 → R (iv (g i)) H3) → tb (σ ++ [some (iv i)]) H2 R)
    (q : ∀ (L : List Nat) (p : Addr) (H3 : Hp), Ext T H H3 → H p = none → H3 p = some (.lst (nats L)) → L.Perm (List.range n) → L.Pairwise (fun a b => g a ≤ g b) → Q (.ref p) H3) : tSortL T N a te tb σ H Q :=
  ⟨hN, he _ ⟨(n : Int), rfl, fun r hr => ⟨n, H, r, rfl, rfl, hr, hn, hT, g, hb, q⟩⟩⟩
theorem pe_sortL {T : Tbs} {e : Expr} {te tb : TE} {c P : Addr} {params : Arguments} {body : Expr} {scope : Scope} {a : Str} {k : Nat} {p p2 pos pos2 lpos kpos : Pos} (hcalm : X.calm = true) (hgs : Gl X "sorted") (hms : X.mg "sorted" = none) (hgr : Gl X "range") (hmr : X.mg "range" = none)
    (he : PE X e te) (TB : LamX.TabB X.base X.mg c P) (hcode : X.env.code = .ref c) (hm : (P, X.env.qual ++ "<lambda>") ∈ T) (hu : ∀ p ∈ T, p.1 = P → p.2 = X.env.qual ++ "<lambda>") (hr : Room (k + 3) X.A) (L : Lam1 X.env.scope scope a) 
    (hbody : ∀ (A : Around) (s : Shared) (H : Hp) (f c' : Addr), Room k (A.deeper (LamX.lamEnv X scope s.heap.objs.size f c')) → PE (lamCx1 X A s H scope a f c') body tb)
    (hdef : defaultsOf params X.env = ([], []) := by rfl)
    (hbind : ∀ (q : Str) (cl : List (Str × Addr)) (pm cv ctv u : Value), bindArgs (PySem.W.kla_fn "<lambda>" q params body scope cl pm cv ctv) ⟨[u], []⟩ = pure [(a, u)] := by intros; rfl)
    (na : starEach [e] X.env = (false, eval e X.env) :: starEach [] X.env := by rfl) :
    PE X (.Call (.Name "sorted" p) [.Call (.Name "range" p2) [e] [] pos2] [⟨some "key", .Lambda params body scope lpos, kpos⟩] pos) (tSortL T X.N a te tb) := by
  refine ⟨fun pins s σ H Q I h => ?_⟩
  obtain ⟨haN, h⟩ := h
  refine wpAny_Call_Name_kw (ld_blt I hgs hms (u := .builtin "sorted") (by decide +kernel) ?_)
  refine PyProof.Rows.callWith_kw (thn ((pa_cons (pe_rngV (p := p2) (pos := pos2) hgr hmr he na) pa_nil).run pos pins s σ H _ I h) fun us s1 hq => ?_)
  obtain ⟨vs, H1, I1, r1, n, H0, r, rfl, rfl, hr0, hn, hT, g, hb, q⟩ := hq
  have eus : us = [.ref r] := by
    obtain ⟨u, e, ru⟩ := vals1 r1
    rw [e]
    exact congrArg (fun z => [z]) ru
  subst eus
  show wpAny _ _ (evalAll ((do let v ← eval (.Lambda params body scope lpos) X.env; standAt pos; pure v) :: [])) _ _ s1
  have e0 : Ext T H0 (upd H0 r (.rng 0 (n : Int))) := .new hr0
  refine wpAny_evalAll_cons (wpAny_bind (lam_made (T := T) I1 TB hcode hm hu (e0.tb hT) hdef (L.has I.ok) fun f c' pm ctv H2 s2 I2 e2 T2 hf hff hc => wpAny_bind (wpAny_standAt (wpAny_pure ?_))))
  refine wpAny_pure ?_
  show wpAny _ _ (call (.builtin "sorted") [.ref r] [(Str.ofString "key", .ref f)]) _ _ _
  have e02 : Ext T H0 H2 := e0.trans e2
  have hrr : H2 r = some (.rng 0 (n : Int)) := e2.kp _ _ upd_same fun _ z => nomatch z
  obtain ⟨t1, t2, t3, hrg⟩ := I2.hok r _ hrr
  refine sorted_lam (T := T) (g := g) (n := n) I2 (I2.ok.hd hcalm) hrg hn hf hff (fun v z => nomatch z) hr.units (fun i s' H' pins' w hi I' e' hf' rw' => ?_) fun L p H3 e3 hp h3 hperm hpw => q L p H3 (e02.trans e3) (e02.back hp) h3 hperm hpw
  · refine lam_call (T := T) (tb := tb) (k := k) (v := iv i) (z := iv (g i)) I' L haN hr.in1.in1 I'.env0.in1.in1 hf' (e'.kp _ _ hc LamX.codeO_ne) (hbind _ _ _ _ _ _) rw' (fun hr' => hbody _ s' H' f c' hr') fun R hR => hb i H' hi (e02.trans e') R hR
end
end SW

/-! ## SwM2 -/
/-! Signs and chains of an order: the numbers, and that whoever fills a row in an order by sizes gets them. -/
namespace SW
def down (O : List Nat) (b : Nat) : List Nat := (List.range O.length).filter fun c => le O c b
def sz (O : List Nat) (b : Nat) : Nat := (down O b).length
theorem mem_down {O : List Nat} {b c : Nat} : c ∈ down O b ↔ c < O.length ∧ le O c b = true := by
  unfold down; rw [List.mem_filter, List.mem_range]
theorem sz_lt {O : List Nat} (h : IsOrd O) {c b : Nat} (hl : le O c b = true) (hn : c ≠ b) : sz O c < sz O b := by
  refine filter_len_lt _ _ _ (fun x _ hx => h.tr _ _ _ hx hl) b (List.mem_range.mpr (le_bd h hl).2) (h.rf b (le_bd h hl).2) ?_
  cases z : le O b c with
  | false => rfl
  | true => exact absurd (h.an _ _ hl z) hn
theorem sz_pos {O : List Nat} (h : IsOrd O) {b : Nat} (hb : b < O.length) : 0 < sz O b :=
  List.length_pos_of_mem (mem_down.mpr ⟨hb, h.rf b hb⟩)
theorem sz_le (O : List Nat) (b : Nat) : sz O b ≤ O.length := by
  have := List.length_filter_le (fun c => le O c b) (List.range O.length)
  rw [List.length_range] at this
  exact this
/-! ### the numbers: for e = -1 the signs, for e = 1 the chains -/
def gF (O : List Nat) (e : Int) : Nat → Nat → Nat → Int
  | 0, _, _ => 0
  | k + 1, a, b => if a = b then 1 else if le O a b = true then e * ((down O b).map fun c => if c = b then 0 else gF O e k a c).sum else 0
def gn (O : List Nat) (e : Int) (a b : Nat) : Int := gF O e (sz O b) a b
theorem gF_stable {O : List Nat} (h : IsOrd O) (e : Int) (a : Nat) : ∀ (N b : Nat), b < O.length → sz O b ≤ N → ∀ k j, sz O b ≤ k → sz O b ≤ j → gF O e k a b = gF O e j a b := by
  intro N
  induction N with
  | zero => intro b hb hN; exact absurd (sz_pos h hb) (by omega)
  | succ N ih =>
    intro b hb hN k j hk hj
    have hp := sz_pos h hb
    obtain ⟨k', rfl⟩ : ∃ m, k = m + 1 := ⟨k - 1, by omega⟩
    obtain ⟨j', rfl⟩ : ∃ m, j = m + 1 := ⟨j - 1, by omega⟩
    unfold gF
    by_cases q : a = b
    · rw [if_pos q, if_pos q]
    · rw [if_neg q, if_neg q]
      by_cases l : le O a b = true
      · rw [if_pos l, if_pos l]
        congr 2
        refine List.map_congr_left fun c hc => ?_
        by_cases z : c = b
        · rw [if_pos z, if_pos z]
        · rw [if_neg z, if_neg z]
          have h1 := sz_lt h (mem_down.mp hc).2 z
          exact ih c (mem_down.mp hc).1 (by omega) k' j' (by omega) (by omega)
      · rw [if_neg l, if_neg l]
theorem gn_self {O : List Nat} (h : IsOrd O) (e : Int) {a : Nat} (ha : a < O.length) : gn O e a a = 1 := by
  unfold gn
  obtain ⟨m, hm⟩ : ∃ m, sz O a = m + 1 := ⟨sz O a - 1, by have := sz_pos h ha; omega⟩
  rw [hm]
  unfold gF
  rw [if_pos rfl]
theorem gn_off {O : List Nat} {e : Int} {a b : Nat} (hn : a ≠ b) (hl : le O a b = false) : gn O e a b = 0 := by
  unfold gn
  cases sz O b with
  | zero => rfl
  | succ m =>
    unfold gF
    rw [if_neg hn, if_neg (by rw [hl]; decide)]
theorem gn_rec {O : List Nat} (h : IsOrd O) (e : Int) {a b : Nat} (hn : a ≠ b) (hl : le O a b = true) : gn O e a b = e * ((down O b).map fun c => if c = b then 0 else gn O e a c).sum := by
  have hb := (le_bd h hl).2
  unfold gn
  obtain ⟨m, hm⟩ : ∃ m, sz O b = m + 1 := ⟨sz O b - 1, by have := sz_pos h hb; omega⟩
  rw [hm]
  conv => lhs; unfold gF
  rw [if_neg hn, if_pos hl]
  congr 2
  refine List.map_congr_left fun c hc => ?_
  by_cases z : c = b
  · rw [if_pos z, if_pos z]
  · rw [if_neg z, if_neg z]
    have h1 := sz_lt h (mem_down.mp hc).2 z
    exact gF_stable h e a _ c (mem_down.mp hc).1 (Nat.le_refl _) _ _ (by omega) (Nat.le_refl _)
/-! ### whoever fills by sizes -/
structure BySize (O : List Nat) (L : List Nat) : Prop where
  perm : L.Perm (List.range O.length)
  up : L.Pairwise fun a b => sz O a ≤ sz O b
theorem BySize.mem {O L : List Nat} (h : BySize O L) {b : Nat} : b ∈ L ↔ b < O.length := by rw [h.perm.mem_iff, List.mem_range]
theorem BySize.nodup {O L : List Nat} (h : BySize O L) : L.Nodup := h.perm.nodup_iff.mpr List.nodup_range
/-- at b's turn all beneath b are through, b is not -/
theorem BySize.turn {O L : List Nat} (hO : IsOrd O) (h : BySize O L) {i b : Nat} (hi : L[i]? = some b) : b ∉ L.take i ∧ ∀ c, le O c b = true → c ≠ b → c ∈ L.take i := by
  obtain ⟨hil, hib⟩ := List.getElem?_eq_some_iff.mp hi
  have split : L = L.take i ++ b :: L.drop (i + 1) := by
    rw [← hib, ← List.drop_eq_getElem_cons hil, List.take_append_drop]
  have nd := h.nodup
  have up := h.up
  rw [split] at nd up
  refine ⟨fun hm => ?_, fun c hl hn => ?_⟩
  · exact (List.nodup_append.mp nd).2.2 b hm b List.mem_cons_self rfl
  · have hc : c ∈ L := h.mem.mpr (le_bd hO hl).1
    rw [split] at hc
    rcases List.mem_append.mp hc with q | q
    · exact q
    · rcases List.mem_cons.mp q with q | q
      · exact absurd q hn
      · have h1 := (List.pairwise_cons.mp (List.pairwise_append.mp up).2.1).1 c q
        have h2 := sz_lt hO hl hn
        omega
def stG (O : List Nat) (e : Int) (a : Nat) (R : List Int) (b : Nat) : List Int := if b ≠ a ∧ le O a b = true then R.set b (e * ((down O b).map fun c => R.getD c 0).sum) else R
theorem getD_setI (M : List Int) (b : Nat) (v : Int) (i : Nat) (h : b < M.length) : (M.set b v).getD i 0 = if i = b then v else M.getD i 0 := by
  rw [List.getD_eq_getElem?_getD, List.getD_eq_getElem?_getD, List.getElem?_set]
  by_cases q : b = i
  · subst q; rw [if_pos rfl, if_pos h, if_pos rfl]; rfl
  · rw [if_neg q, if_neg (fun e => q e.symm)]
def rw0 (n a : Nat) : List Int := (List.replicate n 0).set a 1
theorem rep_getD (n i : Nat) : (List.replicate n (0 : Int)).getD i 0 = 0 := by
  rw [List.getD_eq_getElem?_getD, List.getElem?_replicate]; split <;> rfl
theorem fill_len (O : List Nat) (e : Int) (a : Nat) (L : List Nat) : ∀ R : List Int, (L.foldl (stG O e a) R).length = R.length := by
  induction L with
  | nil => intro R; rfl
  | cons b r ih =>
    intro R
    rw [List.foldl_cons, ih]
    unfold stG
    split
    · rw [List.length_set]
    · rfl
theorem fill_to {O L : List Nat} (hO : IsOrd O) (hL : BySize O L) (e : Int) {a : Nat} (ha : a < O.length) : ∀ i, i ≤ L.length → ∀ b, b < O.length →
    ((L.take i).foldl (stG O e a) (rw0 O.length a)).getD b 0 = if b ∈ L.take i then gn O e a b else if b = a then 1 else 0
  | 0, _, b, hb => by
    rw [List.take_zero, List.foldl_nil, if_neg (by simp)]
    unfold rw0
    rw [getD_setI _ _ _ _ (by rw [List.length_replicate]; exact ha), rep_getD]
  | i + 1, hi, b, hb => by
    have hil : i < L.length := by omega
    obtain ⟨x, hx⟩ : ∃ x, L[i]? = some x := ⟨_, List.getElem?_eq_getElem hil⟩
    have ih := fill_to hO hL e ha i (by omega)
    have hR := fill_len O e a (L.take i) (rw0 O.length a)
    obtain ⟨t1, t2⟩ := hL.turn hO hx
    rw [List.take_add_one, hx, Option.toList_some, List.foldl_append, List.foldl_cons, List.foldl_nil]
    generalize (L.take i).foldl (stG O e a) (rw0 O.length a) = R at ih hR ⊢
    have hRl : R.length = O.length := by rw [hR]; unfold rw0; rw [List.length_set, List.length_replicate]
    have hxn : x < O.length := hL.mem.mp (List.mem_of_getElem? hx)
    have key : (stG O e a R x).getD b 0 = if b = x then (if x = a then R.getD x 0 else gn O e a x) else R.getD b 0 := by
      unfold stG
      by_cases q : x ≠ a ∧ le O a x = true
      · rw [if_pos q, getD_setI _ _ _ _ (by rw [hRl]; exact hxn)]
        by_cases z : b = x
        · rw [if_pos z, if_pos z, if_neg q.1, gn_rec hO e (fun y => q.1 y.symm) q.2]
          congr 2
          refine List.map_congr_left fun c hc => ?_
          have hcm := mem_down.mp hc
          rw [ih c hcm.1]
          by_cases y : c = x
          · rw [if_pos y, y, if_neg t1, if_neg q.1]
          · rw [if_neg y, if_pos (t2 c hcm.2 y)]
        · rw [if_neg z, if_neg z]
      · rw [if_neg q]
        by_cases z : b = x
        · rw [if_pos z, z]
          by_cases y : x = a
          · rw [if_pos y]
          · rw [if_neg y, ih x hxn, if_neg t1, if_neg y]
            have : le O a x = false := by
              cases w : le O a x with
              | false => rfl
              | true => exact absurd ⟨y, w⟩ q
            rw [gn_off (fun w => y w.symm) this]
        · rw [if_neg z]
    rw [key]
    by_cases z : b = x
    · subst z
      have hm : (if b ∈ L.take i ++ [b] then gn O e a b else (if b = a then 1 else 0)) = gn O e a b := if_pos (by simp)
      rw [if_pos rfl, hm]
      by_cases y : b = a
      · rw [if_pos y, ih b hxn, if_neg t1, if_pos y, y, gn_self hO e ha]
      · rw [if_neg y]
    · rw [if_neg z, ih b hb]
      by_cases w : b ∈ L.take i
      · have h1 : b ∈ L.take i ++ [x] := List.mem_append_left _ w
        rw [if_pos w, if_pos h1]
      · have h1 : ¬ b ∈ L.take i ++ [x] := fun q => (List.mem_append.mp q).elim w fun q => z (List.mem_singleton.mp q)
        rw [if_neg w, if_neg h1]
def gRow (O : List Nat) (e : Int) (a : Nat) : List Int := (List.range O.length).map fun b => gn O e a b
theorem ext_getD {R S : List Int} (hl : R.length = S.length) (h : ∀ b, b < R.length → R.getD b 0 = S.getD b 0) : R = S := by
  apply List.ext_getElem hl
  intro i h1 h2
  have := h i h1
  rw [List.getD_eq_getElem?_getD, List.getD_eq_getElem?_getD, List.getElem?_eq_getElem h1, List.getElem?_eq_getElem h2] at this
  exact this
theorem gRow_get {O : List Nat} {e : Int} {a b : Nat} (hb : b < O.length) : (gRow O e a).getD b 0 = gn O e a b := by
  unfold gRow
  rw [List.getD_eq_getElem?_getD, List.getElem?_map, List.getElem?_range hb]
  rfl
theorem fill_all {O L : List Nat} (hO : IsOrd O) (hL : BySize O L) (e : Int) {a : Nat} (ha : a < O.length) : L.foldl (stG O e a) (rw0 O.length a) = gRow O e a := by
  have h := fill_to hO hL e ha L.length (Nat.le_refl _)
  rw [List.take_length] at h
  have hlen : (L.foldl (stG O e a) (rw0 O.length a)).length = O.length := by
    rw [fill_len]
    unfold rw0
    rw [List.length_set, List.length_replicate]
  refine ext_getD (by rw [hlen]; unfold gRow; rw [List.length_map, List.length_range]) fun b hb => ?_
  rw [hlen] at hb
  rw [h b hb, if_pos (hL.mem.mpr hb), gRow_get hb]
/-! ### the law's own filling: the row begins with noughts, the thing itself is reckoned too -/
def stL (O : List Nat) (a : Nat) (R : List Int) (b : Nat) : List Int :=
  if le O a b = true then R.set b ((if a = b then 1 else 0) - (((List.range O.length).filter fun c => decide (c ≠ b) && le O c b).map fun c => R.getD c 0).sum) else R
theorem stL_len (O : List Nat) (a : Nat) (L : List Nat) : ∀ R : List Int, (L.foldl (stL O a) R).length = R.length := by
  induction L with
  | nil => intro R; rfl
  | cons b r ih =>
    intro R
    rw [List.foldl_cons, ih]
    unfold stL
    split
    · rw [List.length_set]
    · rfl
theorem sum_skip (f : Nat → Int) (x : Nat) (p : Nat → Bool) : ∀ l : List Nat, ((l.filter fun c => decide (c ≠ x) && p c).map f).sum = ((l.filter p).map fun c => if c = x then 0 else f c).sum
  | [] => rfl
  | c :: r => by
    have ih := sum_skip f x p r
    by_cases hp : p c = true
    · rw [List.filter_cons_of_pos (p := p) hp, List.map_cons, List.sum_cons, ← ih]
      by_cases hx : c = x
      · rw [List.filter_cons_of_neg (by simp [hx]), if_pos hx, Int.zero_add]
      · rw [List.filter_cons_of_pos (by simp [hx, hp]), List.map_cons, List.sum_cons, if_neg hx]
    · rw [List.filter_cons_of_neg (p := p) hp, List.filter_cons_of_neg (by simp [hp]), ih]
theorem fillL_to {O L : List Nat} (hO : IsOrd O) (hL : BySize O L) {a : Nat} (ha : a < O.length) : ∀ i, i ≤ L.length → ∀ b, b < O.length →
    ((L.take i).foldl (stL O a) (List.replicate O.length 0)).getD b 0 = if b ∈ L.take i then gn O (-1) a b else 0
  | 0, _, b, hb => by
    rw [List.take_zero, List.foldl_nil, if_neg (by simp), rep_getD]
  | i + 1, hi, b, hb => by
    have hil : i < L.length := by omega
    obtain ⟨x, hx⟩ : ∃ x, L[i]? = some x := ⟨_, List.getElem?_eq_getElem hil⟩
    have ih := fillL_to hO hL ha i (by omega)
    have hR := stL_len O a (L.take i) (List.replicate O.length 0)
    obtain ⟨t1, t2⟩ := hL.turn hO hx
    rw [List.take_add_one, hx, Option.toList_some, List.foldl_append, List.foldl_cons, List.foldl_nil]
    generalize (L.take i).foldl (stL O a) (List.replicate O.length 0) = R at ih hR ⊢
    have hRl : R.length = O.length := by rw [hR, List.length_replicate]
    have hxn : x < O.length := hL.mem.mp (List.mem_of_getElem? hx)
    have key : (stL O a R x).getD b 0 = if b = x then gn O (-1) a x else R.getD b 0 := by
      unfold stL
      by_cases q : le O a x = true
      · rw [if_pos q, getD_setI _ _ _ _ (by rw [hRl]; exact hxn)]
        by_cases z : b = x
        · rw [if_pos z, if_pos z, sum_skip (fun c => R.getD c 0) x (fun c => le O c x)]
          have e1 : (((List.range O.length).filter fun c => le O c x).map fun c => if c = x then 0 else R.getD c 0) = (down O x).map fun c => if c = x then 0 else gn O (-1) a c := by
            refine List.map_congr_left fun c hc => ?_
            have hcm := mem_down.mp hc
            by_cases y : c = x
            · rw [if_pos y, if_pos y]
            · rw [if_neg y, if_neg y, ih c hcm.1, if_pos (t2 c hcm.2 y)]
          rw [e1]
          by_cases y : a = x
          · subst y
            rw [if_pos rfl, gn_self hO _ ha]
            have e2 : ((down O a).map fun c => if c = a then 0 else gn O (-1) a c) = (down O a).map fun _ => 0 := by
              refine List.map_congr_left fun c hc => ?_
              have hcm := mem_down.mp hc
              by_cases y : c = a
              · rw [if_pos y]
              · rw [if_neg y]
                refine gn_off (fun w => y w.symm) ?_
                cases w : le O a c with
                | false => rfl
                | true => exact absurd (hO.an _ _ hcm.2 w) y
            rw [e2]
            have : ∀ l : List Nat, (l.map fun _ => (0 : Int)).sum = 0 := fun l => by
              induction l with
              | nil => rfl
              | cons _ r ihr => rw [List.map_cons, List.sum_cons, ihr]; rfl
            rw [this]
            rfl
          · rw [if_neg y, gn_rec hO (-1) y q]
            omega
        · rw [if_neg z, if_neg z]
      · rw [if_neg q]
        by_cases z : b = x
        · rw [if_pos z, z, ih x hxn, if_neg t1]
          have hlx : le O a x = false := by simpa using q
          rw [gn_off (fun w => by
            subst w
            rw [hO.rf a ha] at hlx
            cases hlx) hlx]
        · rw [if_neg z]
    rw [key]
    by_cases z : b = x
    · rw [if_pos z, if_pos (by rw [z]; simp), z]
    · rw [if_neg z, ih b hb]
      by_cases w : b ∈ L.take i
      · rw [if_pos w, if_pos (by simp [w])]
      · rw [if_neg w, if_neg (by simp [w, z])]
theorem fillL_all {O L : List Nat} (hO : IsOrd O) (hL : BySize O L) {a : Nat} (ha : a < O.length) : L.foldl (stL O a) (List.replicate O.length 0) = gRow O (-1) a := by
  have h := fillL_to hO hL ha L.length (Nat.le_refl _)
  rw [List.take_length] at h
  have hlen : (L.foldl (stL O a) (List.replicate O.length 0)).length = O.length := by rw [stL_len, List.length_replicate]
  refine ext_getD (by rw [hlen]; unfold gRow; rw [List.length_map, List.length_range]) fun b hb => ?_
  rw [hlen] at hb
  rw [h b hb, if_pos (hL.mem.mpr hb), gRow_get hb]
/-! ### bounds: a number is below a power -/
theorem abs_sum_le (f : Nat → Int) (B : Nat) : ∀ l : List Nat, (∀ c ∈ l, (f c).natAbs ≤ B) → (l.map f).sum.natAbs ≤ l.length * B
  | [], _ => by simp
  | c :: r, h => by
    have ih := abs_sum_le f B r fun d hd => h d (List.mem_cons_of_mem _ hd)
    have h1 := h c List.mem_cons_self
    rw [List.map_cons, List.sum_cons, List.length_cons, Nat.succ_mul]
    omega
theorem gF_bound {O : List Nat} (hn : O.length ≤ 16) {e : Int} (he : e.natAbs ≤ 1) (a : Nat) : ∀ k b, (gF O e k a b).natAbs ≤ 16 ^ k
  | 0, b => by simp [gF]
  | k + 1, b => by
    unfold gF
    split
    · show 1 ≤ 16 ^ (k + 1)
      exact Nat.pow_pos (by decide)
    · split
      · rw [Int.natAbs_mul]
        have h1 := abs_sum_le (fun c => if c = b then 0 else gF O e k a c) (16 ^ k) (down O b) fun c _ => by
          split
          · exact Nat.zero_le _
          · exact gF_bound hn he a k c
        have h2 : (down O b).length * 16 ^ k ≤ 16 * 16 ^ k := Nat.mul_le_mul_right _ (Nat.le_trans (sz_le O b) hn)
        rw [Nat.pow_succ, Nat.mul_comm (16 ^ k)]
        refine Nat.le_trans (Nat.mul_le_mul he (Nat.le_trans h1 h2)) ?_
        rw [Nat.one_mul]
        exact Nat.le_refl _
      · exact Nat.zero_le _
theorem gn_bound {O : List Nat} (hn : O.length ≤ 16) {e : Int} (he : e.natAbs ≤ 1) (a b : Nat) : (gn O e a b).natAbs ≤ 16 ^ 16 :=
  Nat.le_trans (gF_bound hn he a _ b) (Nat.pow_le_pow_right (by decide) (Nat.le_trans (sz_le O b) hn))
end SW

/-! ## SwN -/
/-! signs.py, chains.py. -/
namespace SW
open PySem PySem.Spec PyProof.Rows L2 Bits

/-! ### a def that makes a lambda: its code object is known -/
abbrev DefAtC (K : PySem.W.Frag) (mg : Str → Option Value) (x : Str) (st : Stmt) (c : Addr) : Prop :=
  ∃ (f : Addr) (fd : FuncData), mg x = some (.ref f) ∧ FunD K x x (defArgs st) (defBody st) (defScope st) [] [] f fd ∧ fd.code = .ref c
structure LamTab (base : Heap) (mg : Str → Option Value) (T : Tbs) (c P : Addr) (q : Str) : Prop where
  TB : LamX.TabB base mg c P
  hm : (P, q) ∈ T
  hu : ∀ p ∈ T, p.1 = P → p.2 = q
abbrev lamQ (x : Str) : Str := x ++ ".<locals>." ++ "<lambda>"
abbrev intsV (R : List Int) : List V := R.map V.int
section
variable {P : Program} {w : World} {K : PySem.W.Frag} {mg : Str → Option Value} {base : Heap} {T : Tbs}
theorem DefAtC.ok {x : Str} {st : Stmt} {c : Addr} {N ps : List Str} {k : Nat} {sp : Sp} (D : DefAtC K mg x st c) (S : FnScope N ps (defScope st)) (len : ∀ vs H Q E, sp vs H Q E → vs.length = ps.length)
    (hb : ∀ (kV doc pm : Value) (an : Option Addr) (cdv ct : Value) (us : List Value), us.length = ps.length → bindArgs (PySem.W.fnOf x x (defArgs st) (defBody st) (defScope st) .none kV doc pm an cdv ct) ⟨us, []⟩ = pure (ps.zip us))
    (hbody : ∀ (f : Addr) (A : Around) (outer : List Env) (s : Shared) (H : Hp) (vs : List V) (Q : VK) (E : XK), Room k (A.deeper (envOfC x (defScope st) s.heap.objs.size f (.ref c))) → sp vs H Q E →
      ∃ t, PSs (cxOf CX0 P w K mg base N x (defScope st) f (.ref c) A outer s H E).nox (defBody st) t ∧ t { nx := fun _ H' => Q .non H', rt := Q } (start N vs) H) : Calls P w K mg base (k + 1) x ps sp := by
  obtain ⟨f, fd, hm, F, hc⟩ := D
  refine ⟨f, fd, hm, F.kp, F.bindsN hb, ?_⟩
  obtain ⟨oc, od, dV, kV, doc, pm, an, cdv, ct, osl, e, lk, hcd, x1, x2⟩ := F.ex
  subst e
  have hc : cdv = .ref c := hc
  subst hc
  refine fn_of lk hcd S len fun A outer s H vs Q E hr h => ?_
  obtain ⟨t, ht, q⟩ := hbody f A outer s H vs Q E hr h
  exact ⟨t, ht.nox, q⟩
theorem at_ints {R : List Int} {b : Nat} (h : b < R.length) : (intsV R)[b]? = some (.int (R.getD b 0)) := by
  rw [List.getElem?_map, List.getElem?_eq_getElem h, List.getD_eq_getElem?_getD, List.getElem?_eq_getElem h]
  rfl
theorem ints_len (R : List Int) : (intsV R).length = R.length := List.length_map ..
theorem ints_set (R : List Int) (b : Nat) (v : Int) : (intsV R).set b (.int v) = intsV (R.set b v) := by
  unfold intsV
  rw [List.map_set]
theorem rep_ints (n : Nat) : (List.replicate ((n : Int)).toNat [V.int 0]).flatten = intsV (List.replicate n 0) := by
  rw [toNat_nat, List.flatten_replicate_singleton]
  unfold intsV
  rw [List.map_replicate]
theorem down_bits (O : List Nat) (b : Nat) : bits (O.getD b 0) O.length = down O b := rfl
theorem down_len (O : List Nat) (b : Nat) : (down O b).length ≤ O.length := sz_le O b
section
variable {σ : L2.St} {H : Hp} {D : Ends} {te ta tb ti : TE} {v : V} {Q : VK}
theorem e_asg {g : TG} (h : te σ H fun x H1 => g x σ H1 D.nx) : tAsg te g D σ H := h
theorem e_un {r : V → Hp → VK → Prop} (h : ta σ H fun x H1 => r x H1 Q) : tUn r ta σ H Q := h
theorem e_for {wi : TI} {g : TG} {tb : TS} (h : wi σ H fun J H1 => ∃ W : Nat → Nat → L2.St → Hp → Prop, (∃ m, W 0 m σ H1) ∧ ∀ i m σ H, W i m σ H →
    (J.stop i H ∧ D.nx σ H) ∨ (J.go i H ∧ ∃ N : L2.St → Hp → Prop, (∀ σ' H', N σ' H' → ∃ m', m' < m ∧ W (i + 1) m' σ' H') ∧ ∀ x H', J.yld i H x H' → g x σ H' fun σ2 H2 => tb { D with nx := N, ct := N, bk := D.nx } σ2 H2)) : tFor wi g tb D σ H := h
theorem e_iL {tl : TE} {R : It → Hp → Prop} (h : tl σ H fun x H1 => ∃ a, x = .ref a ∧ (∃ xs, SqL K H1 a xs) ∧ R (Itl K a) H1) : iList K tl σ H R := h
/-- xs[i] = v, the value at hand -/
theorem g_setL {l : Addr} {xs : List V} {b : Nat} {R : L2.St → Hp → Prop} (hl : H l = some (.lst xs)) (ho : Vv ta σ H (.ref l)) (hi : Vv ti σ H (iv b)) (hb : b < xs.length) (q : R σ (upd H l (.lst (xs.set b v)))) : gSub ta ti rSetL v σ H R :=
  ho _ (hi _ ⟨l, xs, _, b, rfl, rfl, hl, ixN_nat hb, q⟩)
theorem vv_lenO {i : Nat} {a : Addr} {O : List Nat} (h : σ[i]? = some (some (.ref a))) (hS : OrdAt K H a O) : Vv (tCB (rLenK K) (tCons (tVar i) tNil)) σ H (iv O.length) := fun Q q =>
  ⟨_, h, a, nats O, rfl, .inr hS.tup, by rw [nats_len]; exact q⟩
theorem vv_lenL {i : Nat} {a : Addr} {xs : List V} (h : σ[i]? = some (some (.ref a))) (hS : SqL K H a xs) : Vv (tCB (rLenK K) (tCons (tVar i) tNil)) σ H (iv xs.length) := fun Q q =>
  ⟨_, h, a, xs, rfl, .inl hS, q⟩
/-- has_thing(order[b], a) -/
theorem tt_has {i j k : Nat} {p : Addr} {O : List Nat} {a b : Nat} (hi : σ[i]? = some (some (.ref p))) (hj : σ[j]? = some (some (iv b))) (hk : σ[k]? = some (some (iv a))) (hO : OrdAt K H p O) (hb : b < O.length) :
    Tt (tB (tCall spHas [] E0 (tCons (tOp (rIxT K) (tVar i) (tVar j)) (tCons (tVar k) tNil)))) σ H (le O a b) := fun B q =>
  ⟨_, hi, _, hj, hO.ix hb ⟨_, hk, _, _, rfl, _, rfl, q⟩⟩
end
abbrev s_signs_from : Stmt := top 65
abbrev N_signs_from : List Str := ["order", "a", "row", "b", "c"]
theorem sc_signs_from : FnScope N_signs_from ["order", "a"] (defScope s_signs_from) := ⟨rfl, rfl, rfl, by decide +kernel, rfl, by decide +kernel, by decide +kernel⟩
-- slots: 0 order, 1 a, 2 row, 3 b, 4 c
def spSignsFrom (T : Tbs) (K : PySem.W.Frag) : Sp := fun vs H Q _ => ∃ (p : Addr) (O : List Nat) (a : Nat), vs = [.ref p, iv a] ∧ OrdAt K H p O ∧ IsOrd O ∧ a < O.length ∧ LamX.Tabs T H ∧
  ∀ t H', Ext T H H' → H t = none → H' t = some (.tup (intsV (gRow O (-1) a))) → Q (.ref t) H'
theorem ok_signs_from {c PA : Addr} (B : Blt mg) (D : DefAtC K mg "signs_from" s_signs_from c) (LT : LamTab base mg T c PA (lamQ "signs_from")) (g_has_thing : Calls P w K mg base 1 "has_thing" ["mask", "thing"] spHas) (g_things_in : Calls P w K mg base 1 "things_in" ["mask"] (spThings T))
    (g_many_in : Calls P w K mg base 2 "many_in" ["mask"] (spManyIn T)) : Calls P w K mg base 6 "signs_from" ["order", "a"] (spSignsFrom T K) := by
  refine D.ok sc_signs_from (fun vs H Q E h => ?_) (fun _ _ _ _ _ _ us hl => match us, hl with | [_, _], _ => rfl) (fun f A outer s H vs Q E hr h => ?_)
  · obtain ⟨p, O, a, rfl, _⟩ := h; rfl
  obtain ⟨p, O, a, rfl, hO, hI, ha, hT, q⟩ := h
  have nd := sc_signs_from.nd
  refine ⟨_, (pss_cons (ps_set (i := 2) nd rfl (Or.inr rfl) (pe_op op_rep (pe_lst (pa_cons pe_int pa_nil)) (pe_callB (r := rLenK K) call_lenK (by rfl) B.len PySem.boot_len (pa_cons (pv 0) pa_nil))))
      (pss_cons (ps_asg pe_int (pg_sub (pv 2) (pv 1) set_list))
      (pss_cons (ps_for PassesOwn.never rfl (pi_list (pe_sortL (T := T) (k := 2) (a := "thing") rfl rfl B.sorted rfl B.range (pe_callB (r := rLenK K) call_lenK (by rfl) B.len PySem.boot_len (pa_cons (pv 0) pa_nil)) LT.TB rfl LT.hm LT.hu (hr.mono (by decide)) (lam1_by (sc := defScope s_signs_from) (by decide +kernel)) (fun A s H f c' hr' => (pe_callD g_many_in (hr'.mono (by decide)) rfl (pa_cons (pe_ix (r := rIxT K) ix_tup (pv 0) (pv 5) (fun _ _ => rfl)) pa_nil))))) (pg_name (i := 3) nd rfl (Or.inl rfl))
        (pss_one (ps_if (PW.pt (pw_and (pt_cmpR op_ne (pv 3) (pv 1) (nomark _)) (pw_and1 (pt_val (pe_callD g_has_thing (hr.mono (by decide)) rfl (pa_cons (pe_ix (r := rIxT K) ix_tup (pv 0) (pv 3) (fun _ _ => rfl)) (pa_cons (pv 1) pa_nil)))))))
          (pss_one (ps_asg (pe_un un_neg (pe_callB (cr_sum rfl) (by rfl) B.sum (by decide +kernel) (pa_cons (pe_lc (own := [("c", 4)]) (g := gName 4) rfl nd (pi_list (pe_callD g_things_in (hr.mono (by decide)) rfl (pa_cons (pe_ix (r := rIxT K) ix_tup (pv 0) (pv 3) (fun _ _ => rfl)) pa_nil))) (blkOk_by (own := [("c", 4)]) (N := N_signs_from) (sc := defScope s_signs_from) (by decide +kernel)) (fun _ _ _ _ _ => pg_name (i := 4) nd rfl (Or.inl rfl)) (fun _ _ _ _ _ => pts_nil) (fun _ _ _ _ _ => (pe_ix (r := rIxL K) ix_list (pv 2) (pv 4) (fun _ _ => rfl)))) pa_nil))) (pg_sub (pv 2) (pv 3) set_list)))
          pss_nil)))
      (pss_one (ps_ret (pe_callTy call_tuple_of (by rfl) B.tuple (by decide +kernel) (pa_cons (pv 2) pa_nil))))))), ?_⟩
  have hlen := hO.len
  -- row = [0] * len(order)
  refine ⟨by decide, fun l0 hl0 => ?_⟩
  have e00 : Ext T H (upd H l0 (.lst [V.int 0])) := .new hl0
  refine vv_lenO (K := K) rfl (hO.ext e00) _ ⟨l0, _, _, rfl, rfl, upd_same, by omega, by omega, ?_, fun l hl => ?_⟩
  · show 1 * ((O.length : Int)).toNat ≤ sizeLine
    rw [toNat_nat]
    exact small (by omega)
  rw [rep_ints]
  have e0 : Ext T H (upd (upd H l0 (.lst [V.int 0])) l (.lst (intsV (List.replicate O.length 0)))) := Ext.newer e00 hl
  have hlH : H l = none := e00.back hl
  -- row[a] = 1
  try dsimp only
  refine e_seq (e_asg (vv_c _ (g_setL upd_same (vv_var rfl) (vv_var rfl) (by rw [ints_len, List.length_replicate]; exact ha) ?_)))
  have e1 : Ext T H (upd (upd (upd H l0 (.lst [V.int 0])) l (.lst (intsV (List.replicate O.length 0)))) l (.lst ((intsV (List.replicate O.length 0)).set a (V.int 1)))) := e0.mutL hlH upd_same
  have h1 : upd (upd (upd H l0 (.lst [V.int 0])) l (.lst (intsV (List.replicate O.length 0)))) l (.lst ((intsV (List.replicate O.length 0)).set a (V.int 1))) l = some (.lst (intsV (rw0 O.length a))) := by
    rw [upd_same]
    show some (HO.lst ((intsV _).set a (.int 1))) = _
    rw [ints_set]
    rfl
  generalize upd (upd (upd H l0 (.lst [V.int 0])) l (.lst (intsV (List.replicate O.length 0)))) l (.lst ((intsV (List.replicate O.length 0)).set a (V.int 1))) = H1 at e1 h1 ⊢
  have hO1 := hO.ext e1
  try dsimp only
  refine e_seq (e_for (e_iL (s_sortL (sz O) ?_ (vv_lenO rfl hO1) (by omega) (e1.tb hT) ?_ ?_)))
  · intro i w hN
    match i with
    | 0 => cases hN
    | 1 => cases hN
    | 2 => cases hN
    | 3 => cases hN
    | 4 => cases hN
    | n + 5 => cases hN
  · intro i H2 hi e2 R r
    exact ⟨_, rfl, _, rfl, (hO1.ext e2).ix hi ⟨_, O.length, rfl, hO.bd i, by omega, fun H3 e3 => r H3 e3⟩⟩
  intro L r H2 e2 hr1 hr2 hperm hup
  have hL : BySize O L := ⟨hperm, hup⟩
  refine ⟨r, rfl, ⟨_, SqL.of hr2⟩, for_list (xs := nats L) (fun i σ H' => ∃ x y, σ = [some (.ref p), some (iv a), some (.ref l), x, y] ∧ Ext T H H' ∧ H' r = some (.lst (nats L)) ∧ H' l = some (.lst (intsV ((L.take i).foldl (stG O (-1) a) (rw0 O.length a)))))
    ⟨none, none, rfl, e1.trans e2, hr2, e2.lst h1⟩ (fun i σ H' _ ⟨_, _, _, _, h, _⟩ => SqL.of h) ?_ ?_⟩
  · rintro i v σ H3 hi ⟨x, y, rfl, e3, hr3, hl3⟩
    obtain ⟨b, hbL, rfl⟩ := nats_get hi
    have hb : b < O.length := hL.mem.mp (List.mem_of_getElem? hbL)
    have hO3 := hO.ext e3
    have nrl : r ≠ l := fun z => by
      rw [z] at hr1
      rw [hr1] at h1
      cases h1
    have hR := fill_len O (-1) a (L.take i) (rw0 O.length a)
    have hst : (L.take (i + 1)).foldl (stG O (-1) a) (rw0 O.length a) = stG O (-1) a ((L.take i).foldl (stG O (-1) a) (rw0 O.length a)) b := by
      rw [take_snoc hbL, List.foldl_append]; rfl
    rw [hst]
    generalize (L.take i).foldl (stG O (-1) a) (rw0 O.length a) = R at hR hl3 ⊢
    have hRl : R.length = O.length := by
      rw [hR]; unfold rw0; rw [List.length_set, List.length_replicate]
    refine s_if (tt_and (tt_ne (vv_var rfl) (vv_var rfl)) fun _ => tt_has rfl rfl rfl hO3 hb) (fun hc => ?_) (fun hc => ?_)
    · refine e_asg (e_un (e_cb (e_cons ?_)))
      refine lc_ls (T := T) (K := K) (down O b) iv (fun _ => true) (fun c => .int (R.getD c 0)) (by have := down_len O b; omega) ?_ (fun _ => rfl) (fun _ _ _ _ _ => tl_yes) ?_ ?_
      · intro R' r'
        exact ⟨_, rfl, _, rfl, hO3.ix hb ⟨_, O.length, rfl, hO.bd b, by omega, fun p2 H4 e4 _ hL4 => r' p2 H4 e4 (SqL.of hL4)⟩⟩
      · intro j c H4 hj _ e4
        have hc' := mem_down.mp (List.mem_of_getElem? hj)
        exact (vv_ixL (vv_var rfl) (vv_var rfl) (SqL.of (e4.lst hl3)) (at_ints (by rw [hRl]; exact hc'.1))).l
      · intro p2 H4 e4 hp2 hL4
        rw [filter_yes] at hL4
        refine ⟨p2, (down O b).map fun c => R.getD c 0, rfl, SqL.of (by rw [List.map_map]; exact hL4), _, rfl, ?_⟩
        refine g_setL (e4.lst hl3) (vv_var rfl) (vv_var rfl) (by rw [ints_len, hRl]; exact hb) ⟨_, _, rfl, (e3.trans e4).mutL hlH (e4.lst hl3), ?_, ?_⟩
        · rw [upd_ne nrl]; exact e4.lst hr3
        · rw [upd_same, ints_set]
          unfold stG
          rw [Bool.and_eq_true] at hc
          rw [if_pos ⟨of_decide_eq_true hc.1, hc.2⟩, Int.neg_one_mul]
    · refine ⟨_, _, rfl, e3, hr3, ?_⟩
      unfold stG
      rw [if_neg fun z => by
        rw [decide_eq_true z.1, z.2] at hc
        cases hc]
      exact hl3
  · rintro σ H3 ⟨x, y, rfl, e3, hr3, hl3⟩
    rw [nats_len, List.take_length, fill_all hI hL (-1) ha] at hl3
    refine ⟨_, rfl, l, _, rfl, .inl ⟨SqL.of hl3, fun t ht => ?_⟩⟩
    exact q t _ (Ext.newer e3 ht) (e3.back ht) upd_same
end
end SW

/-! ## SwO -/
/-! New rows of whole numbers in a new list; signs_table; chains.py. -/
namespace SW
open PySem PySem.Spec PyProof.Rows L2 Bits

theorem nodup_set {α : Type} {l : List α} {b : Nat} {q : α} (h : l.Nodup) (hq : q ∉ l) : (l.set b q).Nodup := by
  refine List.pairwise_iff_getElem.mpr fun i j hi hj hij e => ?_
  have hi' : i < l.length := by simpa using hi
  have hj' : j < l.length := by simpa using hj
  rw [List.getElem_set, List.getElem_set] at e
  split at e
  · rw [if_neg (by omega)] at e
    exact hq (e ▸ List.getElem_mem hj')
  · split at e
    · exact hq (e ▸ List.getElem_mem hi')
    · exact List.pairwise_iff_getElem.mp h i j hi' hj' hij e
/-! ### a new list of new lists of numbers -/
abbrev Rw := List (Addr × List Int)
abbrev refs (ls : Rw) : List V := ls.map fun x => V.ref x.1
structure Rws (H0 H : Hp) (p : Addr) (ls : Rw) : Prop where
  at_ : H p = some (.lst (refs ls))
  nd : (p :: ls.map (·.1)).Nodup
  new : ∀ q ∈ p :: ls.map (·.1), H0 q = none
  its : ∀ x ∈ ls, H x.1 = some (.lst (intsV x.2))
section
variable {T : Tbs} {H0 H H' : Hp} {p q : Addr} {ls : Rw}
theorem Rws.ext (R : Rws H0 H p ls) (e : Ext T H H') : Rws H0 H' p ls := ⟨e.lst R.at_, R.nd, R.new, fun x hx => e.lst (R.its x hx)⟩
theorem Rws.back (R : Rws H H' p ls) (e : Ext T H0 H) : Rws H0 H' p ls := ⟨R.at_, R.nd, fun q hq => e.back (R.new q hq), R.its⟩
theorem Rws.fresh (R : Rws H0 H p ls) (h : H q = none) : q ∉ p :: ls.map (·.1) := fun hm => by
  rcases List.mem_cons.mp hm with e | hm
  · rw [e, R.at_] at h
    cases h
  · obtain ⟨x, hx, e⟩ := List.mem_map.mp hm
    rw [← e, R.its x hx] at h
    cases h
theorem refs_len (ls : Rw) : (refs ls).length = ls.length := List.length_map ..
theorem refs_get {b : Nat} {x : Addr × List Int} (h : ls[b]? = some x) : (refs ls)[b]? = some (.ref x.1) := by
  rw [List.getElem?_map, h]; rfl
theorem refs_set (ls : Rw) (b : Nat) (x : Addr × List Int) : (refs ls).set b (.ref x.1) = refs (ls.set b x) := by
  unfold refs
  rw [List.map_set]
theorem Rws.ne {b : Nat} (R : Rws H0 H p ls) {x : Addr × List Int} (h : ls[b]? = some x) : x.1 ≠ p := fun e => by
  have := (List.nodup_cons.mp R.nd).1
  exact this (List.mem_map.mpr ⟨x, List.mem_of_getElem? h, e⟩)
/-- a row is written anew in its place -/
theorem Rws.mutI {b : Nat} {x : Addr × List Int} {L : List Int} (R : Rws H0 H p ls) (h : ls[b]? = some x) : Rws H0 (upd H x.1 (.lst (intsV L))) p (ls.set b (x.1, L)) := by
  obtain ⟨hb, hx⟩ := List.getElem?_eq_some_iff.mp h
  have em : (ls.set b (x.1, L)).map (·.1) = ls.map (·.1) := by
    rw [List.map_set]
    apply List.ext_getElem (by simp)
    intro i h1 h2
    rw [List.getElem_set]
    split
    · rename_i e
      subst e
      simp [hx]
    · rfl
  refine ⟨?_, by rw [em]; exact R.nd, by rw [em]; exact R.new, fun y hy => ?_⟩
  · rw [upd_ne fun e => R.ne h e.symm, R.at_]
    congr 2
    have e2 := refs_set ls b (x.1, L)
    rw [← e2]
    apply List.ext_getElem (by simp)
    intro i h1 h2
    rw [List.getElem_set]
    split
    · rename_i e
      subst e
      simp [hx]
    · rfl
  · obtain ⟨i, hi, e⟩ := List.getElem_of_mem hy
    rw [List.getElem_set] at e
    split at e
    · subst e
      exact upd_same
    · rename_i hne
      have hil : i < ls.length := by simpa using hi
      have h1 : ls[i]? = some y := by rw [List.getElem?_eq_getElem hil, e]
      rw [upd_ne fun z => ?_]
      · exact R.its y (List.mem_of_getElem? h1)
      · have nd2 := (List.nodup_cons.mp R.nd).2
        have k1 : (ls.map (·.1))[i]? = some x.1 := by rw [List.getElem?_map, h1]; exact congrArg some z
        have k2 : (ls.map (·.1))[b]? = some x.1 := by rw [List.getElem?_map, h]; rfl
        exact hne ((List.getElem?_inj (by simpa using hb) nd2).mp (k2.trans k1.symm))
/-- another new list takes a row's place -/
theorem Rws.putI {b : Nat} {L : List Int} (R : Rws H0 H p ls) (hb : b < ls.length) (hq0 : H0 q = none) (hq : q ∉ p :: ls.map (·.1)) (hL : H q = some (.lst (intsV L))) : Rws H0 (upd H p (.lst ((refs ls).set b (.ref q)))) p (ls.set b (q, L)) := by
  have em : (ls.set b (q, L)).map (·.1) = (ls.map (·.1)).set b q := List.map_set ..
  have nq : q ≠ p ∧ q ∉ ls.map (·.1) := ⟨fun e => hq (by rw [e]; exact List.mem_cons_self), fun e => hq (List.mem_cons_of_mem _ e)⟩
  have nd2 := List.nodup_cons.mp R.nd
  refine ⟨by rw [upd_same]; exact congrArg some (congrArg HO.lst (refs_set ls b (q, L))), ?_, ?_, fun y hy => ?_⟩
  · rw [em]
    refine List.nodup_cons.mpr ⟨fun hm => ?_, ?_⟩
    · rcases List.mem_or_eq_of_mem_set hm with k | k
      · exact nd2.1 k
      · exact nq.1 k.symm
    · exact nodup_set nd2.2 nq.2
  · rw [em]
    intro y hy
    rcases List.mem_cons.mp hy with k | k
    · rw [k]; exact R.new p List.mem_cons_self
    · rcases List.mem_or_eq_of_mem_set k with k | k
      · exact R.new y (List.mem_cons_of_mem _ k)
      · rw [k]; exact hq0
  · rcases List.mem_or_eq_of_mem_set hy with k | k
    · rw [upd_ne fun e => nd2.1 (by rw [← e]; exact List.mem_map.mpr ⟨y, k, rfl⟩)]
      exact R.its y k
    · subst k
      rw [upd_ne nq.1]
      exact hL
/-- one more row behind -/
theorem Rws.snoc {L : List Int} (R : Rws H0 H p ls) (hq0 : H0 q = none) (hq : q ∉ p :: ls.map (·.1)) (hL : H q = some (.lst (intsV L))) : Rws H0 (upd H p (.lst (refs ls ++ [.ref q]))) p (ls ++ [(q, L)]) := by
  have nq : q ≠ p ∧ q ∉ ls.map (·.1) := ⟨fun e => hq (by rw [e]; exact List.mem_cons_self), fun e => hq (List.mem_cons_of_mem _ e)⟩
  have nd2 := List.nodup_cons.mp R.nd
  refine ⟨by rw [upd_same]; simp [refs], ?_, ?_, fun y hy => ?_⟩
  · rw [List.map_append]
    refine List.nodup_cons.mpr ⟨fun hm => ?_, ?_⟩
    · rcases List.mem_append.mp hm with k | k
      · exact nd2.1 k
      · exact nq.1 (List.mem_singleton.mp k).symm
    · exact List.nodup_append.mpr ⟨nd2.2, by simp, fun a ha b hb e => by
        rw [List.mem_singleton.mp hb] at e
        rw [e] at ha
        exact nq.2 ha⟩
  · rw [List.map_append]
    intro y hy
    rcases List.mem_cons.mp hy with k | k
    · rw [k]; exact R.new p List.mem_cons_self
    · rcases List.mem_append.mp k with k | k
      · exact R.new y (List.mem_cons_of_mem _ k)
      · rw [List.mem_singleton.mp k]; exact hq0
  · rcases List.mem_append.mp hy with k | k
    · rw [upd_ne fun e => nd2.1 (by rw [← e]; exact List.mem_map.mpr ⟨y, k, rfl⟩)]
      exact R.its y k
    · rw [List.mem_singleton.mp k, upd_ne nq.1]
      exact hL
theorem Rws.nil (h : H0 p = none) (hp : H p = some (.lst [])) : Rws H0 H p [] := ⟨hp, by simp, fun q hq => by
  rw [List.mem_singleton.mp hq]; exact h, fun _ h => nomatch h⟩
end
section
variable {T : Tbs} {K : PySem.W.Frag} {σ : L2.St} {H : Hp} {Q : VK} {te tl : TE} {ta : TA} {vs : List Nat} {j : Nat}
/-- an expression that makes a new list of numbers -/
def NewI (T : Tbs) (te : TE) (σ : L2.St) (H : Hp) (L : List Int) : Prop := ∀ Q : VK, (∀ q H', Ext T H H' → H q = none → H' q = some (.lst (intsV L)) → Q (.ref q) H') → te σ H Q
theorem newI_nil : NewI T (tLst tNil) σ H [] := fun _ q => ⟨Nat.zero_le _, fun l hl => q l _ (.new hl) hl upd_same⟩
theorem row_turn {H0 : Hp} {σ2 : L2.St} {D : Addr} {i : Nat} {L : List Int} (hi : i < 40000) (e : Ext T H0 H) (hr : ∃ ls, ls.map (·.2) = List.replicate i L ∧ Rws H0 H D ls) (h : NewI T te σ2 H L) :
    te σ2 H fun y H4 => ∃ acc, H4 D = some (.lst acc) ∧ acc.length < sizeLine ∧ (Ext T H0 (upd H4 D (.lst (acc ++ [y]))) ∧ ∃ ls, ls.map (·.2) = List.replicate (i + 1) L ∧ Rws H0 (upd H4 D (.lst (acc ++ [y]))) D ls) := by
  obtain ⟨ls, hls, R⟩ := hr
  have hl : ls.length = i := by
    have := congrArg List.length hls
    simpa using this
  refine h _ fun q H4 e4 hq hL => ?_
  have R4 := R.ext e4
  refine ⟨refs ls, R4.at_, by rw [refs_len, hl]; exact smallt (by omega), (e.trans e4).mutL (R.new D List.mem_cons_self) R4.at_, ls ++ [(q, L)], ?_, R4.snoc (e.back hq) (R.fresh hq) hL⟩
  rw [List.map_append, hls, List.replicate_succ']
  rfl
theorem lc_rowsT {a : Addr} {xs : List V} {L : List Int} (hn : xs.length < 40000) (hv : σ[j]? = σ[j]?) {i0 : Nat} (ha : σ[i0]? = some (some (.ref a))) (hS : SqT K H a xs) (hw : ∀ x, wipe ((wipe σ vs).set j (some x)) vs = wipe σ vs) (he : ∀ σ2 H1, Ext T H H1 → NewI T te σ2 H1 L)
    (q : ∀ p H' ls, Ext T H H' → ls.map (·.2) = List.replicate xs.length L → Rws H H' p ls → Q (.ref p) H') : tLc (iTup K (tVar i0)) (gName j) tYes te vs σ H Q := by
  refine ⟨_, ha, a, rfl, ⟨_, hS⟩, fun D hD => ?_⟩
  refine lc_tup (xs := xs) (fun i H' => Ext T H H' ∧ ∃ ls, ls.map (·.2) = List.replicate i L ∧ Rws H H' D ls) ⟨.new hD, [], rfl, .nil hD upd_same⟩ (fun i H' _ ⟨e2, _⟩ => e2.st hS) (fun i y H' hi ⟨e2, hL⟩ => ⟨hw _, ?_⟩) fun H' ⟨e2, ls, h1, h2⟩ => q D H' ls e2 h1 h2
  have hil := (List.getElem?_eq_some_iff.mp hi).1
  refine tl_yes (T := T) _ fun H3 e3 => iteT (row_turn (by omega) (e2.trans e3) ?_ (he _ H3 (e2.trans e3)))
  obtain ⟨ls, h1, h2⟩ := hL
  exact ⟨ls, h1, h2.ext e3⟩
theorem lc_rowsR {n : Nat} {L : List Int} (hn : n < 40000) (ha : Al T ta σ H [iv n]) (hw : ∀ x, wipe ((wipe σ vs).set j (some x)) vs = wipe σ vs) (he : ∀ x H1, Ext T H H1 → NewI T te ((wipe σ vs).set j (some x)) H1 L)
    (q : ∀ p H' ls, Ext T H H' → ls.map (·.2) = List.replicate n L → Rws H H' p ls → Q (.ref p) H') : tLc (iRng1 ta) (gName j) tYes te vs σ H Q := by
  refine ha _ fun H1 e1 => ⟨_, rfl, by omega, by omega, fun D hD => ?_⟩
  rw [toNat_nat]
  refine lc_range (lo := 0) (n := n) (fun i H' => Ext T H1 H' ∧ ∃ ls, ls.map (·.2) = List.replicate i L ∧ Rws H1 H' D ls) ⟨.new hD, [], rfl, .nil hD upd_same⟩ (fun i H' hi ⟨e2, hL⟩ => ⟨hw _, ?_⟩) fun H' ⟨e2, ls, h1, h2⟩ => q D H' ls (e1.trans e2) h1 (h2.back e1)
  refine tl_yes (T := T) _ fun H3 e3 => iteT (row_turn (by omega) (e2.trans e3) ?_ (he _ H3 (e1.trans (e2.trans e3))))
  obtain ⟨ls, h1, h2⟩ := hL
  exact ⟨ls, h1, h2.ext e3⟩
end
end SW

/-! ## SwP -/
/-! signs_table; chains.py. -/
namespace SW
open PySem PySem.Spec PyProof.Rows L2 Bits
structure TabAt (H : Hp) (t : Addr) (ts : Rw) (Rs : List (List Int)) : Prop where
  at_ : H t = some (.tup (refs ts))
  rows : ts.map (·.2) = Rs
  its : ∀ x ∈ ts, H x.1 = some (.tup (intsV x.2))
theorem TabAt.ext {T : Tbs} {H H' : Hp} {t : Addr} {ts : Rw} {Rs : List (List Int)} (e : Ext T H H') (h : TabAt H t ts Rs) : TabAt H' t ts Rs := ⟨e.tup h.at_, h.rows, fun x hx => e.tup (h.its x hx)⟩
def table (O : List Nat) : List (List Int) := (List.range O.length).map (gRow O (-1))
section
variable {P : Program} {w : World} {K : PySem.W.Frag} {mg : Str → Option Value} {base : Heap} {T : Tbs}
/-- a comprehension over range(n), by an invariant of the new list, the turn and the heap -/
theorem lc_rngP {σ : L2.St} {H : Hp} {Q : VK} {ta : TA} {g : TG} {tt : TT} {te : TE} {vs : List Nat} (n : Nat) (hn : n ≤ 40000) (ha : Al T ta σ H [iv n]) (Pv : Addr → Nat → Hp → Prop) (h0 : ∀ D H1, Ext T H H1 → H1 D = none → Pv D 0 (upd H1 D (.lst [])))
    (hs : ∀ D i H1, i < n → Pv D i H1 → g (iv i) (wipe σ vs) H1 fun σ2 H2 => wipe σ2 vs = wipe σ vs ∧ tt σ2 H2 fun b H3 =>
      if b = true then te σ2 H3 fun y H4 => ∃ acc, H4 D = some (.lst acc) ∧ acc.length < sizeLine ∧ Pv D (i + 1) (upd H4 D (.lst (acc ++ [y]))) else Pv D (i + 1) H3) (hd : ∀ D H1, Pv D n H1 → Q (.ref D) H1) : tLc (iRng1 ta) g tt te vs σ H Q := by
  refine ha _ fun H1 e1 => ⟨_, rfl, by omega, by omega, fun D hD => ?_⟩
  rw [toNat_nat]
  refine lc_range (lo := 0) (n := n) (Pv D) (h0 D H1 e1 hD) (fun i H' hi hp => ?_) (hd D)
  rw [Int.zero_add]
  exact hs D i H' hi hp
abbrev s_signs_table : Stmt := top 66
abbrev N_signs_table : List Str := ["order", "a"]
theorem sc_signs_table : FnScope N_signs_table ["order"] (defScope s_signs_table) := ⟨rfl, rfl, rfl, by decide +kernel, rfl, by decide +kernel, by decide +kernel⟩
-- slots: 0 order, 1 a
def spSignsTable (T : Tbs) (K : PySem.W.Frag) : Sp := fun vs H Q _ => ∃ (p : Addr) (O : List Nat), vs = [.ref p] ∧ OrdAt K H p O ∧ IsOrd O ∧ LamX.Tabs T H ∧
  ∀ t H' ts, Ext T H H' → H t = none → TabAt H' t ts (table O) → Q (.ref t) H'
theorem ok_signs_table (B : Blt mg) (D : DefAt K mg "signs_table" s_signs_table) (g_signs_from : Calls P w K mg base 6 "signs_from" ["order", "a"] (spSignsFrom T K)) : Calls P w K mg base 7 "signs_table" ["order"] (spSignsTable T K) := by
  refine D.ok sc_signs_table (fun vs H Q E h => ?_) (fun _ _ _ _ _ _ us hl => match us, hl with | [_], _ => rfl) (fun f cdv A outer s H vs Q E hr h => ?_)
  · obtain ⟨p, O, rfl, hO, hI, hT, q⟩ := h; rfl
  obtain ⟨p, O, rfl, hO, hI, hT, q⟩ := h
  have nd := sc_signs_table.nd
  have hu := hu_of hr
  refine ⟨_, (pss_one (ps_ret (pe_callTy call_tuple_of (by rfl) B.tuple (by decide +kernel) (pa_cons (pe_lc (own := [("a", 1)]) (g := gName 1) rfl nd (pi_range1 (by rfl) B.range (pa_cons (pe_callB (r := rLenK K) call_lenK (by rfl) B.len PySem.boot_len (pa_cons (pv 0) pa_nil)) pa_nil)) (blkOk_by (own := [("a", 1)]) (N := N_signs_table) (sc := defScope s_signs_table) (by decide +kernel)) (fun _ _ _ _ _ => pg_name (i := 1) nd rfl (Or.inl rfl)) (fun _ _ _ _ _ => pts_nil) (fun _ _ _ _ _ => (pe_callD g_signs_from (hr.mono (by decide)) rfl (pa_cons (pv 0) (pa_cons (pv 1) pa_nil))))) pa_nil)))), ?_⟩
  have hlen := hO.len
  try dsimp only
  refine e_ret (e_cb (e_cons ?_))
  refine lc_rngP (T := T) O.length (by omega) (al_lenO rfl hO) (fun D i H' => H D = none ∧ Ext T H H' ∧ ∃ ts : Rw, ts.map (·.2) = (List.range i).map (gRow O (-1)) ∧ H' D = some (.lst (refs ts)) ∧ ∀ x ∈ ts, H' x.1 = some (.tup (intsV x.2)))
    (fun D H1 e1 hD => ⟨e1.back hD, e1.newer hD, [], rfl, upd_same, fun _ h => nomatch h⟩) (fun D i H2 hi ⟨hD, e2, ts, h1, h2, h3⟩ => ⟨rfl, ?_⟩) fun D H2 ⟨hD, e2, ts, h1, h2, h3⟩ => ?_
  · refine tl_yes (T := T) _ fun H3 e3 => iteT ?_
    have e13 := e2.trans e3
    refine ⟨_, rfl, _, rfl, p, O, i, rfl, hO.ext e13, hI, hi, e13.tb hT, fun t H4 e4 ht hR => ?_⟩
    have tl : ts.length = i := by have := congrArg List.length h1; simpa using this
    have nt : ∀ (o : HO) (a : Addr) (us : List V), H4 a = some (.tup us) → upd H4 D o a = some (.tup us) := fun o a us h => by
      rw [upd_ne fun z => ?_]
      · exact h
      · rw [z, e4.lst (e3.lst h2)] at h
        cases h
    refine ⟨refs ts, e4.lst (e3.lst h2), by rw [refs_len, tl]; exact smallt (by omega), hD, (e2.trans (e3.trans e4)).mutL hD (e4.lst (e3.lst h2)), ts ++ [(t, gRow O (-1) i)], ?_, ?_, fun x hx => ?_⟩
    · rw [List.map_append, h1, List.range_succ, List.map_append]; rfl
    · rw [upd_same]; simp [refs]
    · rcases List.mem_append.mp hx with k | k
      · exact nt _ _ _ (e4.tup (e3.tup (h3 x k)))
      · rw [List.mem_singleton.mp k]
        exact nt _ _ _ hR
  · refine ⟨D, _, rfl, .inl ⟨SqL.of h2, fun t ht => ?_⟩⟩
    exact q t _ ts (e2.newer ht) (e2.back ht) ⟨upd_same, h1, fun x hx => by
      rw [upd_ne (ne_of_none (h3 x hx) ht)]
      exact h3 x hx⟩

/-! ### one_step_more -/
theorem sum_set (L : List Int) (j : Nat) (hj : j < L.length) (x : Int) : (L.set j (L.getD j 0 + x)).sum = L.sum + x := by
  induction L generalizing j with
  | nil => exact absurd hj (Nat.not_lt_zero _)
  | cons a r ih =>
    cases j with
    | zero => simp [List.set]; omega
    | succ j =>
      have := ih j (by simpa using hj)
      simp only [List.set_cons_succ, List.sum_cons]
      rw [show (a :: r).getD (j + 1) 0 = r.getD j 0 by simp [List.getD_eq_getElem?_getD], this]
      omega
theorem sum_rep0 (n : Nat) : (List.replicate n (0 : Int)).sum = 0 := by
  induction n with
  | zero => rfl
  | succ n ih => rw [List.replicate_succ, List.sum_cons, ih]; rfl
theorem take_sum {l : List Int} {k : Nat} (h : k < l.length) : (l.take (k + 1)).sum = (l.take k).sum + l.getD k 0 := by
  rw [take_snoc (List.getElem?_eq_getElem h), List.sum_append, List.getD_eq_getElem?_getD, List.getElem?_eq_getElem h, List.sum_cons, List.sum_nil, Int.add_zero]
  rfl
abbrev s_one_step_more : Stmt := top 29
abbrev N_one_step_more : List Str := ["lists", "one", "told", "k", "many"]
theorem sc_one_step_more : FnScope N_one_step_more ["lists"] (defScope s_one_step_more) := ⟨rfl, rfl, rfl, by decide +kernel, rfl, by decide +kernel, by decide +kernel⟩
-- slots: 0 lists, 1 one, 2 told, 3 k, 4 many
def spStep (T : Tbs) : Sp := fun vs H Q _ => ∃ (p : Addr) (ls : Rw) (m : Nat), vs = [.ref p] ∧ H p = some (.lst (refs ls)) ∧ (∀ x ∈ ls, H x.1 = some (.lst (intsV x.2)) ∧ x.2.length ≤ m) ∧ 0 < ls.length ∧ ls.length ≤ 100 ∧ m ≤ 1000 ∧
  ∀ q H' L', Ext T H H' → H q = none → H' q = some (.lst (intsV L')) → L'.length ≤ m + 1 → L'.sum = (ls.map (·.2.sum)).sum → Q (.ref q) H'
theorem ok_one_step_more (B : Blt mg) (D : DefAt K mg "one_step_more" s_one_step_more) : Calls P w K mg base 1 "one_step_more" ["lists"] (spStep T) := by
  refine D.ok sc_one_step_more (fun vs H Q E h => ?_) (fun _ _ _ _ _ _ us hl => match us, hl with | [_], _ => rfl) (fun f cdv A outer s H vs Q E hr h => ?_)
  · obtain ⟨p, ls, m, rfl, hp, hls, hpos, h100, hm, q⟩ := h; rfl
  obtain ⟨p, ls, m, rfl, hp, hls, hpos, h100, hm, q⟩ := h
  have nd := sc_one_step_more.nd
  have hu := hu_of hr
  refine ⟨_, (pss_cons (ps_set (i := 2) nd rfl (Or.inl rfl) (pe_op op_rep (pe_lst (pa_cons pe_int pa_nil)) (pe_op op_add pe_int (pe_callB (cr_max rfl) (by rfl) B.max (by decide +kernel) (pa_cons (pe_lc (own := [("one", 1)]) (g := gName 1) rfl nd (pi_list (pv 0)) (blkOk_by (own := [("one", 1)]) (N := N_one_step_more) (sc := defScope s_one_step_more) (by decide +kernel)) (fun _ _ _ _ _ => pg_name (i := 1) nd rfl (Or.inl rfl)) (fun _ _ _ _ _ => pts_nil) (fun _ _ _ _ _ => (pe_callB (r := rLenK K) call_lenK (by rfl) B.len PySem.boot_len (pa_cons (pv 1) pa_nil)))) pa_nil)))))
      (pss_cons (ps_for PassesOwn.never rfl (pi_list (pv 0)) (pg_name (i := 1) nd rfl (Or.inl rfl))
        (pss_one (ps_for PassesOwn.never rfl (pi_enum (by rfl) B.enumerate (pa_cons (pv 1) pa_nil)) (pg_tup rfl (pgs_cons (pg_name (i := 3) nd rfl (Or.inl rfl)) (pgs_cons (pg_name (i := 4) nd rfl (Or.inl rfl)) pgs_nil)))
          (pss_one (ps_asg (pe_op op_add (pe_ix (r := rIxL K) ix_list (pv 2) (pe_op op_add (pv 3) pe_int) (fun _ _ => rfl)) (pv 4)) (pg_sub (pv 2) (pe_op op_add (pv 3) pe_int) set_list))))))
      (pss_one (ps_ret (pv 2))))), ?_⟩
  refine e_seq (e_set (e_op ?_))
  refine ⟨by decide, fun l0 hl0 => ?_⟩
  have e00 : Ext T H (upd H l0 (.lst [V.int 0])) := .new hl0
  try dsimp only
  refine e_op (vv_c _ (e_cb (e_cons ?_)))
  refine lc_ls (T := T) (K := K) ls (fun x => .ref x.1) (fun _ => true) (fun x => .int (x.2.length : Nat)) (by omega) (fun R r => ⟨_, rfl, r p _ .refl (SqL.of (e00.lst hp))⟩) (fun _ => rfl) (fun _ _ _ _ _ => tl_yes) ?_ ?_
  · intro i x H1 hi _ e1 R r
    refine ⟨_, rfl, x.1, intsV x.2, rfl, .inl (SqL.of (e1.lst (e00.lst (hls x (List.mem_of_getElem? hi)).1))), ?_⟩
    rw [ints_len]
    exact r H1 .refl
  intro p2 H1 e1 hp2 hL1
  rw [filter_yes] at hL1
  have e01 := e00.trans e1
  refine ⟨p2, ls.map fun x => ((x.2.length : Nat) : Int), rfl, SqL.of (by rw [List.map_map]; exact hL1), by simpa using hpos, fun mx hmx hall => ?_⟩
  obtain ⟨xm, hxm, e⟩ := List.mem_map.mp hmx
  subst e
  have hxl := (hls xm hxm).2
  refine ⟨1, _, rfl, rfl, l0, _, _, rfl, rfl, e1.lst upd_same, by omega, by omega, ?_, fun l hl => ?_⟩
  · show 1 * ((1 : Int) + (xm.2.length : Int)).toNat ≤ sizeLine
    exact small (by omega)
  have eN : ((1 : Int) + ((xm.2.length : Nat) : Int)) = ((xm.2.length + 1 : Nat) : Int) := by omega
  rw [eN, rep_ints]
  have e2 := Ext.newer (o := .lst (intsV (List.replicate (xm.2.length + 1) 0))) e01 hl
  have hlH : H l = none := e01.back hl
  refine ⟨_, rfl, p, rfl, ⟨_, SqL.of (e2.lst hp)⟩, for_list (xs := refs ls) (fun i σ H' => ∃ x y z L, σ = [some (.ref p), x, some (.ref l), y, z] ∧ Ext T H H' ∧ H' l = some (.lst (intsV L)) ∧ L.length = xm.2.length + 1 ∧ L.sum = ((ls.take i).map (·.2.sum)).sum)
    ⟨_, _, _, _, rfl, e2, upd_same, by rw [List.length_replicate], by rw [sum_rep0]; rfl⟩ (fun i σ H' _ ⟨_, _, _, _, _, e, _⟩ => SqL.of (e.lst hp)) ?_ ?_⟩
  · rintro i v σ H2 hi ⟨x, y, z, L, rfl, e3, hL, hLl, hLs⟩
    rw [List.getElem?_map] at hi
    cases hx : ls[i]? with
    | none => rw [hx] at hi; cases hi
    | some o =>
    rw [hx] at hi
    have hv : V.ref o.1 = v := Option.some.inj hi
    subst hv
    have ho := hls o (List.mem_of_getElem? hx)
    have hom : o.2.length ≤ xm.2.length := by
      have := hall _ (List.mem_map.mpr ⟨o, List.mem_of_getElem? hx, rfl⟩)
      omega
    have hlo : l ≠ o.1 := fun z => by
      rw [z, ho.1] at hlH
      cases hlH
    try dsimp only
    refine e_for ⟨_, rfl, o.1, _, rfl, SqL.of (e3.lst ho.1), for_it (walk_enum (xs := intsV o.2)) (fun k σ H' => ∃ y z L, σ = [some (.ref p), some (.ref o.1), some (.ref l), y, z] ∧ Ext T H H' ∧ H' l = some (.lst (intsV L)) ∧ L.length = xm.2.length + 1 ∧ L.sum = ((ls.take i).map (·.2.sum)).sum + (o.2.take k).sum)
      ⟨y, z, L, rfl, e3, hL, hLl, by rw [hLs]; simp⟩ (fun k σ H' _ ⟨_, _, _, _, e, _⟩ => SqL.of (e.lst ho.1)) ?_ ?_⟩
    · rintro k v σ H3 H4 hk ⟨y, z, L, rfl, e4, hL, hLl, hLs⟩ ⟨t, x1, x2, rfl, ht, rfl, hx1, hx2⟩
      rw [ints_len] at hk
      have hx1 : V.int (k : Nat) = x1 := Option.some.inj hx1
      subst hx1
      have hx2 : (intsV o.2)[k]? = some x2 := hx2
      rw [at_ints hk] at hx2
      have hx2 : V.int (o.2.getD k 0) = x2 := Option.some.inj hx2
      subst hx2
      have e5 := Ext.newer (o := .tup [iv k, .int (o.2.getD k 0)]) e4 ht
      have hL5 : upd H3 t (.tup [iv k, .int (o.2.getD k 0)]) l = some (.lst (intsV L)) := by
        rw [upd_ne (ne_of_none hL ht)]; exact hL
      refine ⟨t, _, rfl, SqT.of upd_same, rfl, _, _, rfl, _, _, rfl, rfl, ?_⟩
      have hkl : k + 1 < L.length := by omega
      have ek : ((k : Int) + 1) = ((k + 1 : Nat) : Int) := by omega
      have hix : ∀ {σ : L2.St}, σ[3]? = some (some (iv k)) → Vv (tOp (rI0 fun i j => V.int (i + j)) (tVar 3) (tC (.int 1))) σ (upd H3 t (.tup [iv k, .int (o.2.getD k 0)])) (iv (k + 1)) := fun h => vv_is (vv_I0 (vv_var h) vv_c) (by show V.int ((k : Int) + 1) = _; rw [ek])
      refine e_asg (vv_I0 (vv_ixL (vv_var rfl) (hix rfl) (SqL.of hL5) (at_ints hkl)) (vv_var rfl) _ (g_setL hL5 (vv_var rfl) (hix rfl) (by rw [ints_len]; exact hkl) ⟨_, _, L.set (k + 1) (L.getD (k + 1) 0 + o.2.getD k 0), rfl, e5.mutL hlH hL5, ?_, by rw [List.length_set]; exact hLl, ?_⟩))
      · rw [upd_same, ints_set]
      · rw [sum_set L (k + 1) hkl, hLs, take_sum hk]
        omega
    · rintro σ H3 ⟨y, z, L, rfl, e4, hL, hLl, hLs⟩
      refine ⟨_, _, _, L, rfl, e4, hL, hLl, ?_⟩
      rw [ints_len, List.take_length] at hLs
      rw [hLs, take_snoc hx]
      simp
  · rintro σ H2 ⟨x, y, z, L, rfl, e3, hL, hLl, hLs⟩
    rw [refs_len, List.take_length] at hLs
    exact ⟨_, rfl, q l H2 L e3 hlH hL (by omega) hLs⟩
end
end SW

/-! ## SwQ -/
/-! chains.py: counts_from, chains_by_steps, chain_many. -/
namespace SW
open PySem PySem.Spec PyProof.Rows L2 Bits
section
variable {P : Program} {w : World} {K : PySem.W.Frag} {mg : Str → Option Value} {base : Heap} {T : Tbs}
theorem sums_set (ls : Rw) (b : Nat) (x : Addr × List Int) : (ls.set b x).map (·.2.sum) = (ls.map (·.2.sum)).set b x.2.sum := List.map_set ..
theorem sums_get {ls : Rw} {R : List Int} (h : ls.map (·.2.sum) = R) {c : Nat} {x : Addr × List Int} (hx : ls[c]? = some x) : R.getD c 0 = x.2.sum := by
  rw [← h, List.getD_eq_getElem?_getD, List.getElem?_map, hx]
  rfl
abbrev s_counts_from : Stmt := top 28
abbrev N_counts_from : List Str := ["order", "a", "thing", "counts", "b", "c"]
theorem sc_counts_from : FnScope N_counts_from ["order", "a"] (defScope s_counts_from) := ⟨rfl, rfl, rfl, by decide +kernel, rfl, by decide +kernel, by decide +kernel⟩
-- slots: 0 order, 1 a, 2 thing, 3 counts, 4 b, 5 c
def spCounts (T : Tbs) (K : PySem.W.Frag) : Sp := fun vs H Q _ => ∃ (p : Addr) (O : List Nat) (a : Nat), vs = [.ref p, iv a] ∧ OrdAt K H p O ∧ IsOrd O ∧ a < O.length ∧ LamX.Tabs T H ∧
  ∀ t H' ls, Ext T H H' → Rws H H' t ls → ls.map (·.2.sum) = gRow O 1 a → Q (.ref t) H'
theorem ok_counts_from {c PA : Addr} (B : Blt mg) (D : DefAtC K mg "counts_from" s_counts_from c) (LT : LamTab base mg T c PA (lamQ "counts_from")) (g_has_thing : Calls P w K mg base 1 "has_thing" ["mask", "thing"] spHas) (g_things_in : Calls P w K mg base 1 "things_in" ["mask"] (spThings T))
    (g_many_in : Calls P w K mg base 2 "many_in" ["mask"] (spManyIn T)) (g_one_step_more : Calls P w K mg base 1 "one_step_more" ["lists"] (spStep T)) : Calls P w K mg base 6 "counts_from" ["order", "a"] (spCounts T K) := by
  refine D.ok sc_counts_from (fun vs H Q E h => ?_) (fun _ _ _ _ _ _ us hl => match us, hl with | [_, _], _ => rfl) (fun f A outer s H vs Q E hr h => ?_)
  · obtain ⟨p, O, a, rfl, _⟩ := h; rfl
  obtain ⟨p, O, a, rfl, hO, hI, ha, hT, q⟩ := h
  have nd := sc_counts_from.nd
  refine ⟨_, (pss_cons (ps_set (i := 3) nd rfl (Or.inr rfl) (pe_lc (own := [("thing", 2)]) (g := gName 2) rfl nd (pi_tup (pv 0)) (blkOk_by (own := [("thing", 2)]) (N := N_counts_from) (sc := defScope s_counts_from) (by decide +kernel)) (fun _ _ _ _ _ => pg_name (i := 2) nd rfl (Or.inl rfl)) (fun _ _ _ _ _ => pts_nil) (fun _ _ _ _ _ => (pe_lst pa_nil))))
      (pss_cons (ps_asg (pe_lst (pa_cons pe_int pa_nil)) (pg_sub (pv 3) (pv 1) set_list))
      (pss_cons (ps_for PassesOwn.never rfl (pi_list (pe_sortL (T := T) (k := 2) (a := "thing") rfl rfl B.sorted rfl B.range (pe_callB (r := rLenK K) call_lenK (by rfl) B.len PySem.boot_len (pa_cons (pv 0) pa_nil)) LT.TB rfl LT.hm LT.hu (hr.mono (by decide)) (lam1_by (sc := defScope s_counts_from) (by decide +kernel)) (fun A s H f c' hr' => (pe_callD g_many_in (hr'.mono (by decide)) rfl (pa_cons (pe_ix (r := rIxT K) ix_tup (pv 0) (pv 6) (fun _ _ => rfl)) pa_nil))))) (pg_name (i := 4) nd rfl (Or.inl rfl))
        (pss_one (ps_if (PW.pt (pw_and (pt_cmpR op_ne (pv 4) (pv 1) (nomark _)) (pw_and1 (pt_val (pe_callD g_has_thing (hr.mono (by decide)) rfl (pa_cons (pe_ix (r := rIxT K) ix_tup (pv 0) (pv 4) (fun _ _ => rfl)) (pa_cons (pv 1) pa_nil)))))))
          (pss_one (ps_asg (pe_callD g_one_step_more (hr.mono (by decide)) rfl (pa_cons (pe_lc (own := [("c", 5)]) (g := gName 5) rfl nd (pi_list (pe_callD g_things_in (hr.mono (by decide)) rfl (pa_cons (pe_ix (r := rIxT K) ix_tup (pv 0) (pv 4) (fun _ _ => rfl)) pa_nil))) (blkOk_by (own := [("c", 5)]) (N := N_counts_from) (sc := defScope s_counts_from) (by decide +kernel)) (fun _ _ _ _ _ => pg_name (i := 5) nd rfl (Or.inl rfl)) (fun _ _ _ _ _ => pts_nil) (fun _ _ _ _ _ => (pe_ix (r := rIxL K) ix_list (pv 3) (pv 5) (fun _ _ => rfl)))) pa_nil)) (pg_sub (pv 3) (pv 4) set_list)))
          pss_nil)))
      (pss_one (ps_ret (pv 3)))))), ?_⟩
  have hlen := hO.len
  refine e_seq (e_set ?_)
  refine lc_rowsT (T := T) (L := []) (xs := nats O) (by rw [nats_len]; omega) rfl rfl hO.tup (fun _ => rfl) (fun _ _ _ => newI_nil) ?_
  intro l H1 ls0 e1 hls0 R0
  rw [nats_len] at hls0
  have hl0 : ls0.length = O.length := by have := congrArg List.length hls0; simpa using this
  try dsimp only
  refine e_seq (e_asg ⟨(by show 1 ≤ sizeLine; decide), fun q1 hq1 => ?_⟩)
  have e2 := Ext.newer (o := .lst [V.int 1]) e1 hq1
  have R1 := R0.ext (Ext.new (T := T) (o := .lst [V.int 1]) hq1)
  have hlH : H l = none := R0.new l List.mem_cons_self
  refine g_setL R1.at_ (vv_var rfl) (vv_var rfl) (by rw [refs_len, hl0]; exact ha) ?_
  have R2 := R1.putI (q := q1) (L := [1]) (b := a) (by rw [hl0]; exact ha) (e1.back hq1) (R0.fresh hq1) upd_same
  have e3 := e2.mutL (o := .lst ((refs ls0).set a (V.ref q1))) hlH R1.at_
  have hs2 : (ls0.set a (q1, [1])).map (·.2.sum) = rw0 O.length a := by
    rw [sums_set]
    have : ls0.map (·.2.sum) = List.replicate O.length 0 := by
      have := congrArg (List.map List.sum) hls0
      rw [List.map_map] at this
      rw [show (fun x : Addr × List Int => x.2.sum) = List.sum ∘ (fun x => x.2) from rfl, this, List.map_replicate]
      rfl
    rw [this]
    rfl
  have hlen2 : ∀ x ∈ ls0.set a (q1, [1]), x.2.length ≤ 1 := fun x hx => by
    rcases List.mem_or_eq_of_mem_set hx with k | k
    · have : x.2 ∈ List.replicate O.length [] := by rw [← hls0]; exact List.mem_map.mpr ⟨x, k, rfl⟩
      rw [(List.mem_replicate.mp this).2]
      decide
    · rw [k]; exact Nat.le_refl 1
  have hl2 : (ls0.set a (q1, [1])).length = O.length := by rw [List.length_set, hl0]
  generalize ls0.set a (q1, [1]) = ls2 at R2 hs2 hlen2 hl2
  generalize upd (upd H1 q1 (HO.lst [V.int 1])) l (HO.lst ((refs ls0).set a (V.ref q1))) = H2 at e3 R2 ⊢
  have hO1 := hO.ext e3
  try dsimp only
  refine e_seq (e_for (e_iL (s_sortL (sz O) ?_ (vv_lenO rfl hO1) (by omega) (e3.tb hT) ?_ ?_)))
  · intro i w hN
    match i with
    | 0 => cases hN
    | 1 => cases hN
    | 2 => intro z; cases z
    | 3 => cases hN
    | 4 => cases hN
    | 5 => cases hN
    | n + 6 => cases hN
  · intro i H3 hi e4 R r
    exact ⟨_, rfl, _, rfl, (hO1.ext e4).ix hi ⟨_, O.length, rfl, hO.bd i, by omega, fun H5 e5 => r H5 e5⟩⟩
  intro L r H3 e4 hr1 hr2 hperm hup
  have hL : BySize O L := ⟨hperm, hup⟩
  have hLn : L.length = O.length := by have := hperm.length_eq; simpa using this
  have nrl : r ≠ l := fun z => R2.fresh hr1 (by rw [z]; exact List.mem_cons_self)
  refine ⟨r, rfl, ⟨_, SqL.of hr2⟩, for_list (xs := nats L) (fun i σ H' => ∃ x y ls, σ = [some (.ref p), some (iv a), x, some (.ref l), y, none] ∧ Ext T H H' ∧ H' r = some (.lst (nats L)) ∧ Rws H H' l ls ∧ ls.length = O.length ∧ (∀ x ∈ ls, x.2.length ≤ i + 1) ∧ ls.map (·.2.sum) = (L.take i).foldl (stG O 1 a) (rw0 O.length a))
    ⟨none, none, ls2, rfl, e3.trans e4, hr2, R2.ext e4, hl2, hlen2, hs2⟩ (fun i σ H' _ ⟨_, _, _, _, _, h, _⟩ => SqL.of h) ?_ ?_⟩
  · rintro i v σ H4 hi ⟨x, y, ls, rfl, e5, hr3, R3, hl3, hlen3, hs3⟩
    obtain ⟨b, hbL, rfl⟩ := nats_get hi
    have hb : b < O.length := hL.mem.mp (List.mem_of_getElem? hbL)
    have hiL : i < L.length := (List.getElem?_eq_some_iff.mp hbL).1
    have hO3 := hO.ext e5
    have hst : (L.take (i + 1)).foldl (stG O 1 a) (rw0 O.length a) = stG O 1 a ((L.take i).foldl (stG O 1 a) (rw0 O.length a)) b := by
      rw [take_snoc hbL, List.foldl_append]; rfl
    rw [hst]
    generalize (L.take i).foldl (stG O 1 a) (rw0 O.length a) = R at hs3 ⊢
    refine s_if (tt_and (tt_ne (vv_var rfl) (vv_var rfl)) fun _ => tt_has rfl rfl rfl hO3 hb) (fun hc => ?_) (fun hc => ?_)
    · refine e_asg (e_call (e_cons ?_))
      -- the lists of all beneath b
      have hget : ∀ c, c < O.length → ∃ x, ls[c]? = some x := fun c hc => ⟨_, List.getElem?_eq_getElem (by rw [hl3]; exact hc)⟩
      refine lc_ls (T := T) (K := K) (down O b) iv (fun _ => true) (fun c => .ref (ls.getD c (0, [])).1) (by have := down_len O b; omega) ?_ (fun _ => rfl) (fun _ _ _ _ _ => tl_yes) ?_ ?_
      · intro R' r'
        exact ⟨_, rfl, _, rfl, hO3.ix hb ⟨_, O.length, rfl, hO.bd b, by omega, fun p2 H5 e6 _ hL6 => r' p2 H5 e6 (SqL.of hL6)⟩⟩
      · intro j c H5 hj _ e6
        have hc' := mem_down.mp (List.mem_of_getElem? hj)
        obtain ⟨x, hx⟩ := hget c hc'.1
        refine (vv_ixL (vv_var rfl) (vv_var rfl) (SqL.of ((R3.ext e6).at_)) ?_).l
        rw [refs_get hx, List.getD_eq_getElem?_getD, hx]
        rfl
      · intro p2 H5 e6 hp2 hL6
        rw [filter_yes] at hL6
        have R4 := R3.ext e6
        have key : ∀ c ∈ down O b, ls.getD c (0, []) ∈ ls ∧ (ls.getD c (0, [])).2.sum = R.getD c 0 := fun c hc => by
          obtain ⟨x, hx⟩ := hget c (mem_down.mp hc).1
          rw [sums_get hs3 hx, List.getD_eq_getElem?_getD, hx]
          exact ⟨List.mem_of_getElem? hx, rfl⟩
        refine ⟨p2, (down O b).map fun c => ls.getD c (0, []), i + 1, rfl, by rw [refs, List.map_map]; exact hL6, fun x hx => ?_, ?_, ?_, by omega, fun q2 H6 L' e7 hq2 hL' hl' hs' => ?_⟩
        · obtain ⟨c, hc2, rfl⟩ := List.mem_map.mp hx
          exact ⟨R4.its _ (key c hc2).1, hlen3 _ (key c hc2).1⟩
        · rw [List.length_map]
          exact sz_pos hI hb
        · rw [List.length_map]
          have := down_len O b
          omega
        have R5 := R4.ext e7
        have e8 := (e5.trans e6).trans e7
        have hst2 : L'.sum = 1 * ((down O b).map fun c => R.getD c 0).sum := by
          rw [hs', List.map_map, Int.one_mul]
          congr 1
          exact List.map_congr_left fun c hc => (key c hc).2
        refine g_setL R5.at_ (vv_var rfl) (vv_var rfl) (by rw [refs_len, hl3]; exact hb) ⟨_, _, ls.set b (q2, L'), rfl, e8.mutL hlH R5.at_, ?_, R5.putI (by rw [hl3]; exact hb) ((e5.trans e6).back hq2) (R4.fresh hq2) hL', by rw [List.length_set]; exact hl3, fun x hx => ?_, ?_⟩
        · rw [upd_ne nrl]
          exact (e6.trans e7).lst hr3
        · rcases List.mem_or_eq_of_mem_set hx with k | k
          · have := hlen3 x k; omega
          · rw [k]; exact hl'
        · rw [sums_set, hs3]
          unfold stG
          rw [Bool.and_eq_true] at hc
          rw [if_pos ⟨of_decide_eq_true hc.1, hc.2⟩, hst2]
    · refine ⟨_, _, ls, rfl, e5, hr3, R3, hl3, fun x hx => by have := hlen3 x hx; omega, ?_⟩
      unfold stG
      rw [if_neg fun z => by
        rw [decide_eq_true z.1, z.2] at hc
        cases hc]
      exact hs3
  · rintro σ H4 ⟨x, y, ls, rfl, e5, hr3, R3, hl3, hlen3, hs3⟩
    rw [nats_len, List.take_length, fill_all hI hL 1 ha] at hs3
    exact ⟨_, rfl, q l H4 ls e5 R3 hs3⟩
abbrev s_chains_by_steps : Stmt := top 30
abbrev N_chains_by_steps : List Str := ["order", "a", "b"]
theorem sc_chains_by_steps : FnScope N_chains_by_steps ["order", "a", "b"] (defScope s_chains_by_steps) := ⟨rfl, rfl, rfl, by decide +kernel, rfl, by decide +kernel, by decide +kernel⟩
-- slots: 0 order, 1 a, 2 b
def spChainsBy (T : Tbs) (K : PySem.W.Frag) : Sp := fun vs H Q _ => ∃ (p : Addr) (O : List Nat) (a b : Nat), vs = [.ref p, iv a, iv b] ∧ OrdAt K H p O ∧ IsOrd O ∧ a < O.length ∧ b < O.length ∧ LamX.Tabs T H ∧
  ∀ t H' L, Ext T H H' → H' t = some (.lst (intsV L)) → L.sum = gn O 1 a b → Q (.ref t) H'
theorem ok_chains_by_steps (B : Blt mg) (D : DefAt K mg "chains_by_steps" s_chains_by_steps) (g_ask_thing : Calls P w K mg base 1 "ask_thing" ["many", "thing"] spAsk) (g_counts_from : Calls P w K mg base 6 "counts_from" ["order", "a"] (spCounts T K)) :
    Calls P w K mg base 7 "chains_by_steps" ["order", "a", "b"] (spChainsBy T K) := by
  refine D.ok sc_chains_by_steps (fun vs H Q E h => ?_) (fun _ _ _ _ _ _ us hl => match us, hl with | [_, _, _], _ => rfl) (fun f cdv A outer s H vs Q E hr h => ?_)
  · obtain ⟨p, O, a, b, rfl, hO, hI, ha, hb, hT, q⟩ := h; rfl
  obtain ⟨p, O, a, b, rfl, hO, hI, ha, hb, hT, q⟩ := h
  have nd := sc_chains_by_steps.nd
  have hu := hu_of hr
  refine ⟨_, (pss_cons (ps_expr (pe_callD g_ask_thing (hr.mono (by decide)) rfl (pa_cons (pe_callB (r := rLenK K) call_lenK (by rfl) B.len PySem.boot_len (pa_cons (pv 0) pa_nil)) (pa_cons (pv 1) pa_nil))))
      (pss_cons (ps_expr (pe_callD g_ask_thing (hr.mono (by decide)) rfl (pa_cons (pe_callB (r := rLenK K) call_lenK (by rfl) B.len PySem.boot_len (pa_cons (pv 0) pa_nil)) (pa_cons (pv 2) pa_nil))))
      (pss_one (ps_ret (pe_ix (r := rIxL K) ix_list (pe_callD g_counts_from (hr.mono (by decide)) rfl (pa_cons (pv 0) (pa_cons (pv 1) pa_nil))) (pv 2) (fun _ _ => rfl)))))), ?_⟩
  refine e_seq (e_drop (e_call (e_cons (vv_lenO rfl hO _ (e_cons ⟨_, rfl, _, _, rfl, ha, ?_⟩)))))
  try dsimp only
  refine e_seq (e_drop (e_call (e_cons (vv_lenO rfl hO _ (e_cons ⟨_, rfl, _, _, rfl, hb, ?_⟩)))))
  try dsimp only
  refine e_ret (e_op (e_call ⟨_, rfl, _, rfl, p, O, a, rfl, hO, hI, ha, hT, fun t H' ls e1 R hs => ?_⟩))
  have hl : ls.length = O.length := by
    have := congrArg List.length hs
    simpa [gRow] using this
  obtain ⟨x, hx⟩ : ∃ x, ls[b]? = some x := ⟨_, List.getElem?_eq_getElem (by rw [hl]; exact hb)⟩
  refine ⟨_, rfl, t, _, _, _, rfl, rfl, SqL.of R.at_, atI_nat (refs_get hx), q x.1 H' x.2 e1 (R.its x (List.mem_of_getElem? hx)) ?_⟩
  rw [← sums_get hs hx, gRow_get hb]
abbrev s_chain_many : Stmt := top 31
abbrev N_chain_many : List Str := ["order", "a", "b"]
theorem sc_chain_many : FnScope N_chain_many ["order", "a", "b"] (defScope s_chain_many) := ⟨rfl, rfl, rfl, by decide +kernel, rfl, by decide +kernel, by decide +kernel⟩
-- slots: 0 order, 1 a, 2 b
def spChainMany (T : Tbs) (K : PySem.W.Frag) : Sp := fun vs H Q _ => ∃ (p : Addr) (O : List Nat) (a b : Nat), vs = [.ref p, iv a, iv b] ∧ OrdAt K H p O ∧ IsOrd O ∧ a < O.length ∧ b < O.length ∧ LamX.Tabs T H ∧
  ∀ H', Ext T H H' → Q (.int (gn O 1 a b)) H'
theorem ok_chain_many (B : Blt mg) (D : DefAt K mg "chain_many" s_chain_many) (g_chains_by_steps : Calls P w K mg base 7 "chains_by_steps" ["order", "a", "b"] (spChainsBy T K)) : Calls P w K mg base 8 "chain_many" ["order", "a", "b"] (spChainMany T K) := by
  refine D.ok sc_chain_many (fun vs H Q E h => ?_) (fun _ _ _ _ _ _ us hl => match us, hl with | [_, _, _], _ => rfl) (fun f cdv A outer s H vs Q E hr h => ?_)
  · obtain ⟨p, O, a, b, rfl, hO, hI, ha, hb, hT, q⟩ := h; rfl
  obtain ⟨p, O, a, b, rfl, hO, hI, ha, hb, hT, q⟩ := h
  have nd := sc_chain_many.nd
  have hu := hu_of hr
  refine ⟨_, (pss_one (ps_ret (pe_callB (cr_sum rfl) (by rfl) B.sum (by decide +kernel) (pa_cons (pe_callD g_chains_by_steps (hr.mono (by decide)) rfl (pa_cons (pv 0) (pa_cons (pv 1) (pa_cons (pv 2) pa_nil)))) pa_nil)))), ?_⟩
  refine ⟨_, rfl, _, rfl, _, rfl, p, O, a, b, rfl, hO, hI, ha, hb, hT, fun t H' L e1 hL hs => ?_⟩
  refine ⟨t, L, rfl, SqL.of hL, ?_⟩
  rw [hs]
  exact q H' e1
end
end SW

/-! ## SwM3 -/
/-! The chains counted upward. -/
namespace SW
def SS (n : Nat) (f : Nat → Int) : Int := ((List.range n).map f).sum
theorem SS_succ (n : Nat) (f : Nat → Int) : SS (n + 1) f = SS n f + f n := by
  unfold SS; rw [List.range_succ, List.map_append, List.sum_append]; simp
theorem SS_congr {n : Nat} {f g : Nat → Int} (h : ∀ i, i < n → f i = g i) : SS n f = SS n g := by
  unfold SS
  congr 1
  exact List.map_congr_left fun i hi => h i (List.mem_range.mp hi)
theorem SS_add (n : Nat) (f g : Nat → Int) : SS n (fun i => f i + g i) = SS n f + SS n g := by
  induction n with
  | zero => rfl
  | succ n ih => rw [SS_succ, SS_succ, SS_succ, ih]; omega
theorem SS_zero (n : Nat) : SS n (fun _ => 0) = 0 := by
  induction n with
  | zero => rfl
  | succ n ih => rw [SS_succ, ih]; rfl
theorem SS_mulL (n : Nat) (k : Int) (f : Nat → Int) : SS n (fun i => k * f i) = k * SS n f := by
  induction n with
  | zero => simp [SS]
  | succ n ih => rw [SS_succ, SS_succ, ih, Int.mul_add]
theorem SS_mulR (n : Nat) (k : Int) (f : Nat → Int) : SS n (fun i => f i * k) = SS n f * k := by
  induction n with
  | zero => simp [SS]
  | succ n ih => rw [SS_succ, SS_succ, ih, Int.add_mul]
theorem SS_swap (n m : Nat) (f : Nat → Nat → Int) : SS n (fun i => SS m (f i)) = SS m (fun j => SS n fun i => f i j) := by
  induction n with
  | zero =>
    have : (fun j => SS 0 fun i => f i j) = fun _ => 0 := rfl
    rw [this, SS_zero]; rfl
  | succ n ih =>
    rw [SS_succ, ih, ← SS_add]
    exact SS_congr fun j _ => (SS_succ n _).symm
theorem SS_one {n b : Nat} (hb : b < n) (f : Nat → Int) : SS n (fun c => if c = b then f c else 0) = f b := by
  induction n with
  | zero => exact absurd hb (Nat.not_lt_zero _)
  | succ n ih =>
    rw [SS_succ]
    by_cases h : n = b
    · subst h
      rw [if_pos rfl]
      have : SS n (fun c => if c = n then f c else 0) = 0 := by
        rw [SS_congr (g := fun _ => 0) fun i hi => if_neg (by omega), SS_zero]
      rw [this]; omega
    · rw [if_neg h, ih (by omega)]; omega
theorem SS_filter (n : Nat) (p : Nat → Bool) (f : Nat → Int) : (((List.range n).filter p).map f).sum = SS n fun i => if p i = true then f i else 0 := by
  unfold SS
  generalize List.range n = l
  induction l with
  | nil => rfl
  | cons x r ih =>
    by_cases h : p x = true
    · rw [List.filter_cons_of_pos h, List.map_cons, List.sum_cons, ih, List.map_cons, List.sum_cons, if_pos h]
    · rw [List.filter_cons_of_neg h, ih, List.map_cons, List.sum_cons, if_neg h]; omega
/-- 1 for a strictly beneath b -/
def Lm (O : List Nat) (a b : Nat) : Int := if a ≠ b ∧ le O a b = true then 1 else 0
def dl (a b : Nat) : Int := if a = b then 1 else 0
theorem gn_eq {O : List Nat} (h : IsOrd O) {a b : Nat} (ha : a < O.length) (hb : b < O.length) : gn O 1 a b = dl a b + SS O.length fun x => gn O 1 a x * Lm O x b := by
  unfold dl
  by_cases q : a = b
  · subst q
    rw [if_pos rfl, gn_self h 1 ha, SS_congr (g := fun _ => 0) fun x hx => ?_, SS_zero]
    · rfl
    · unfold Lm
      split
      · rename_i z
        rw [gn_off (fun e => z.1 e.symm), Int.zero_mul]
        cases w : le O a x with
        | false => rfl
        | true => exact absurd (h.an _ _ z.2 w) z.1
      · rw [Int.mul_zero]
  · rw [if_neg q, Int.zero_add]
    cases l : le O a b with
    | true =>
      rw [gn_rec h 1 q l, Int.one_mul]
      unfold down
      rw [SS_filter]
      refine SS_congr fun x hx => ?_
      unfold Lm
      by_cases z : x = b
      · subst z; simp
      · by_cases w : le O x b = true
        · rw [if_pos w, if_neg z, if_pos ⟨z, w⟩, Int.mul_one]
        · rw [if_neg w, if_neg fun k => w k.2, Int.mul_zero]
    | false =>
      rw [gn_off q l, SS_congr (g := fun _ => 0) fun x hx => ?_, SS_zero]
      unfold Lm
      split
      · rename_i z
        rw [gn_off, Int.zero_mul]
        · intro e
          subst e
          rw [z.2] at l
          cases l
        · cases w : le O a x with
          | false => rfl
          | true => rw [h.tr _ _ _ w z.2] at l; cases l
      · rw [Int.mul_zero]
theorem gn_up {O : List Nat} (h : IsOrd O) : ∀ (N b : Nat), sz O b ≤ N → b < O.length → ∀ a, a < O.length → gn O 1 a b = dl a b + SS O.length fun c => Lm O a c * gn O 1 c b
  | 0, b, hN, hb, _, _ => absurd (sz_pos h hb) (by omega)
  | N + 1, b, hN, hb, a, ha => by
    have e1 : (SS O.length fun c => Lm O a c * gn O 1 c b) = (SS O.length fun c => Lm O a c * dl c b) + SS O.length fun c => SS O.length fun x => Lm O a c * gn O 1 c x * Lm O x b := by
      rw [← SS_add]
      refine SS_congr fun c hc => ?_
      rw [gn_eq h hc hb, Int.mul_add, ← SS_mulL]
      congr 1
      refine SS_congr fun x _ => ?_
      rw [Int.mul_assoc]
    have e2 : (SS O.length fun c => Lm O a c * dl c b) = Lm O a b := by
      rw [SS_congr (g := fun c => if c = b then Lm O a c else 0) fun c _ => ?_, SS_one hb]
      unfold dl
      split
      · rw [Int.mul_one]
      · rw [Int.mul_zero]
    have e3 : (SS O.length fun x => SS O.length fun c => Lm O a c * gn O 1 c x * Lm O x b) = SS O.length fun x => (gn O 1 a x + (-1) * dl a x) * Lm O x b := by
      refine SS_congr fun x hx => ?_
      rw [SS_mulR]
      by_cases z : Lm O x b = 0
      · rw [z, Int.mul_zero, Int.mul_zero]
      · congr 1
        have hz : x ≠ b ∧ le O x b = true := by
          unfold Lm at z
          by_cases k : x ≠ b ∧ le O x b = true
          · exact k
          · rw [if_neg k] at z; exact absurd rfl z
        have := sz_lt h hz.2 hz.1
        rw [gn_up h N x (by omega) hx a ha]
        omega
    have e4 : (SS O.length fun x => (gn O 1 a x + (-1) * dl a x) * Lm O x b) = (SS O.length fun x => gn O 1 a x * Lm O x b) + (-1) * Lm O a b := by
      rw [SS_congr (g := fun x => gn O 1 a x * Lm O x b + (-1) * (if x = a then Lm O x b else 0)) fun x _ => ?_, SS_add, SS_mulL, SS_one ha]
      rw [Int.add_mul]
      congr 1
      unfold dl
      by_cases k : a = x
      · rw [if_pos k, if_pos k.symm]; omega
      · rw [if_neg k, if_neg fun e => k e.symm]; omega
    rw [e1, e2, SS_swap, e3, e4, gn_eq h ha hb]
    omega
def usz (O : List Nat) (a : Nat) : Nat := ((List.range O.length).filter fun c => le O a c).length
theorem usz_lt {O : List Nat} (h : IsOrd O) {a c : Nat} (hl : le O a c = true) (hn : c ≠ a) : usz O c < usz O a := by
  refine filter_len_lt _ _ _ (fun x _ hx => h.tr _ _ _ hl hx) a (List.mem_range.mpr (le_bd h hl).1) (h.rf a (le_bd h hl).1) ?_
  cases z : le O c a with
  | false => rfl
  | true => exact absurd (h.an _ _ z hl) hn
theorem usz_pos {O : List Nat} (h : IsOrd O) {a : Nat} (ha : a < O.length) : 0 < usz O a :=
  List.length_pos_of_mem (List.mem_filter.mpr ⟨List.mem_range.mpr ha, h.rf a ha⟩)
theorem usz_le (O : List Nat) (a : Nat) : usz O a ≤ O.length := by
  have := List.length_filter_le (fun c => le O a c) (List.range O.length)
  rw [List.length_range] at this
  exact this
/-- what the law reckons -/
theorem gn_law {O : List Nat} (h : IsOrd O) {a b : Nat} (hn : a ≠ b) (ha : a < O.length) (hb : b < O.length) : (((List.range O.length).filter fun c => decide (c ≠ a) && le O a c).map fun c => gn O 1 c b).sum = gn O 1 a b := by
  rw [gn_up h _ b (Nat.le_refl _) hb a ha, SS_filter]
  unfold dl
  rw [if_neg hn, Int.zero_add]
  refine SS_congr fun c _ => ?_
  unfold Lm
  by_cases k : c ≠ a ∧ le O a c = true
  · rw [if_pos (by simp [k.1, k.2]), if_pos ⟨fun e => k.1 e.symm, k.2⟩, Int.one_mul]
  · rw [if_neg, if_neg, Int.zero_mul]
    · intro z; exact k ⟨fun e => z.1 e.symm, z.2⟩
    · intro z
      rw [Bool.and_eq_true, decide_eq_true_iff] at z
      exact k z
end SW

/-! ## SwR -/
/-! The law's own signs and chains. -/
namespace SW
open PySem PySem.Spec PyProof.Rows L2 Bits
/-! ### the things by their sizes -/
def szPr (O : List Nat) (b : Nat) : Nat × Nat := (sz O b, b)
def prOf (H : Hp) (v : V) : Nat × Nat := match v with
  | .ref t => (match H t with | some (.tup [.int i, .int j]) => (i.toNat, j.toNat) | _ => (0, 0))
  | _ => (0, 0)
theorem prOf_is {H : Hp} {v : V} {x : Nat × Nat} (h : IsPr H v x) : prOf H v = x := by
  obtain ⟨q, rfl, e⟩ := h
  unfold prOf
  simp only [e]
  rfl
theorem prs_map {H : Hp} : ∀ {vs : List V} {xs : List (Nat × Nat)}, Paired (IsPr H) vs xs → vs.map (prOf H) = xs
  | _, _, .nil => rfl
  | _, _, .cons r t => by rw [List.map_cons, prOf_is r, prs_map t]
theorem prs_all {H : Hp} : ∀ {vs : List V}, (∀ v ∈ vs, IsPr H v (prOf H v)) → Paired (IsPr H) vs (vs.map (prOf H))
  | [], _ => .nil
  | v :: r, h => .cons (h v List.mem_cons_self) (prs_all fun u hu => h u (List.mem_cons_of_mem _ hu))
theorem prs_mem {H : Hp} : ∀ {vs : List V} {xs : List (Nat × Nat)}, Paired (IsPr H) vs xs → ∀ v ∈ vs, IsPr H v (prOf H v)
  | _, _, .cons r t, v, hv => by
    rcases List.mem_cons.mp hv with e | hv
    · subst e
      rw [prOf_is r]
      exact r
    · exact prs_mem t v hv
section
variable {P : Program} {w : World} {K : PySem.W.Frag} {mg : Str → Option Value} {base : Heap} {T : Tbs}
theorem sort_sizes {H : Hp} {p : Addr} {O : List Nat} {Q : VK} (h : LstOf IsPr H p ((List.range O.length).map (szPr O)))
    (q : ∀ (L : List Nat) (r : Addr) (H' : Hp), BySize O L → Ext T H H' → H r = none → LstOf IsPr H' r (L.map (szPr O)) → Q (.ref r) H') : rSortedPO K [.ref p] H Q := by
  obtain ⟨vs, hv, hp⟩ := h
  refine ⟨p, vs, fun v => (((prOf H v).1 : Nat), ((prOf H v).2 : Nat)), rfl, SqL.of hv, fun x hx => ?_, fun ys r hs hst hr => ?_⟩
  · obtain ⟨t, e, ht⟩ := prs_mem hp x hx
    exact ⟨t, e, ht⟩
  have hys : ∀ v ∈ ys, IsPr H v (prOf H v) := fun v hv' => prs_mem hp v (hst.perm.mem_iff.mp hv')
  have hperm : (ys.map (prOf H)).Perm ((List.range O.length).map (szPr O)) := by
    rw [← prs_map hp]
    exact hst.perm.map _
  have hform : ∀ x ∈ ys.map (prOf H), szPr O x.2 = x := fun x hx => by
    obtain ⟨b, _, e⟩ := List.mem_map.mp (hperm.mem_iff.mp hx)
    rw [← e]
    rfl
  have hL : ys.map (prOf H) = ((ys.map (prOf H)).map (·.2)).map (szPr O) := by
    rw [List.map_map]
    conv => lhs; rw [← List.map_id (ys.map (prOf H))]
    exact List.map_congr_left fun x hx => (hform x hx).symm
  refine q ((ys.map (prOf H)).map (·.2)) r _ ⟨?_, ?_⟩ (.new hr) hr ⟨ys, upd_same, ?_⟩
  · have := hperm.map (·.2)
    rw [List.map_map (l := List.range O.length)] at this
    rw [show ((·.2) ∘ szPr O : Nat → Nat) = id from rfl, List.map_id] at this
    exact this
  · rw [List.pairwise_map, List.pairwise_map]
    refine List.Pairwise.imp_of_mem ?_ hs
    intro x y hx hy hlt
    have h1 := hform _ (List.mem_map.mpr ⟨x, hx, rfl⟩)
    have h2 := hform _ (List.mem_map.mpr ⟨y, hy, rfl⟩)
    have e1 : sz O (prOf H x).2 = (prOf H x).1 := congrArg Prod.fst h1
    have e2 : sz O (prOf H y).2 = (prOf H y).1 := congrArg Prod.fst h2
    rw [e1, e2]
    have := SrtO.lexB_no.mp hlt
    dsimp only at this
    omega
  · rw [← hL]
    exact Pd.imp (prs_all hys) fun _ _ h => h.ext (Ext.new (T := T) hr)
/-- [a for a in range(n) if order[b] >> a & 1 == 1] -/
abbrev s__law_chains : Stmt := top 117
abbrev N__law_chains : List Str := ["_law_order_here", "_law_a", "_law_b", "_law_c"]
theorem sc__law_chains : FnScope N__law_chains ["_law_order_here", "_law_a", "_law_b"] (defScope s__law_chains) := ⟨rfl, rfl, rfl, by decide +kernel, rfl, by decide +kernel, by decide +kernel⟩
-- slots: 0 _law_order_here, 1 _law_a, 2 _law_b, 3 _law_c
def spChL (T : Tbs) (K : PySem.W.Frag) (d : Nat) : Sp := fun vs H Q _ => ∃ (p : Addr) (O : List Nat) (a b : Nat), vs = [.ref p, iv a, iv b] ∧ OrdAt K H p O ∧ IsOrd O ∧ a < O.length ∧ b < O.length ∧ usz O a ≤ d ∧
  ∀ H', Ext T H H' → Q (.int (gn O 1 a b)) H'
theorem ok__law_chains_step (B : Blt mg) (D : DefAt K mg "_law_chains" s__law_chains) {d : Nat} (g__law_chains : Calls P w K mg base d "_law_chains" ["_law_order_here", "_law_a", "_law_b"] (spChL T K d)) :
    Calls P w K mg base (d + 1) "_law_chains" ["_law_order_here", "_law_a", "_law_b"] (spChL T K (d + 1)) := by
  refine D.ok sc__law_chains (fun vs H Q E h => ?_) (fun _ _ _ _ _ _ us hl => match us, hl with | [_, _, _], _ => rfl) (fun f cdv A outer s H vs Q E hr h => ?_)
  · obtain ⟨p, O, a, b, rfl, hO, hI, ha, hb, hd, q⟩ := h; rfl
  obtain ⟨p, O, a, b, rfl, hO, hI, ha, hb, hd, q⟩ := h
  have nd := sc__law_chains.nd
  have hu := hu_of hr
  refine ⟨_, (pss_cons (ps_if (pt_cmpR op_eq (pe_op op_and (pe_op op_shr (pe_ix (r := rIxT K) ix_tup (pv 0) (pv 2) (fun _ _ => rfl)) (pv 1)) pe_int) pe_int (nomark _))
        (pss_one (ps_ret pe_int))
        pss_nil)
      (pss_cons (ps_if (pt_cmpR op_eq (pv 1) (pv 2) (nomark _))
        (pss_one (ps_ret pe_int))
        pss_nil)
      (pss_one (ps_ret (pe_callB (cr_sum rfl) (by rfl) B.sum (by decide +kernel) (pa_cons (pe_lc (own := [("_law_c", 3)]) (g := gName 3) rfl nd (pi_range1 (by rfl) B.range (pa_cons (pe_callB (r := rLenK K) call_lenK (by rfl) B.len PySem.boot_len (pa_cons (pv 0) pa_nil)) pa_nil)) (blkOk_by (own := [("_law_c", 3)]) (N := N__law_chains) (sc := defScope s__law_chains) (by decide +kernel)) (fun _ _ _ _ _ => pg_name (i := 3) nd rfl (Or.inl rfl)) (fun _ _ _ _ _ => pts_one (PW.pt (pw_and (pt_cmpR op_ne (pv 3) (pv 1) (nomark _)) (pw_and1 (pt_cmpR op_eq (pe_op op_and (pe_op op_shr (pe_ix (r := rIxT K) ix_tup (pv 0) (pv 3) (fun _ _ => rfl)) (pv 1)) pe_int) pe_int (nomark _)))))) (fun _ _ _ _ _ => (pe_callD g__law_chains (hr.mono (Nat.le_refl _)) rfl (pa_cons (pv 0) (pa_cons (pv 3) (pa_cons (pv 2) pa_nil)))))) pa_nil)))))), ?_⟩
  have hlen := hO.len
  refine e_seq (s_if (tt_bit0 rfl rfl rfl hO hb) (fun hc => ?_) (fun hc => ?_))
  · have hl : le O a b = false := by simpa using hc
    have := q H .refl
    rw [gn_off (fun e => by
      rw [e, hI.rf b hb] at hl
      cases hl) hl] at this
    exact this
  · have hl : le O a b = true := by simpa using hc
    try dsimp only
    refine e_seq (s_if (tt_eq (vv_var rfl) (vv_var rfl)) (fun he => ?_) (fun he => ?_))
    · have he : a = b := of_decide_eq_true he
      subst he
      have := q H .refl
      rw [gn_self hI 1 ha] at this
      exact this
    · have he : a ≠ b := of_decide_eq_false he
      try dsimp only
      refine e_ret (e_cb (e_cons (lc_rng (T := T) O.length (fun c => decide (c ≠ a) && le O a c) (fun c => .int (gn O 1 c b)) (by omega) (al_lenO rfl hO) (fun _ => rfl) ?_ ?_ ?_)))
      · intro c H1 hc e1
        exact (tt_and (tt_ne (vv_var rfl) (vv_var rfl)) fun _ => tt_bit rfl rfl rfl (hO.ext e1) hc).l
      · intro c H1 hcn hc e1 R r
        rw [Bool.and_eq_true] at hc
        have := usz_lt hI hc.2 (of_decide_eq_true hc.1)
        exact ⟨_, rfl, _, rfl, _, rfl, p, O, c, b, rfl, hO.ext e1, hI, hcn, hb, by omega, fun H2 e2 => r H2 e2⟩
      · intro p2 H1 e1 _ hL
        refine ⟨p2, ((List.range O.length).filter fun c => decide (c ≠ a) && le O a c).map fun c => gn O 1 c b, rfl, SqL.of (by rw [List.map_map]; exact hL), ?_⟩
        rw [gn_law hI he ha hb]
        exact q H1 e1
theorem ok__law_chains (B : Blt mg) (D : DefAt K mg "_law_chains" s__law_chains) : ∀ d, Calls P w K mg base d "_law_chains" ["_law_order_here", "_law_a", "_law_b"] (spChL T K d)
  | 0 => by
    obtain ⟨f, fd, hm, F⟩ := D
    refine ⟨f, fd, hm, F.kp, F.bindsN (fun _ _ _ _ _ _ us hl => match us, hl with | [_, _, _], _ => rfl), ⟨fun vs H Q E h => ?_, fun A outer s H args us vs Q E _ _ _ _ h => ?_⟩⟩
    · obtain ⟨p, O, a, b, rfl, _⟩ := h
      rfl
    · obtain ⟨p, O, a, b, _, _, hI, ha, _, hu, _⟩ := h
      exact absurd (usz_pos hI ha) (by omega)
  | d + 1 => ok__law_chains_step B D (ok__law_chains B D d)
end
end SW

/-! ## SwR2 -/
/-! The law's own signs. -/
namespace SW
open PySem PySem.Spec PyProof.Rows L2 Bits
section
variable {σ : L2.St} {H : Hp} {D : Ends} {te ta : TA} {Q : VK} {K : PySem.W.Frag}
theorem e_tup (h : ta σ H fun xs H1 => xs.length ≤ sizeLine ∧ ∀ p, H1 p = none → Q (.ref p) (upd H1 p (.tup xs))) : tTup ta σ H Q := h
theorem e_lst (h : ta σ H fun xs H1 => xs.length ≤ sizeLine ∧ ∀ p, H1 p = none → Q (.ref p) (upd H1 p (.lst xs))) : tLst ta σ H Q := h
theorem e_bm {to : TE} {l : Addr} {xs : List V} {r : V → List V → Hp → VK → Prop} (ho : Vv to σ H (.ref l)) (hl : H l = some (.lst xs)) (h : ta σ H fun vs H2 => r (.ref l) vs H2 Q) : tBM K "list" r to ta σ H Q := ho _ ⟨.inl ⟨rfl, _, SqL.of hl⟩, h⟩
theorem e_var {i : Nat} {v : V} (h : σ[i]? = some (some v)) (q : Q v H) : tVar i σ H Q := ⟨v, h, q⟩
theorem e_nil {QA : List V → Hp → Prop} (h : QA [] H) : tNil σ H QA := h
theorem set_fst {ls : Rw} {b : Nat} {x : Addr × List Int} {L : List Int} (h : ls[b]? = some x) : (ls.set b (x.1, L)).map (·.1) = ls.map (·.1) := by
  obtain ⟨hb, hx⟩ := List.getElem?_eq_some_iff.mp h
  rw [List.map_set]
  apply List.ext_getElem (by simp)
  intro i h1 h2
  rw [List.getElem_set]
  split
  · rename_i e
    subst e
    simp [hx]
  · rfl
theorem LstOf.prs_ext {T : Tbs} {H' : Hp} {p : Addr} {xs : List (Nat × Nat)} (e : Ext T H H') (h : LstOf IsPr H p xs) : LstOf IsPr H' p xs := h.ext (fun _ _ r => r.ext e) e
theorem LstOf.prs_upd {p q : Addr} {o : HO} {us : List V} {xs : List (Nat × Nat)} (hq : H q = some (.lst us)) (n : p ≠ q) (h : LstOf IsPr H p xs) : LstOf IsPr (upd H q o) p xs := by
  obtain ⟨vs, h1, h2⟩ := h
  exact ⟨vs, by rw [upd_ne n]; exact h1, Pd.imp h2 fun _ _ r => r.upd hq⟩
end
section
variable {P : Program} {w : World} {K : PySem.W.Frag} {mg : Str → Option Value} {base : Heap} {T : Tbs}
/-- sizes.append((len([a for a in range(n) if a is beneath b]), b)) -/
theorem s_size {σ : L2.St} {H0 H : Hp} {D : Ends} {ta : TA} {tt : TT} {il ia ib b n : Nat} {vs : List Nat} {l : Addr} {O : List Nat} {xs : List (Nat × Nat)} (hn : n = O.length) (h16 : n ≤ 16) (hxs : xs.length ≤ 100) (e : Ext T H0 H) (hl0 : H0 l = none) (hp : LstOf IsPr H l xs) (hl : σ[il]? = some (some (.ref l))) (hb : σ[ib]? = some (some (iv b)))
    (ha : Al T ta σ H [iv n]) (hw : ∀ x, wipe ((wipe σ vs).set ia (some x)) vs = wipe σ vs) (hv : ∀ v, ((wipe σ vs).set ia (some v))[ia]? = some (some v)) (ht : ∀ i H1, i < n → Ext T H H1 → Tt tt ((wipe σ vs).set ia (some (iv i))) H1 (le O i b))
    (q : ∀ H', Ext T H0 H' → LstOf IsPr H' l (xs ++ [szPr O b]) → D.nx σ H') : tDrop (tBM K "list" rAppend (tVar il) (tCons (tTup (tCons (tCB (rLenK K) (tCons (tLc (iRng1 ta) (gName ia) tt (tVar ia) vs) tNil)) (tCons (tVar ib) tNil))) tNil)) D σ H := by
  subst hn
  obtain ⟨us, hus, hpd⟩ := hp
  refine e_drop (e_bm (vv_var hl) hus (e_cons (e_tup (e_cons (e_cb (e_cons (lc_rng (T := T) O.length (fun i => le O i b) iv (by omega) ha hw (fun i H1 hi e1 => (ht i H1 hi e1).l) (fun i H1 hi _ e1 => (vv_var (hv _)).l) ?_)))))))
  intro p H1 e1 hp1 hL
  refine ⟨p, _, rfl, .inl (SqL.of hL), _, hb, (by show 2 ≤ sizeLine; decide), fun t htn => ?_⟩
  rw [nats_len]
  have e2 : Ext T H (upd H1 t (.tup [.int ((down O b).length : Nat), iv b])) := e1.newer htn
  refine ⟨l, us, _, rfl, rfl, e2.lst hus, ?_, q _ ((e.trans e2).mutL hl0 (e2.lst hus)) ?_⟩
  · rw [Pd.len hpd]
    exact smallt (by omega)
  · exact prs_snoc (e2.lst hus) (Pd.imp hpd fun _ _ h => h.ext e2) ⟨t, rfl, upd_same⟩
theorem sizes_step (O : List Nat) (b : Nat) : (List.range (b + 1)).map (szPr O) = (List.range b).map (szPr O) ++ [szPr O b] := by rw [List.range_succ, List.map_append]; rfl
theorem newI_rep {σ : L2.St} {H : Hp} {n i : Nat} (hn : n ≤ 1000) (h : σ[i]? = some (some (iv n))) : NewI T (tOp rRep (tLst (tCons (tC (V.int 0)) tNil)) (tVar i)) σ H (List.replicate n 0) := fun Q q => by
  refine ⟨by decide, fun l0 hl0 => ⟨_, h, l0, _, _, rfl, rfl, upd_same, by omega, by omega, ?_, fun l hl => ?_⟩⟩
  · show 1 * ((n : Int)).toNat ≤ sizeLine
    rw [toNat_nat]
    exact small (by omega)
  · rw [rep_ints]
    have e0 : Ext T H (upd H l0 (.lst [V.int 0])) := .new hl0
    exact q l _ (e0.newer hl) (e0.back hl) upd_same
abbrev s__law_signs : Stmt := top 116
abbrev N__law_signs : List Str := ["_law_order_here", "_law_many", "_law_sizes", "_law_b", "_law_a", "_law_signs_here", "_law_size", "_law_c", "_law_known"]
theorem sc__law_signs : FnScope N__law_signs ["_law_order_here"] (defScope s__law_signs) := ⟨rfl, rfl, rfl, by decide +kernel, rfl, by decide +kernel, by decide +kernel⟩
-- slots: 0 _law_order_here, 1 _law_many, 2 _law_sizes, 3 _law_b, 4 _law_a, 5 _law_signs_here, 6 _law_size, 7 _law_c, 8 _law_known
def spSignsL (T : Tbs) (K : PySem.W.Frag) : Sp := fun vs H Q _ => ∃ (p : Addr) (O : List Nat), vs = [.ref p] ∧ OrdAt K H p O ∧ IsOrd O ∧
  ∀ t H' ls, Ext T H H' → Rws H H' t ls → ls.map (·.2) = table O → Q (.ref t) H'
theorem ok__law_signs (B : Blt mg) (D : DefAt K mg "_law_signs" s__law_signs) : Calls P w K mg base 1 "_law_signs" ["_law_order_here"] (spSignsL T K) := by
  refine D.ok sc__law_signs (fun vs H Q E h => ?_) (fun _ _ _ _ _ _ us hl => match us, hl with | [_], _ => rfl) (fun f cdv A outer s H vs Q E hr h => ?_)
  · obtain ⟨p, O, rfl, hO, hI, q⟩ := h; rfl
  obtain ⟨p, O, rfl, hO, hI, q⟩ := h
  have nd := sc__law_signs.nd
  have hu := hu_of hr
  refine ⟨_, (pss_cons (ps_set (i := 1) nd rfl (Or.inr rfl) (pe_callB (r := rLenK K) call_lenK (by rfl) B.len PySem.boot_len (pa_cons (pv 0) pa_nil)))
      (pss_cons (ps_set (i := 2) nd rfl (Or.inl rfl) (pe_lst pa_nil))
      (pss_cons (ps_for PassesOwn.never rfl (pi_range1 (by rfl) B.range (pa_cons (pv 1) pa_nil)) (pg_name (i := 3) nd rfl (Or.inr rfl))
        (pss_one (ps_expr (pe_bm PySem.F.plainAttrs_list PySem.F.slot_list_append PySem.F.type_list_append mt_append (pv 2) (pa_cons (pe_tup (pa_cons (pe_callB (r := rLenK K) call_lenK (by rfl) B.len PySem.boot_len (pa_cons (pe_lc (own := [("_law_a", 4)]) (g := gName 4) rfl nd (pi_range1 (by rfl) B.range (pa_cons (pv 1) pa_nil)) (blkOk_by (own := [("_law_a", 4)]) (N := N__law_signs) (sc := defScope s__law_signs) (by decide +kernel)) (fun _ _ _ _ _ => pg_name (i := 4) nd rfl (Or.inl rfl)) (fun _ _ _ _ _ => pts_one (pt_cmpR op_eq (pe_op op_and (pe_op op_shr (pe_ix (r := rIxT K) ix_tup (pv 0) (pv 3) (fun _ _ => rfl)) (pv 4)) pe_int) pe_int (nomark _))) (fun _ _ _ _ _ => (pv 4))) pa_nil)) (pa_cons (pv 3) pa_nil))) pa_nil)))))
      (pss_cons (ps_set (i := 5) nd rfl (Or.inr rfl) (pe_lc (own := [("_law_a", 4)]) (g := gName 4) rfl nd (pi_range1 (by rfl) B.range (pa_cons (pv 1) pa_nil)) (blkOk_by (own := [("_law_a", 4)]) (N := N__law_signs) (sc := defScope s__law_signs) (by decide +kernel)) (fun _ _ _ _ _ => pg_name (i := 4) nd rfl (Or.inl rfl)) (fun _ _ _ _ _ => pts_nil) (fun _ _ _ _ _ => (pe_op op_rep (pe_lst (pa_cons pe_int pa_nil)) (pv 1)))))
      (pss_cons (ps_for PassesOwn.never rfl (pi_range1 (by rfl) B.range (pa_cons (pv 1) pa_nil)) (pg_name (i := 4) nd rfl (Or.inr rfl))
        (pss_one (ps_for PassesOwn.never rfl (pi_list (pe_callB cr_sortedPO (by rfl) B.sorted (by decide +kernel) (pa_cons (pv 2) pa_nil))) (pg_tup rfl (pgs_cons (pg_name (i := 6) nd rfl (Or.inl rfl)) (pgs_cons (pg_name (i := 3) nd rfl (Or.inr rfl)) pgs_nil)))
          (pss_one (ps_if (pt_cmpR op_eq (pe_op op_and (pe_op op_shr (pe_ix (r := rIxT K) ix_tup (pv 0) (pv 3) (fun _ _ => rfl)) (pv 4)) pe_int) pe_int (nomark _))
            (pss_cons (ps_setLc (i := 8) (own := [("_law_c", 7)]) (g := gName 7) rfl nd rfl rfl (sw_true rfl rfl rfl (by decide +kernel)) (pi_range1 (by rfl) B.range (pa_cons (pv 1) pa_nil)) (blkOk_by (own := [("_law_c", 7)]) (N := N__law_signs) (sc := defScope s__law_signs) (by decide +kernel)) (fun _ _ _ _ _ => pg_name (i := 7) nd rfl (Or.inl rfl)) (fun _ _ _ _ _ => pts_one (PW.pt (pw_and (pt_cmpR op_ne (pv 7) (pv 3) (nomark _)) (pw_and1 (pt_cmpR op_eq (pe_op op_and (pe_op op_shr (pe_ix (r := rIxT K) ix_tup (pv 0) (pv 3) (fun _ _ => rfl)) (pv 7)) pe_int) pe_int (nomark _)))))) (fun _ _ _ _ _ => (pe_ix (r := rIxL K) ix_list (pe_ix (r := rIxL K) ix_list (pv 5) (pv 4) (fun _ _ => rfl)) (pv 7) (fun _ _ => rfl))))
            (pss_one (ps_asg (pe_op op_sub (pe_callTy call_int1 (by rfl) B.int (by decide +kernel) (pa_cons (pe_cmpR op_eq (pv 4) (pv 3) (nomark _)) pa_nil)) (pe_callB (cr_sum rfl) (by rfl) B.sum (by decide +kernel) (pa_cons (pv 8) pa_nil))) (pg_sub (pe_ix (r := rIxL K) ix_list (pv 5) (pv 4) (fun _ _ => rfl)) (pv 3) set_list))))
            pss_nil)))))
      (pss_one (ps_ret (pv 5)))))))), ?_⟩
  have hlen := hO.len
  refine e_seq (e_set (vv_lenO rfl hO _ ?_))
  try dsimp only
  refine e_seq (s_newL fun l hl => ?_)
  try dsimp only
  have e0 : Ext T H (upd H l (.lst [])) := .new hl
  refine e_seq (for_rng (T := T) O.length (by omega) (al_var rfl) (fun b σ H' => ∃ x, σ = [some (.ref p), some (iv O.length), some (.ref l), x, none, none, none, none, none] ∧ Ext T H H' ∧ LstOf IsPr H' l ((List.range b).map (szPr O))) ?_ ?_ ?_)
  · intro H1 e1
    exact ⟨none, rfl, e0.trans e1, [], e1.lst upd_same, .nil⟩
  · rintro b σ H1 hb ⟨x, rfl, e1, hL⟩
    refine s_size (T := T) rfl hlen (by simp; omega) e1 hl hL rfl rfl (al_var rfl) (fun _ => rfl) (fun _ => rfl) (fun i H2 hi e2 => tt_bit rfl rfl rfl (hO.ext (e1.trans e2)) hb) fun H2 e2 hL2 => ⟨_, rfl, e2, ?_⟩
    rw [sizes_step]
    exact hL2
  rintro σ H1 ⟨x, rfl, e1, hL⟩
  try dsimp only
  refine e_seq (e_set ?_)
  refine lc_rowsR (T := T) (n := O.length) (L := List.replicate O.length 0) (by omega) (al_var rfl) (fun _ => rfl) (fun _ _ _ => newI_rep (by omega) rfl) ?_
  intro t H2 ls0 e2 hls0 R0
  try dsimp only
  have hl0 : ls0.length = O.length := by have := congrArg List.length hls0; simpa using this
  have e12 := e1.trans e2
  refine e_seq (for_rng (T := T) O.length (by omega) (al_var rfl) (fun a σ H' => ∃ x1 x2 x3 x4 x5 ls, σ = [some (.ref p), some (iv O.length), some (.ref l), x1, x2, some (.ref t), x3, x4, x5] ∧ Ext T H1 H' ∧ LstOf IsPr H' l ((List.range O.length).map (szPr O)) ∧ Rws H1 H' t ls ∧ ls.length = O.length ∧
    ∀ k x, ls[k]? = some x → x.2 = if k < a then gRow O (-1) k else List.replicate O.length 0) ?_ ?_ ?_)
  · intro H3 e3
    refine ⟨_, _, _, _, _, ls0, rfl, e2.trans e3, (hL.prs_ext e2).prs_ext e3, R0.ext e3, hl0, fun k x hk => ?_⟩
    rw [if_neg (Nat.not_lt_zero _)]
    have : x.2 ∈ List.replicate O.length (List.replicate O.length (0 : Int)) := by rw [← hls0]; exact List.mem_map.mpr ⟨x, List.mem_of_getElem? hk, rfl⟩
    exact (List.mem_replicate.mp this).2
  · rintro a σ H3 ha ⟨x1, x2, x3, x4, x5, ls, rfl, e3, hL3, R3, hl3, hk3⟩
    try dsimp only
    obtain ⟨us1, hus1, hpd1⟩ := hL
    refine e_for (e_iL (e_cb (e_cons (e_var rfl (e_nil (sort_sizes (T := T) hL3 ?_))))))
    intro L r H4 hBS e4 hr hrL
    obtain ⟨us, hus, hpd⟩ := hrL
    have hrn := R3.fresh hr
    have hLl : L.length = O.length := by have := hBS.perm.length_eq; simpa using this
    refine ⟨r, rfl, ⟨_, SqL.of hus⟩, for_list (xs := us) (fun i σ H' => ∃ x1 x3 x4 x5 ls, σ = [some (.ref p), some (iv O.length), some (.ref l), x1, some (iv a), some (.ref t), x3, x4, x5] ∧ Ext T H1 H' ∧ LstOf IsPr H' l ((List.range O.length).map (szPr O)) ∧ H' r = some (.lst us) ∧ Paired (IsPr H') us (L.map (szPr O)) ∧ Rws H1 H' t ls ∧ ls.length = O.length ∧ r ∉ t :: ls.map (·.1) ∧
      ∀ k x, ls[k]? = some x → x.2 = if k < a then gRow O (-1) k else if k = a then (L.take i).foldl (stL O a) (List.replicate O.length 0) else List.replicate O.length 0)
      ⟨x1, x3, x4, x5, ls, rfl, e3.trans e4, hL3.prs_ext e4, hus, hpd, R3.ext e4, hl3, hrn, fun k x hk => ?_⟩ (fun i σ H' _ ⟨_, _, _, _, _, _, _, _, h, _⟩ => SqL.of h) ?_ ?_⟩
    · rw [hk3 k x hk]
      split
      · rfl
      · split <;> rfl
    · rintro i v σ H5 hi ⟨x1, x3, x4, x5, ls, rfl, e5, hL5, hr5, hpd5, R5, hl5, hrn5, hk5⟩
      obtain ⟨⟨s1, b⟩, hx, tq, rfl, htq⟩ := Pd.get hpd5 hi
      rw [List.getElem?_map] at hx
      cases hbL : L[i]? with
      | none => rw [hbL] at hx; cases hx
      | some b' =>
      rw [hbL] at hx
      have hx : szPr O b' = (s1, b) := Option.some.inj hx
      have hb1 : sz O b' = s1 := congrArg Prod.fst hx
      have hb2 : b' = b := congrArg Prod.snd hx
      subst hb1 hb2
      have hb : b' < O.length := hBS.mem.mp (List.mem_of_getElem? hbL)
      have hO5 := hO.ext (e1.trans e5)
      have hst : (L.take (i + 1)).foldl (stL O a) (List.replicate O.length 0) = stL O a ((L.take i).foldl (stL O a) (List.replicate O.length 0)) b' := by
        rw [take_snoc hbL, List.foldl_append]; rfl
      rw [hst]
      have hRl := stL_len O a (L.take i) (List.replicate O.length 0)
      rw [List.length_replicate] at hRl
      generalize (L.take i).foldl (stL O a) (List.replicate O.length 0) = R at hRl hk5 ⊢
      obtain ⟨xa, hxa⟩ : ∃ x, ls[a]? = some x := ⟨_, List.getElem?_eq_getElem (by rw [hl5]; exact ha)⟩
      have hxaR : xa.2 = R := by rw [hk5 a xa hxa, if_neg (by omega), if_pos rfl]
      have hrow : H5 xa.1 = some (.lst (intsV R)) := by rw [← hxaR]; exact R5.its xa (List.mem_of_getElem? hxa)
      refine ⟨tq, _, rfl, SqT.of htq, rfl, _, _, rfl, _, _, rfl, rfl, ?_⟩
      try dsimp only
      refine s_if (tt_bit rfl rfl rfl hO5 hb) (fun hc => ?_) (fun hc => ?_)
      · refine e_seq (e_set ?_)
        refine lc_rng (T := T) O.length (fun c => decide (c ≠ b') && le O c b') (fun c => .int (R.getD c 0)) (by omega) (al_var rfl) (fun _ => rfl) ?_ ?_ ?_
        · intro c H6 hc6 e6
          exact (tt_and (tt_ne (vv_var rfl) (vv_var rfl)) fun _ => tt_bit rfl rfl rfl (hO5.ext e6) hb).l
        · intro c H6 hc6 _ e6
          exact (vv_ixL (vv_ixL (vv_var rfl) (vv_var rfl) (SqL.of (R5.ext e6).at_) (refs_get hxa)) (vv_var rfl) (SqL.of (e6.lst hrow)) (at_ints (by rw [hRl]; exact hc6))).l
        · intro kn H6 e6 hkn hL6
          try dsimp only
          have R6 := R5.ext e6
          refine e_asg (e_op (e_cb (e_cons ?_)))
          refine ⟨_, rfl, _, rfl, rfl, .inr ⟨_, rfl, ?_⟩⟩
          refine e_cb (e_cons (e_var rfl ⟨kn, ((List.range O.length).filter fun c => decide (c ≠ b') && le O c b').map fun c => R.getD c 0, rfl, SqL.of (by rw [List.map_map]; exact hL6), ?_⟩))
          refine ⟨_, _, rfl, rfl, ?_⟩
          have nrx : r ≠ xa.1 := fun z => hrn5 (by rw [z]; exact List.mem_cons_of_mem _ (List.mem_map.mpr ⟨xa, List.mem_of_getElem? hxa, rfl⟩))
          have nx1 : H1 xa.1 = none := R6.new xa.1 (List.mem_cons_of_mem _ (List.mem_map.mpr ⟨xa, List.mem_of_getElem? hxa, rfl⟩))
          have nlx : l ≠ xa.1 := fun z => by
            rw [← z, hus1] at nx1
            cases nx1
          have hrow6 := e6.lst hrow
          refine g_setL hrow6 (vv_ixL (vv_var rfl) (vv_var rfl) (SqL.of R6.at_) (refs_get hxa)) (vv_var rfl) (by rw [ints_len, hRl]; exact hb) ?_
          rw [ints_set]
          have hval : R.set b' ((if decide (V.int (a : Int) = V.int (b' : Int)) = true then 1 else 0) - (((List.range O.length).filter fun c => decide (c ≠ b') && le O c b').map fun c => R.getD c 0).sum) = stL O a R b' := by
            unfold stL
            rw [if_pos hc, dec_iv]
            congr 2
            by_cases k : a = b'
            · rw [if_pos k, if_pos (decide_eq_true k)]
            · rw [if_neg k, if_neg (by rw [decide_eq_false k]; decide)]
          rw [hval]
          refine ⟨_, _, _, _, ls.set a (xa.1, stL O a R b'), rfl, (e5.trans e6).mutL nx1 hrow6, (hL5.prs_ext e6).prs_upd hrow6 nlx, ?_, Pd.imp hpd5 fun _ _ h => (h.ext e6).upd hrow6, R6.mutI hxa, by rw [List.length_set]; exact hl5, by rw [set_fst hxa]; exact hrn5, fun k x hk => ?_⟩
          · rw [upd_ne nrx]
            exact e6.lst hr5
          · rw [List.getElem?_set] at hk
            by_cases z : a = k
            · subst z
              rw [if_pos rfl, if_pos (by rw [hl5]; exact ha)] at hk
              rw [if_neg (by omega), if_pos rfl, ← Option.some.inj hk]
            · rw [if_neg z] at hk
              rw [hk5 k x hk]
              split
              · rfl
              · rw [if_neg fun e => z e.symm, if_neg fun e => z e.symm]
      · refine ⟨_, _, _, _, ls, rfl, e5, hL5, hr5, hpd5, R5, hl5, hrn5, fun k x hk => ?_⟩
        have hs : stL O a R b' = R := by
          unfold stL
          rw [if_neg (by rw [hc]; decide)]
        rw [hs]
        exact hk5 k x hk
    · rintro σ H5 ⟨x1, x3, x4, x5, ls, rfl, e5, hL5, hr5, hpd5, R5, hl5, hrn5, hk5⟩
      rw [Pd.len hpd, List.length_map, List.take_length, fillL_all hI hBS ha] at hk5
      refine ⟨_, _, _, _, _, ls, rfl, e5, hL5, R5, hl5, fun k x hk => ?_⟩
      rw [hk5 k x hk]
      by_cases z : k < a
      · rw [if_pos z, if_pos (by omega)]
      · rw [if_neg z]
        by_cases z2 : k = a
        · rw [if_pos z2, if_pos (by omega), z2]
        · rw [if_neg z2, if_neg (by omega)]
  · rintro σ H3 ⟨x1, x2, x3, x4, x5, ls, rfl, e3, hL3, R3, hl3, hk3⟩
    refine ⟨_, rfl, q t H3 ls (e1.trans e3) (R3.back e1) ?_⟩
    apply List.ext_getElem?
    intro k
    rw [List.getElem?_map]
    unfold table
    rw [List.getElem?_map]
    by_cases hk : k < O.length
    · obtain ⟨x, hx⟩ : ∃ x, ls[k]? = some x := ⟨_, List.getElem?_eq_getElem (by rw [hl3]; exact hk)⟩
      rw [hx, List.getElem?_range hk]
      show some x.2 = some _
      rw [hk3 k x hx, if_pos hk]
    · rw [List.getElem?_eq_none (by omega), List.getElem?_eq_none (by rw [List.length_range]; omega)]
      rfl
end
end SW

/-! ## SwM4 -/
/-! Full chains: their lengths from below and from above, by the program and by the law. -/
namespace SW
def nextsOf (O : List Nat) (a : Nat) : List Nat := (List.range O.length).filter (cov O a)
def covs (O : List Nat) (b : Nat) : List Nat := (List.range O.length).filter fun a => cov O a b
def upsOf (O : List Nat) (a : Nat) : List Nat := (List.range O.length).filter fun b => decide (b ≠ a) && le O a b
def asz (O : List Nat) (a : Nat) : Nat := (upsOf O a).length
theorem cov_le {O : List Nat} {a b : Nat} (h : cov O a b = true) : a ≠ b ∧ le O a b = true := by
  unfold cov at h
  rw [Bool.and_eq_true, Bool.and_eq_true] at h
  exact ⟨of_decide_eq_true h.1, h.2.1⟩
theorem mem_nextsOf {O : List Nat} (h : IsOrd O) {a b : Nat} : b ∈ nextsOf O a ↔ cov O a b = true := by
  unfold nextsOf
  rw [List.mem_filter, List.mem_range]
  exact ⟨fun z => z.2, fun z => ⟨(le_bd h (cov_le z).2).2, z⟩⟩
theorem mem_covs {O : List Nat} (h : IsOrd O) {a b : Nat} : a ∈ covs O b ↔ cov O a b = true := by
  unfold covs
  rw [List.mem_filter, List.mem_range]
  exact ⟨fun z => z.2, fun z => ⟨(le_bd h (cov_le z).2).1, z⟩⟩
theorem asz_lt {O : List Nat} (h : IsOrd O) {a b : Nat} (hc : cov O a b = true) : asz O b < asz O a := by
  obtain ⟨hn, hl⟩ := cov_le hc
  refine filter_len_lt _ _ _ (fun x _ hx => ?_) b (List.mem_range.mpr (le_bd h hl).2) ?_ ?_
  · rw [Bool.and_eq_true, decide_eq_true_iff] at hx ⊢
    refine ⟨fun e => ?_, h.tr _ _ _ hl hx.2⟩
    rw [e] at hx
    exact hn (h.an _ _ hl hx.2)
  · rw [Bool.and_eq_true, decide_eq_true_iff]
    exact ⟨fun e => hn e.symm, hl⟩
  · simp
/-! ### the pairs by their first, by their second -/
theorem filt_fst {g : Nat → List Nat} (k : Nat) : ∀ n, (((List.range n).flatMap fun a => (g a).map fun b => (a, b)).filter fun x => decide (x.1 = k)).map (·.2) = if k < n then g k else []
  | 0 => by simp
  | n + 1 => by
    have ih := filt_fst (g := g) k n
    rw [List.range_succ, List.flatMap_append, List.filter_append, List.map_append, ih]
    have e : ([n].flatMap fun a => (g a).map fun b => (a, b)) = (g n).map fun b => (n, b) := by simp
    rw [e]
    by_cases q : n = k
    · subst q
      have : (((g n).map fun b => (n, b)).filter fun x => decide (x.1 = n)) = (g n).map fun b => (n, b) := List.filter_eq_self.mpr fun x hx => by
        obtain ⟨b, _, rfl⟩ := List.mem_map.mp hx
        simp
      rw [this, if_neg (Nat.lt_irrefl _), if_pos (Nat.lt_succ_self _), List.map_map, List.nil_append]
      exact List.map_id _
    · have : (((g n).map fun b => (n, b)).filter fun x => decide (x.1 = k)) = [] := List.filter_eq_nil_iff.mpr fun x hx => by
        obtain ⟨b, _, rfl⟩ := List.mem_map.mp hx
        simp [q]
      rw [this]
      by_cases z : k < n
      · rw [if_pos z, if_pos (by omega)]; simp
      · rw [if_neg z, if_neg (by omega)]; rfl
theorem nexts_fst (O : List Nat) {k : Nat} (hk : k < O.length) : ((nexts O).filter fun x => decide (x.1 = k)).map (·.2) = nextsOf O k := by
  unfold nexts
  rw [filt_fst (g := fun a => (List.range O.length).filter (cov O a)) k O.length, if_pos hk]
  rfl
theorem filt_snd {p : Nat → Nat → Bool} (m k : Nat) (hk : k < m) : ∀ n, (((List.range n).flatMap fun a => ((List.range m).filter (p a)).map fun b => (a, b)).filter fun x => decide (x.2 = k)).map (·.1) = (List.range n).filter fun a => p a k
  | 0 => rfl
  | n + 1 => by
    have ih := filt_snd (p := p) m k hk n
    rw [List.range_succ, List.flatMap_append, List.filter_append, List.map_append, ih, List.filter_append]
    congr 1
    have e : ([n].flatMap fun a => ((List.range m).filter (p a)).map fun b => (a, b)) = ((List.range m).filter (p n)).map fun b => (n, b) := by simp
    rw [e, List.filter_map, List.map_map, List.filter_filter]
    have : ((List.range m).filter fun a => ((fun x : Nat × Nat => decide (x.2 = k)) ∘ fun b => (n, b)) a && p n a) = if p n k = true then [k] else [] := by
      clear ih e
      induction m with
      | zero => exact absurd hk (Nat.not_lt_zero _)
      | succ m ihm =>
        rw [List.range_succ, List.filter_append]
        by_cases q : m = k
        · subst q
          have h0 : ((List.range m).filter fun a => ((fun x : Nat × Nat => decide (x.2 = m)) ∘ fun b => (n, b)) a && p n a) = [] := List.filter_eq_nil_iff.mpr fun x hx => by
            have := List.mem_range.mp hx
            simp
            intro e; omega
          rw [h0, List.nil_append]
          by_cases z : p n m = true
          · rw [if_pos z, List.filter_cons_of_pos (by simp [z])]; rfl
          · rw [if_neg z, List.filter_cons_of_neg (by simp [z])]; rfl
        · rw [ihm (by omega), List.filter_cons_of_neg (by simp [q])]
          simp
    rw [this]
    by_cases z : p n k = true
    · rw [if_pos z, List.filter_cons_of_pos (by simpa using z)]; rfl
    · rw [if_neg z, List.filter_cons_of_neg (by simpa using z)]; rfl
theorem nexts_snd (O : List Nat) {k : Nat} (hk : k < O.length) : ((nexts O).filter fun x => decide (x.2 = k)).map (·.1) = covs O k := filt_snd O.length k hk O.length
/-! ### the longest, the shortest from a thing up -/
def IsCh (most : Bool) (ns : List Nat) (m : Nat) : Prop := m ∈ ns ∧ ∀ y ∈ ns, if most = true then y ≤ m else m ≤ y
def EqF (O : List Nat) (most : Bool) (F : Nat → Nat) (a : Nat) : Prop := (nextsOf O a = [] → F a = 1) ∧ (nextsOf O a ≠ [] → ∃ m, IsCh most ((nextsOf O a).map F) m ∧ F a = 1 + m)
inductive UpL (O : List Nat) : Nat → Nat → Prop
  | one {a : Nat} : a < O.length → nextsOf O a = [] → UpL O a 1
  | more {a b k : Nat} : cov O a b = true → UpL O b k → UpL O a (k + 1)
theorem span_up {O : List Nat} (h : IsOrd O) {most : Bool} {F : Nat → Nat} (hF : ∀ a, a < O.length → EqF O most F a) : ∀ N a, asz O a ≤ N → a < O.length → UpL O a (F a) ∧ ∀ k, UpL O a k → if most = true then k ≤ F a else F a ≤ k := by
  intro N
  induction N with
  | zero =>
    intro a hN ha
    have hnil : nextsOf O a = [] := by
      cases q : nextsOf O a with
      | nil => rfl
      | cons b r =>
        have := asz_lt h ((mem_nextsOf h).mp (by rw [q]; exact List.mem_cons_self))
        omega
    rw [(hF a ha).1 hnil]
    refine ⟨.one ha hnil, fun k hk => ?_⟩
    cases hk with
    | one _ _ => split <;> exact Nat.le_refl _
    | more hc _ => rw [← mem_nextsOf h, hnil] at hc; cases hc
  | succ N ih =>
    intro a hN ha
    by_cases hnil : nextsOf O a = []
    · rw [(hF a ha).1 hnil]
      refine ⟨.one ha hnil, fun k hk => ?_⟩
      cases hk with
      | one _ _ => split <;> exact Nat.le_refl _
      | more hc _ => rw [← mem_nextsOf h, hnil] at hc; cases hc
    · obtain ⟨m, ⟨hm, hall⟩, e⟩ := (hF a ha).2 hnil
      obtain ⟨b, hb, rfl⟩ := List.mem_map.mp hm
      have hc := (mem_nextsOf h).mp hb
      have hlt := asz_lt h hc
      have hbn := (le_bd h (cov_le hc).2).2
      rw [e, Nat.add_comm]
      refine ⟨.more hc (ih b (by omega) hbn).1, fun k hk => ?_⟩
      cases hk with
      | one _ hn => exact absurd hn hnil
      | more hc2 hk2 =>
        rename_i b2 k2
        have h2 := (ih b2 (by have := asz_lt h hc2; omega) (le_bd h (cov_le hc2).2).2).2 _ hk2
        have h3 := hall (F b2) (List.mem_map.mpr ⟨b2, (mem_nextsOf h).mpr hc2, rfl⟩)
        cases most with
        | true =>
          rw [if_pos rfl] at h2 h3 ⊢
          omega
        | false =>
          rw [if_neg (by decide)] at h2 h3 ⊢
          omega
/-! ### chains downward -/
inductive DnL (O : List Nat) : Nat → Nat → Prop
  | one {b : Nat} : b < O.length → sz O b = 1 → DnL O b 1
  | more {a b k : Nat} : cov O a b = true → DnL O a k → DnL O b (k + 1)
theorem full_dn {O : List Nat} (h : IsOrd O) {a k : Nat} (hu : UpL O a k) : ∀ {j : Nat}, DnL O a (j + 1) → ∃ b, b < O.length ∧ nextsOf O b = [] ∧ DnL O b (j + k) := by
  induction hu with
  | one ha hn => intro j hd; exact ⟨_, ha, hn, hd⟩
  | more hc _ ih =>
    intro j hd
    obtain ⟨b, h1, h2, h3⟩ := ih (.more hc hd)
    exact ⟨b, h1, h2, by rw [Nat.add_right_comm] at h3; exact h3⟩
theorem full_up {O : List Nat} (h : IsOrd O) {b k : Nat} (hd : DnL O b k) : ∀ {j : Nat}, UpL O b (j + 1) → ∃ a, a < O.length ∧ sz O a = 1 ∧ UpL O a (j + k) := by
  induction hd with
  | one hb hs => intro j hu; exact ⟨_, hb, hs, hu⟩
  | more hc _ ih =>
    intro j hu
    obtain ⟨a, h1, h2, h3⟩ := ih (.more hc hu)
    exact ⟨a, h1, h2, by rw [Nat.add_right_comm] at h3; exact h3⟩
/-- lengths of full chains -/
def Full (O : List Nat) (k : Nat) : Prop := ∃ b, b < O.length ∧ nextsOf O b = [] ∧ DnL O b k
theorem full_iff {O : List Nat} (h : IsOrd O) {k : Nat} : Full O k ↔ ∃ a, a < O.length ∧ sz O a = 1 ∧ UpL O a k := by
  constructor
  · rintro ⟨b, hb, hn, hd⟩
    have := full_up h hd (j := 0) (.one hb hn)
    rwa [Nat.zero_add] at this
  · rintro ⟨a, ha, hs, hu⟩
    have := full_dn h hu (j := 0) (.one ha hs)
    rwa [Nat.zero_add] at this
/-! ### the law's own lists of lengths -/
def dlF (O : List Nat) : Nat → Nat → List Nat
  | 0, _ => []
  | k + 1, b => ((covs O b).flatMap fun a => (dlF O k a).map (· + 1)) ++ if sz O b = 1 then [1] else []
def dl' (O : List Nat) (b : Nat) : List Nat := dlF O (sz O b) b
theorem dlF_stable {O : List Nat} (h : IsOrd O) : ∀ (N b : Nat), b < O.length → sz O b ≤ N → ∀ k j, sz O b ≤ k → sz O b ≤ j → dlF O k b = dlF O j b
  | 0, b, hb, hN, _, _, _, _ => absurd (sz_pos h hb) (by omega)
  | N + 1, b, hb, hN, k, j, hk, hj => by
    have hp := sz_pos h hb
    obtain ⟨k', rfl⟩ : ∃ m, k = m + 1 := ⟨k - 1, by omega⟩
    obtain ⟨j', rfl⟩ : ∃ m, j = m + 1 := ⟨j - 1, by omega⟩
    unfold dlF
    congr 1
    have key : ∀ a ∈ covs O b, dlF O k' a = dlF O j' a := fun a ha => by
      have hc := (mem_covs h).mp ha
      have h1 := sz_lt h (cov_le hc).2 (cov_le hc).1
      exact dlF_stable h N a (le_bd h (cov_le hc).2).1 (by omega) k' j' (by omega) (by omega)
    generalize covs O b = l at key
    induction l with
    | nil => rfl
    | cons x r ih =>
      rw [List.flatMap_cons, List.flatMap_cons, key x List.mem_cons_self, ih fun a ha => key a (List.mem_cons_of_mem _ ha)]
theorem flatMap_cong {α β : Type} {f g : α → List β} : ∀ {l : List α}, (∀ a ∈ l, f a = g a) → l.flatMap f = l.flatMap g
  | [], _ => rfl
  | x :: r, h => by rw [List.flatMap_cons, List.flatMap_cons, h x List.mem_cons_self, flatMap_cong fun a ha => h a (List.mem_cons_of_mem _ ha)]
theorem dl_rec {O : List Nat} (h : IsOrd O) {b : Nat} (hb : b < O.length) : dl' O b = ((covs O b).flatMap fun a => (dl' O a).map (· + 1)) ++ if sz O b = 1 then [1] else [] := by
  have hp := sz_pos h hb
  unfold dl'
  obtain ⟨m, hm⟩ : ∃ m, sz O b = m + 1 := ⟨sz O b - 1, by omega⟩
  rw [hm]
  conv => lhs; unfold dlF
  rw [← hm]
  congr 1
  refine flatMap_cong fun a ha => ?_
  have hc := (mem_covs h).mp ha
  have h1 := sz_lt h (cov_le hc).2 (cov_le hc).1
  rw [dlF_stable h _ a (le_bd h (cov_le hc).2).1 (Nat.le_refl _) m (sz O a) (by omega) (Nat.le_refl _)]
theorem mem_dl {O : List Nat} (h : IsOrd O) : ∀ (N b : Nat), sz O b ≤ N → b < O.length → ∀ k, k ∈ dl' O b ↔ DnL O b k
  | 0, b, hN, hb, _ => absurd (sz_pos h hb) (by omega)
  | N + 1, b, hN, hb, k => by
    rw [dl_rec h hb, List.mem_append, List.mem_flatMap]
    have key : ∀ a, cov O a b = true → ∀ j, j ∈ dl' O a ↔ DnL O a j := fun a hc j => by
      have h1 := sz_lt h (cov_le hc).2 (cov_le hc).1
      exact mem_dl h N a (by omega) (le_bd h (cov_le hc).2).1 j
    constructor
    · rintro (⟨a, ha, hk⟩ | hk)
      · obtain ⟨j, hj, rfl⟩ := List.mem_map.mp hk
        have hc := (mem_covs h).mp ha
        exact .more hc ((key a hc j).mp hj)
      · split at hk
        · rename_i hs
          rw [List.mem_singleton.mp hk]
          exact .one hb hs
        · cases hk
    · intro hd
      cases hd with
      | one _ hs => right; rw [if_pos hs]; exact List.mem_singleton.mpr rfl
      | more hc hd =>
        left
        exact ⟨_, (mem_covs h).mpr hc, List.mem_map.mpr ⟨_, (key _ hc _).mpr hd, rfl⟩⟩
def fact : Nat → Nat
  | 0 => 1
  | n + 1 => (n + 1) * fact n
theorem fact_pos : ∀ n, 0 < fact n
  | 0 => by decide
  | n + 1 => Nat.mul_pos (Nat.succ_pos n) (fact_pos n)
theorem fact_mono : ∀ {n m : Nat}, n ≤ m → fact n ≤ fact m := by
  intro n m h
  induction h with
  | refl => exact Nat.le_refl _
  | step _ ih => exact Nat.le_trans ih (Nat.le_mul_of_pos_left _ (Nat.succ_pos _))
theorem flatMap_len_le {α β : Type} {f : α → List β} {B : Nat} : ∀ {l : List α}, (∀ a ∈ l, (f a).length ≤ B) → (l.flatMap f).length ≤ l.length * B
  | [], _ => by simp
  | x :: r, h => by
    rw [List.flatMap_cons, List.length_append, List.length_cons, Nat.succ_mul, Nat.add_comm (r.length * B)]
    exact Nat.add_le_add (h x List.mem_cons_self) (flatMap_len_le fun a ha => h a (List.mem_cons_of_mem _ ha))
theorem covs_len {O : List Nat} (h : IsOrd O) {b : Nat} (hb : b < O.length) : (covs O b).length < sz O b := by
  refine filter_len_lt _ _ _ (fun x _ hx => (cov_le hx).2) b (List.mem_range.mpr hb) (h.rf b hb) ?_
  cases z : cov O b b with
  | false => rfl
  | true => exact absurd rfl (cov_le z).1
theorem dl_len {O : List Nat} (h : IsOrd O) : ∀ (N b : Nat), sz O b ≤ N → b < O.length → (dl' O b).length ≤ fact (sz O b - 1)
  | 0, b, hN, hb => absurd (sz_pos h hb) (by omega)
  | N + 1, b, hN, hb => by
    rw [dl_rec h hb, List.length_append]
    have hl := covs_len h hb
    by_cases hs : sz O b = 1
    · have : covs O b = [] := List.eq_nil_of_length_eq_zero (by omega)
      rw [this, if_pos hs]
      exact fact_pos _
    · rw [if_neg hs]
      obtain ⟨m, hm⟩ : ∃ m, sz O b = m + 2 := ⟨sz O b - 2, by have := sz_pos h hb; omega⟩
      have h1 : ((covs O b).flatMap fun a => (dl' O a).map (· + 1)).length ≤ (covs O b).length * fact m := flatMap_len_le fun a ha => by
        rw [List.length_map]
        have hc := (mem_covs h).mp ha
        have h2 := sz_lt h (cov_le hc).2 (cov_le hc).1
        exact Nat.le_trans (dl_len h N a (by omega) (le_bd h (cov_le hc).2).1) (fact_mono (by omega))
      have h2 : (covs O b).length * fact m ≤ (m + 1) * fact m := Nat.mul_le_mul_right _ (by omega)
      rw [hm]
      show _ + 0 ≤ (m + 1) * fact m
      omega
def ends (O : List Nat) : List Nat := ((List.range O.length).filter fun b => decide (nextsOf O b = [])).flatMap (dl' O)
theorem mem_ends {O : List Nat} (h : IsOrd O) {k : Nat} : k ∈ ends O ↔ Full O k := by
  unfold ends Full
  rw [List.mem_flatMap]
  constructor
  · rintro ⟨b, hb, hk⟩
    rw [List.mem_filter, List.mem_range] at hb
    exact ⟨b, hb.1, of_decide_eq_true hb.2, (mem_dl h _ b (Nat.le_refl _) hb.1 k).mp hk⟩
  · rintro ⟨b, hb, hn, hd⟩
    exact ⟨b, List.mem_filter.mpr ⟨List.mem_range.mpr hb, decide_eq_true hn⟩, (mem_dl h _ b (Nat.le_refl _) hb k).mpr hd⟩
theorem ends_len {O : List Nat} (h : IsOrd O) (h6 : O.length ≤ 6) : (ends O).length ≤ 720 := by
  have h1 : (ends O).length ≤ ((List.range O.length).filter fun b => decide (nextsOf O b = [])).length * 120 := flatMap_len_le fun b hb => by
    have hb := List.mem_range.mp (List.mem_filter.mp hb).1
    have := dl_len h _ b (Nat.le_refl _) hb
    refine Nat.le_trans this (Nat.le_trans (fact_mono (m := 5) ?_) (by decide))
    have := sz_le O b
    omega
  have h2 := List.length_filter_le (fun b => decide (nextsOf O b = [])) (List.range O.length)
  rw [List.length_range] at h2
  omega
theorem dl_len6 {O : List Nat} (h : IsOrd O) (h6 : O.length ≤ 6) {b : Nat} (hb : b < O.length) : (dl' O b).length ≤ 120 :=
  Nat.le_trans (dl_len h _ b (Nat.le_refl _) hb) (Nat.le_trans (fact_mono (m := 5) (by have := sz_le O b; omega)) (by decide))
/-! ### how many unlike ones -/
def met (ns : List Int) : List Int := PyProof.Rows.firstMet (fun i => ns.getD i 0) ns.length
theorem met_mem (val : Nat → Int) (x : Int) : ∀ i, x ∈ PyProof.Rows.firstMet val i ↔ ∃ j, j < i ∧ val j = x
  | 0 => by rw [PyProof.Rows.firstMet_zero]; simp
  | i + 1 => by
    rw [PyProof.Rows.firstMet_succ]
    have ih := met_mem val x i
    unfold PyProof.Rows.step_dedup
    have step : (∃ j, j < i + 1 ∧ val j = x) ↔ (∃ j, j < i ∧ val j = x) ∨ val i = x := by
      constructor
      · rintro ⟨j, hj, e⟩
        by_cases q : j = i
        · subst q; exact .inr e
        · exact .inl ⟨j, by omega, e⟩
      · rintro (⟨j, hj, e⟩ | e)
        · exact ⟨j, by omega, e⟩
        · exact ⟨i, by omega, e⟩
    rw [step, ← ih]
    split
    · rename_i hany
      obtain ⟨y, hy, ey⟩ := List.any_eq_true.mp hany
      have ey : y = val i := eq_of_beq ey
      constructor
      · exact .inl
      · rintro (z | z)
        · exact z
        · rw [← z, ← ey]; exact hy
    · rw [List.mem_append, List.mem_singleton]
      exact ⟨fun z => z.elim .inl fun e => .inr e.symm, fun z => z.elim .inl fun e => .inr e.symm⟩
theorem met_nodup (val : Nat → Int) : ∀ i, (PyProof.Rows.firstMet val i).Nodup
  | 0 => by rw [PyProof.Rows.firstMet_zero]; exact .nil
  | i + 1 => by
    rw [PyProof.Rows.firstMet_succ]
    have ih := met_nodup val i
    unfold PyProof.Rows.step_dedup
    split
    · exact ih
    · rename_i hany
      refine List.nodup_append.mpr ⟨ih, by simp, fun a ha b hb e => ?_⟩
      rw [List.mem_singleton.mp hb] at e
      exact hany (List.any_eq_true.mpr ⟨a, ha, by rw [e]; exact beq_self_eq_true _⟩)
theorem met_one {ns : List Int} : (met ns).length < 2 ↔ ∀ x ∈ ns, ∀ y ∈ ns, x = y := by
  have hm : ∀ x, x ∈ met ns ↔ x ∈ ns := fun x => by
    unfold met
    rw [met_mem]
    constructor
    · rintro ⟨j, hj, e⟩
      rw [List.getD_eq_getElem?_getD, List.getElem?_eq_getElem hj] at e
      rw [← e]
      exact List.getElem_mem hj
    · intro hx
      obtain ⟨j, hj, e⟩ := List.getElem_of_mem hx
      exact ⟨j, hj, by rw [List.getD_eq_getElem?_getD, List.getElem?_eq_getElem hj]; exact e⟩
  have hn : (met ns).Nodup := met_nodup _ _
  constructor
  · intro hl x hx y hy
    have hx := (hm x).mpr hx
    have hy := (hm y).mpr hy
    generalize met ns = l at hl hx hy
    match l, hl with
    | [], _ => cases hx
    | [z], _ => rw [List.mem_singleton.mp hx, List.mem_singleton.mp hy]
  · intro hall
    rcases Nat.lt_or_ge (met ns).length 2 with q | q
    · exact q
    · exfalso
      have h0 := (hm _).mp (List.getElem_mem (l := met ns) (n := 0) (by omega))
      have h1 := (hm _).mp (List.getElem_mem (l := met ns) (n := 1) (by omega))
      have := hall _ h0 _ h1
      exact List.pairwise_iff_getElem.mp hn 0 1 (by omega) (by omega) (by omega) this
def ranked (O : List Nat) : Bool := decide ((met ((ends O).map fun (k : Nat) => ((k : Nat) : Int))).length < 2)
theorem ranked_iff {O : List Nat} (h : IsOrd O) : ranked O = true ↔ ∀ j k, Full O j → Full O k → j = k := by
  unfold ranked
  rw [decide_eq_true_iff, met_one]
  constructor
  · intro hall j k hj hk
    have := hall (j : Int) (List.mem_map.mpr ⟨j, (mem_ends h).mpr hj, rfl⟩) (k : Int) (List.mem_map.mpr ⟨k, (mem_ends h).mpr hk, rfl⟩)
    omega
  · intro hall x hx y hy
    obtain ⟨j, hj, rfl⟩ := List.mem_map.mp hx
    obtain ⟨k, hk, rfl⟩ := List.mem_map.mp hy
    rw [hall j k ((mem_ends h).mp hj) ((mem_ends h).mp hk)]
/-- the least full chain and the longest have the same length just then -/
theorem ranked_spans {O : List Nat} (h : IsOrd O) {F G : Nat → Nat} (hF : ∀ a, a < O.length → EqF O false F a) (hG : ∀ a, a < O.length → EqF O true G a) {S : List Nat} (hS : ∀ a, a ∈ S ↔ a < O.length ∧ sz O a = 1) {x y : Nat} (hx : IsCh false (S.map F) x) (hy : IsCh true (S.map G) y) :
    decide (x = y) = ranked O := by
  have f1 : Full O x := by
    obtain ⟨a, ha, e⟩ := List.mem_map.mp hx.1
    have := (hS a).mp ha
    rw [← e]
    exact (full_iff h).mpr ⟨a, this.1, this.2, (span_up h hF _ a (Nat.le_refl _) this.1).1⟩
  have f2 : Full O y := by
    obtain ⟨a, ha, e⟩ := List.mem_map.mp hy.1
    have := (hS a).mp ha
    rw [← e]
    exact (full_iff h).mpr ⟨a, this.1, this.2, (span_up h hG _ a (Nat.le_refl _) this.1).1⟩
  have lo : ∀ k, Full O k → x ≤ k := fun k hk => by
    obtain ⟨a, ha, hs, hu⟩ := (full_iff h).mp hk
    have h1 := (span_up h hF _ a (Nat.le_refl _) ha).2 k hu
    have h2 := hx.2 (F a) (List.mem_map.mpr ⟨a, (hS a).mpr ⟨ha, hs⟩, rfl⟩)
    rw [if_neg (by decide)] at h1 h2
    omega
  have hi : ∀ k, Full O k → k ≤ y := fun k hk => by
    obtain ⟨a, ha, hs, hu⟩ := (full_iff h).mp hk
    have h1 := (span_up h hG _ a (Nat.le_refl _) ha).2 k hu
    have h2 := hy.2 (G a) (List.mem_map.mpr ⟨a, (hS a).mpr ⟨ha, hs⟩, rfl⟩)
    rw [if_pos rfl] at h1 h2
    omega
  cases q : ranked O with
  | true => exact decide_eq_true ((ranked_iff h).mp q x y f1 f2)
  | false =>
    refine decide_eq_false fun e => ?_
    have : ranked O = true := (ranked_iff h).mpr fun j k hj hk => by
      have := lo j hj; have := lo k hk; have := hi j hj; have := hi k hk
      omega
    rw [this] at q
    cases q
theorem ranked_nil : ranked [] = true := by decide +kernel
/-- there is a least thing -/
theorem least_ex {O : List Nat} (h : IsOrd O) : ∀ (N b : Nat), sz O b ≤ N → b < O.length → ∃ a, a < O.length ∧ sz O a = 1
  | 0, b, hN, hb => absurd (sz_pos h hb) (by omega)
  | N + 1, b, hN, hb => by
    by_cases q : sz O b = 1
    · exact ⟨b, hb, q⟩
    · have : ∃ c, c ∈ down O b ∧ c ≠ b := by
        rcases Classical.em (∃ c, c ∈ down O b ∧ c ≠ b) with z | z
        · exact z
        · exfalso
          have hall : ∀ c ∈ down O b, c = b := fun c hc => Classical.byContradiction fun n => z ⟨c, hc, n⟩
          have hnd : (down O b).Nodup := List.nodup_range.filter _
          have : (down O b).length ≤ 1 := by
            match hd : down O b with
            | [] => exact Nat.zero_le _
            | [x] => exact Nat.le_refl _
            | x :: y :: r =>
              rw [hd] at hall hnd
              have h1 := hall x List.mem_cons_self
              have h2 := hall y (List.mem_cons_of_mem _ List.mem_cons_self)
              exact absurd (h1.trans h2.symm) fun e => (List.nodup_cons.mp hnd).1 (by rw [e]; exact List.mem_cons_self)
          have hp := sz_pos h hb
          unfold sz at q hp
          omega
      obtain ⟨c, hc, hn⟩ := this
      have hcm := mem_down.mp hc
      have := sz_lt h hcm.2 hn
      exact least_ex h N c (by omega) hcm.1
/-- the least things by their masks -/
theorem least_mask {O : List Nat} (h : IsOrd O) {b : Nat} (hb : b < O.length) : O.getD b 0 = 2 ^ b ↔ sz O b = 1 := by
  constructor
  · intro e
    have : down O b = [b] := by
      have h1 : ∀ c, c ∈ down O b ↔ c = b := fun c => by
        rw [mem_down]
        unfold le
        rw [e, Nat.testBit_two_pow]
        constructor
        · intro z; exact (of_decide_eq_true z.2).symm
        · intro z; subst z; exact ⟨hb, decide_eq_true rfl⟩
      have hnd : (down O b).Nodup := List.nodup_range.filter _
      match hd : down O b with
      | [] => exact absurd ((h1 b).mpr rfl) (by rw [hd]; simp)
      | [x] => rw [hd] at h1; rw [(h1 x).mp List.mem_cons_self]
      | x :: y :: r =>
        rw [hd] at h1 hnd
        have e1 := (h1 x).mp List.mem_cons_self
        have e2 := (h1 y).mp (List.mem_cons_of_mem _ List.mem_cons_self)
        exact absurd (e1.trans e2.symm) fun e => (List.nodup_cons.mp hnd).1 (by rw [e]; exact List.mem_cons_self)
    unfold sz
    rw [this]
    rfl
  · intro hs
    apply Nat.eq_of_testBit_eq
    intro c
    rw [Nat.testBit_two_pow]
    have hbm : b ∈ down O b := mem_down.mpr ⟨hb, h.rf b hb⟩
    have hd : down O b = [b] := by
      unfold sz at hs
      match hd : down O b with
      | [] => rw [hd] at hbm; cases hbm
      | [x] => rw [hd] at hbm; rw [List.mem_singleton.mp hbm]
      | x :: y :: r => rw [hd] at hs; simp at hs
    cases q : (O.getD b 0).testBit c with
    | true =>
      have : c ∈ down O b := mem_down.mpr ⟨(le_bd h (a := c) (b := b) q).1, q⟩
      rw [hd] at this
      exact (decide_eq_true (List.mem_singleton.mp this).symm).symm
    | false =>
      refine (decide_eq_false fun e => ?_).symm
      subst e
      have := h.rf b hb
      unfold le at this
      rw [q] at this
      cases this
end SW

/-! ## SwT -/
/-! ranks.py: next_above, walked_down, chosen, spans. -/
namespace SW
open PySem PySem.Spec PyProof.Rows L2 Bits
abbrev natsI (l : List Nat) : List Int := l.map fun (n : Nat) => ((n : Nat) : Int)
theorem nats_ints (l : List Nat) : intsV (natsI l) = nats l := by unfold intsV natsI nats; rw [List.map_map]; rfl
theorem natsI_app (a b : List Nat) : natsI (a ++ b) = natsI a ++ natsI b := List.map_append ..
theorem ints_app (l : List Int) (x : Int) : intsV l ++ [V.int x] = intsV (l ++ [x]) := by unfold intsV; rw [List.map_append]; rfl
section
variable {P : Program} {w : World} {K : PySem.W.Frag} {mg : Str → Option Value} {base : Heap} {T : Tbs}
theorem rows_at {ls : Rw} {n : Nat} {f : Nat → List Int} (hl : ls.length = n) (h : ∀ k x, ls[k]? = some x → x.2 = f k) : ls.map (·.2) = (List.range n).map f := by
  apply List.ext_getElem?
  intro k
  rw [List.getElem?_map, List.getElem?_map]
  by_cases hk : k < n
  · obtain ⟨x, hx⟩ : ∃ x, ls[k]? = some x := ⟨_, List.getElem?_eq_getElem (by rw [hl]; exact hk)⟩
    rw [hx, List.getElem?_range hk]
    show some x.2 = some _
    rw [h k x hx]
  · rw [List.getElem?_eq_none (by omega), List.getElem?_eq_none (by rw [List.length_range]; omega)]
    rfl
theorem rows_get {ls : Rw} {n : Nat} {f : Nat → List Int} (h : ls.map (·.2) = (List.range n).map f) {k : Nat} (hk : k < n) : ∃ x, ls[k]? = some x ∧ x.2 = f k := by
  have hl : ls.length = n := by have := congrArg List.length h; simpa using this
  have hx : ls[k]? = some _ := List.getElem?_eq_getElem (by rw [hl]; exact hk)
  refine ⟨_, hx, ?_⟩
  have := congrArg (fun l => l[k]?) h
  simp only [List.getElem?_map, hx, List.getElem?_range hk] at this
  exact Option.some.inj this
theorem rows_len {ls : Rw} {n : Nat} {f : Nat → List Int} (h : ls.map (·.2) = (List.range n).map f) : ls.length = n := by have := congrArg List.length h; simpa using this
abbrev s_next_above : Stmt := top 68
abbrev N_next_above : List Str := ["order", "b", "found", "a"]
theorem sc_next_above : FnScope N_next_above ["order"] (defScope s_next_above) := ⟨rfl, rfl, rfl, by decide +kernel, rfl, by decide +kernel, by decide +kernel⟩
-- slots: 0 order, 1 b, 2 found, 3 a
def spNextAbove (T : Tbs) (K : PySem.W.Frag) : Sp := fun vs H Q _ => ∃ (p : Addr) (O : List Nat), vs = [.ref p] ∧ OrdAt K H p O ∧ (∀ b, b < O.length → le O b b = true) ∧
  ∀ q H' ls, Ext T H H' → Rws H H' q ls → ls.map (·.2) = (List.range O.length).map (fun a => natsI (nextsOf O a)) → Q (.ref q) H'
theorem ok_next_above (B : Blt mg) (D : DefAt K mg "next_above" s_next_above) (g_next_pairs : Calls P w K mg base 3 "next_pairs" ["order"] (spNextPairs T K)) : Calls P w K mg base 4 "next_above" ["order"] (spNextAbove T K) := by
  refine D.ok sc_next_above (fun vs H Q E h => ?_) (fun _ _ _ _ _ _ us hl => match us, hl with | [_], _ => rfl) (fun f cdv A outer s H vs Q E hr h => ?_)
  · obtain ⟨p, O, rfl, hO, hrf, q⟩ := h; rfl
  obtain ⟨p, O, rfl, hO, hrf, q⟩ := h
  have nd := sc_next_above.nd
  have hu := hu_of hr
  refine ⟨_, (pss_cons (ps_setLc (i := 2) (own := [("b", 1)]) (g := gName 1) rfl nd rfl rfl (sw_true rfl rfl rfl (by decide +kernel)) (pi_range1 (by rfl) B.range (pa_cons (pe_callB (r := rLenK K) call_lenK (by rfl) B.len PySem.boot_len (pa_cons (pv 0) pa_nil)) pa_nil)) (blkOk_by (own := [("b", 1)]) (N := N_next_above) (sc := defScope s_next_above) (by decide +kernel)) (fun _ _ _ _ _ => pg_name (i := 1) nd rfl (Or.inl rfl)) (fun _ _ _ _ _ => pts_nil) (fun _ _ _ _ _ => (pe_lst pa_nil)))
      (pss_cons (ps_for PassesOwn.never rfl (pi_list (pe_callD g_next_pairs (hr.mono (by decide)) rfl (pa_cons (pv 0) pa_nil))) (pg_tup rfl (pgs_cons (pg_name (i := 3) nd rfl (Or.inl rfl)) (pgs_cons (pg_name (i := 1) nd rfl (Or.inl rfl)) pgs_nil)))
        (pss_one (ps_expr (pe_bm PySem.F.plainAttrs_list PySem.F.slot_list_append PySem.F.type_list_append mt_append (pe_ix (r := rIxL K) ix_list (pv 2) (pv 3) (fun _ _ => rfl)) (pa_cons (pv 1) pa_nil)))))
      (pss_one (ps_ret (pv 2))))), ?_⟩
  have hlen := hO.len
  refine e_seq (e_set ?_)
  refine lc_rowsR (T := T) (n := O.length) (L := []) (by omega) (al_lenO rfl hO) (fun _ => rfl) (fun _ _ _ => newI_nil) ?_
  intro l H1 ls0 e1 hls0 R0
  have hl0 : ls0.length = O.length := by have := congrArg List.length hls0; simpa using this
  try dsimp only
  refine e_seq (e_for (e_iL (e_call ⟨_, rfl, p, O, rfl, hO.ext e1, hrf, fun r H2 e2 hr hL => ?_⟩)))
  obtain ⟨vs, hv, hpd⟩ := hL
  have hrn := R0.fresh hr
  refine ⟨r, rfl, ⟨_, SqL.of hv⟩, for_list (xs := vs) (fun i σ H' => ∃ x y ls, σ = [some (.ref p), x, some (.ref l), y] ∧ Ext T H H' ∧ H' r = some (.lst vs) ∧ Paired (IsPr H') vs (nexts O) ∧ Rws H H' l ls ∧ ls.length = O.length ∧ r ∉ l :: ls.map (·.1) ∧
      ∀ k x, ls[k]? = some x → x.2 = natsI ((((nexts O).take i).filter fun y => decide (y.1 = k)).map (·.2)))
    ⟨_, _, ls0, rfl, e1.trans e2, hv, hpd, R0.ext e2, hl0, hrn, fun k x hk => ?_⟩ (fun i σ H' _ ⟨_, _, _, _, _, h, _⟩ => SqL.of h) ?_ ?_⟩
  · have : x.2 ∈ List.replicate O.length ([] : List Int) := by rw [← hls0]; exact List.mem_map.mpr ⟨x, List.mem_of_getElem? hk, rfl⟩
    rw [(List.mem_replicate.mp this).2]
    rfl
  · rintro i v σ H3 hi ⟨x, y, ls, rfl, e3, hv3, hpd3, R3, hl3, hrn3, hk3⟩
    obtain ⟨⟨a, b⟩, hx, t, rfl, ht⟩ := Pd.get hpd3 hi
    have hm := mem_nexts.mp (List.mem_of_getElem? hx)
    obtain ⟨xa, hxa⟩ : ∃ x, ls[a]? = some x := ⟨_, List.getElem?_eq_getElem (by rw [hl3]; exact hm.1)⟩
    have hxm := List.mem_of_getElem? hxa
    have hrow := R3.its xa hxm
    have nra : r ≠ xa.1 := fun z => hrn3 (by rw [z]; exact List.mem_cons_of_mem _ (List.mem_map.mpr ⟨xa, hxm, rfl⟩))
    have hxaH : H xa.1 = none := R3.new xa.1 (List.mem_cons_of_mem _ (List.mem_map.mpr ⟨xa, hxm, rfl⟩))
    refine ⟨t, _, rfl, SqT.of ht, rfl, _, _, rfl, _, _, rfl, rfl, ?_⟩
    refine s_app hrow (vv_ixL (vv_var rfl) (vv_var rfl) (SqL.of R3.at_) (refs_get hxa)) (vv_var rfl) ?_ ?_
    · rw [ints_len, hk3 a xa hxa, List.length_map, List.length_map]
      have h1 := List.length_filter_le (fun y : Nat × Nat => decide (y.1 = a)) ((nexts O).take i)
      have h2 := nexts_len hlen
      rw [List.length_take] at h1
      omega
    · have ea : intsV xa.2 ++ [iv b] = intsV (xa.2 ++ [((b : Nat) : Int)]) := ints_app _ _
      rw [ea]
      refine ⟨_, _, ls.set a (xa.1, xa.2 ++ [((b : Nat) : Int)]), rfl, e3.mutL hxaH hrow, ?_, Pd.imp hpd3 fun _ _ h => h.upd hrow, R3.mutI hxa, by rw [List.length_set]; exact hl3, by rw [set_fst hxa]; exact hrn3, fun k x hk => ?_⟩
      · rw [upd_ne nra]; exact hv3
      · rw [filt_take _ hx, List.getElem?_set] at *
        by_cases z : a = k
        · subst z
          rw [if_pos rfl, if_pos (by rw [hl3]; exact hm.1)] at hk
          rw [← Option.some.inj hk, if_pos (decide_eq_true rfl), List.map_append, natsI_app]
          show xa.2 ++ _ = _
          rw [hk3 a xa hxa]
          rfl
        · rw [if_neg z] at hk
          rw [hk3 k x hk, if_neg (by simpa using z), List.append_nil]
  · rintro σ H3 ⟨x, y, ls, rfl, e3, hv3, hpd3, R3, hl3, hrn3, hk3⟩
    rw [Pd.len hpd, List.take_length] at hk3
    refine ⟨_, rfl, q l H3 ls e3 R3 (rows_at hl3 fun k x hk => ?_)⟩
    rw [hk3 k x hk, nexts_fst O (by rw [← hl3]; exact (List.getElem?_eq_some_iff.mp hk).1)]
/-! ### sorted(pairs) by any sizes -/
theorem sort_by {H : Hp} {p : Addr} {n : Nat} {Q : VK} (f : Nat → Nat) (h : LstOf IsPr H p ((List.range n).map fun b => (f b, b)))
    (q : ∀ (L : List Nat) (r : Addr) (H' : Hp), L.Perm (List.range n) → (L.Pairwise fun a b => f a ≤ f b) → Ext T H H' → H r = none → LstOf IsPr H' r (L.map fun b => (f b, b)) → Q (.ref r) H') : rSortedPO K [.ref p] H Q := by
  obtain ⟨vs, hv, hp⟩ := h
  refine ⟨p, vs, fun v => (((prOf H v).1 : Nat), ((prOf H v).2 : Nat)), rfl, SqL.of hv, fun x hx => ?_, fun ys r hs hst hr => ?_⟩
  · obtain ⟨t, e, ht⟩ := prs_mem hp x hx
    exact ⟨t, e, ht⟩
  have hys : ∀ v ∈ ys, IsPr H v (prOf H v) := fun v hv' => prs_mem hp v (hst.perm.mem_iff.mp hv')
  have hperm : (ys.map (prOf H)).Perm ((List.range n).map fun b => (f b, b)) := by
    rw [← prs_map hp]
    exact hst.perm.map _
  have hform : ∀ x ∈ ys.map (prOf H), (f x.2, x.2) = x := fun x hx => by
    obtain ⟨b, _, e⟩ := List.mem_map.mp (hperm.mem_iff.mp hx)
    rw [← e]
  have hL : ys.map (prOf H) = ((ys.map (prOf H)).map (·.2)).map fun b => (f b, b) := by
    rw [List.map_map]
    conv => lhs; rw [← List.map_id (ys.map (prOf H))]
    exact List.map_congr_left fun x hx => (hform x hx).symm
  refine q ((ys.map (prOf H)).map (·.2)) r _ ?_ ?_ (.new hr) hr ⟨ys, upd_same, ?_⟩
  · have := hperm.map (·.2)
    rw [List.map_map (l := List.range n)] at this
    rw [show ((·.2) ∘ (fun b => (f b, b)) : Nat → Nat) = id from rfl, List.map_id] at this
    exact this
  · rw [List.pairwise_map, List.pairwise_map]
    refine List.Pairwise.imp_of_mem ?_ hs
    intro x y hx hy hlt
    have h1 := hform _ (List.mem_map.mpr ⟨x, hx, rfl⟩)
    have h2 := hform _ (List.mem_map.mpr ⟨y, hy, rfl⟩)
    have e1 : f (prOf H x).2 = (prOf H x).1 := congrArg Prod.fst h1
    have e2 : f (prOf H y).2 = (prOf H y).1 := congrArg Prod.fst h2
    rw [e1, e2]
    have := SrtO.lexB_no.mp hlt
    dsimp only at this
    omega
  · rw [← hL]
    exact Pd.imp (prs_all hys) fun _ _ h => h.ext (Ext.new (T := T) hr)
theorem bits_set {f : Nat → Bool} (n : Nat) : bits (setOf ((List.range n).filter f)) n = (List.range n).filter f := by
  unfold bits
  refine List.filter_congr fun i hi => ?_
  rw [setOf_bit]
  cases q : f i with
  | true => exact decide_eq_true (List.mem_filter.mpr ⟨hi, q⟩)
  | false => exact decide_eq_false fun z => by rw [(List.mem_filter.mp z).2] at q; cases q
abbrev s_walked_down : Stmt := top 69
abbrev N_walked_down : List Str := ["order", "a", "by_many", "many"]
theorem sc_walked_down : FnScope N_walked_down ["order"] (defScope s_walked_down) := ⟨rfl, rfl, rfl, by decide +kernel, rfl, by decide +kernel, by decide +kernel⟩
-- slots: 0 order, 1 a, 2 by_many, 3 many
def spWalked (T : Tbs) (K : PySem.W.Frag) : Sp := fun vs H Q _ => ∃ (p : Addr) (O : List Nat), vs = [.ref p] ∧ OrdAt K H p O ∧
  ∀ q H' L, Ext T H H' → H q = none → H' q = some (.lst (nats L)) → L.Perm (List.range O.length) → (L.Pairwise fun a b => asz O a ≤ asz O b) → Q (.ref q) H'
theorem ok_walked_down (B : Blt mg) (D : DefAt K mg "walked_down" s_walked_down) (g_above : Calls P w K mg base 2 "above" ["order", "a"] (spAbove T K)) (g_many_in : Calls P w K mg base 2 "many_in" ["mask"] (spManyIn T)) : Calls P w K mg base 3 "walked_down" ["order"] (spWalked T K) := by
  refine D.ok sc_walked_down (fun vs H Q E h => ?_) (fun _ _ _ _ _ _ us hl => match us, hl with | [_], _ => rfl) (fun f cdv A outer s H vs Q E hr h => ?_)
  · obtain ⟨p, O, rfl, hO, q⟩ := h; rfl
  obtain ⟨p, O, rfl, hO, q⟩ := h
  have nd := sc_walked_down.nd
  have hu := hu_of hr
  refine ⟨_, (pss_cons (ps_setLc (i := 2) (own := [("a", 1)]) (g := gName 1) rfl nd rfl rfl (sw_true rfl rfl rfl (by decide +kernel)) (pi_range1 (by rfl) B.range (pa_cons (pe_callB (r := rLenK K) call_lenK (by rfl) B.len PySem.boot_len (pa_cons (pv 0) pa_nil)) pa_nil)) (blkOk_by (own := [("a", 1)]) (N := N_walked_down) (sc := defScope s_walked_down) (by decide +kernel)) (fun _ _ _ _ _ => pg_name (i := 1) nd rfl (Or.inl rfl)) (fun _ _ _ _ _ => pts_nil) (fun _ _ _ _ _ => (pe_tup (pa_cons (pe_callD g_many_in (hr.mono (by decide)) rfl (pa_cons (pe_callD g_above (hr.mono (by decide)) rfl (pa_cons (pv 0) (pa_cons (pv 1) pa_nil))) pa_nil)) (pa_cons (pv 1) pa_nil)))))
      (pss_one (ps_ret (pe_lc (own := [("many", 3), ("a", 1)]) (g := gTup K 2 (gCons (gName 3) (gCons (gName 1) (gNil)))) rfl nd (pi_list (pe_callB cr_sortedPO (by rfl) B.sorted (by decide +kernel) (pa_cons (pv 2) pa_nil))) (blkOk_by (own := [("many", 3), ("a", 1)]) (N := N_walked_down) (sc := defScope s_walked_down) (by decide +kernel)) (fun _ _ _ _ _ => pg_tup rfl (pgs_cons (pg_name (i := 3) nd rfl (Or.inl rfl)) (pgs_cons (pg_name (i := 1) nd rfl (Or.inl rfl)) pgs_nil))) (fun _ _ _ _ _ => pts_nil) (fun _ _ _ _ _ => (pv 1)))))), ?_⟩
  have hlen := hO.len
  refine e_seq (e_set ?_)
  refine lc_rngP (T := T) O.length (by omega) (al_lenO rfl hO) (fun D i H' => H D = none ∧ Ext T H H' ∧ LstOf IsPr H' D ((List.range i).map fun a => (asz O a, a)))
    (fun D H1 e1 hD => ⟨e1.back hD, e1.newer hD, [], upd_same, .nil⟩) (fun D i H2 hi ⟨hD, e2, hL⟩ => ⟨rfl, ?_⟩) fun l H2 ⟨hD, e2, hL⟩ => ?_
  · obtain ⟨vs, hv, hpd⟩ := hL
    refine tl_yes (T := T) _ fun H3 e3 => iteT ?_
    have e23 := e2.trans e3
    refine e_tup (e_cons (e_call (e_cons (e_call ⟨_, rfl, _, rfl, p, O, i, rfl, hO.ext e23, hi, fun H4 e4 => ⟨_, O.length, rfl, setOf_lt fun j hj => List.mem_range.mp (List.mem_filter.mp hj).1, by omega, fun H5 e5 => ⟨_, rfl, (by show 2 ≤ sizeLine; decide), fun t ht => ?_⟩⟩⟩))))
    have es : bits (setOf (upOf O i)) O.length = upOf O i := bits_set _
    rw [es]
    have e6 : Ext T H2 (upd H5 t (.tup [.int ((upOf O i).length : Nat), iv i])) := ((e3.trans e4).trans e5).newer ht
    refine ⟨vs, e6.lst hv, ?_, hD, (e2.trans e6).mutL hD (e6.lst hv), ?_⟩
    · rw [Pd.len hpd]
      simp
      exact smallt (by omega)
    · rw [List.range_succ, List.map_append]
      exact prs_snoc (e6.lst hv) (Pd.imp hpd fun _ _ h => h.ext e6) ⟨t, rfl, upd_same⟩
  · try dsimp only
    refine e_ret ?_
    refine e_cb (e_cons (e_var rfl (e_nil (sort_by (T := T) (asz O) hL ?_))))
    intro L r H3 hperm hpw e3 hr hrL
    obtain ⟨us, hus, hpd⟩ := hrL
    have hLl : L.length = O.length := by have := hperm.length_eq; simpa using this
    refine ⟨r, rfl, ⟨_, SqL.of hus⟩, fun D hD => lc_list (xs := us) (fun i H' => Ext T H3 H' ∧ H' D = some (.lst (nats (L.take i)))) ⟨.new hD, upd_same⟩ (fun i H' _ ⟨e, _⟩ => SqL.of (e.lst hus)) (fun i x H4 hi ⟨e4, hD4⟩ => ?_) fun H4 ⟨e4, hD4⟩ => ?_⟩
    · obtain ⟨⟨s1, b⟩, hx, t, rfl, ht⟩ := Pd.get hpd hi
      rw [List.getElem?_map] at hx
      cases hbL : L[i]? with
      | none => rw [hbL] at hx; cases hx
      | some b' =>
      rw [hbL] at hx
      have hx : (asz O b', b') = (s1, b) := Option.some.inj hx
      have hb2 : b' = b := congrArg Prod.snd hx
      subst hb2
      refine ⟨t, _, rfl, SqT.of (e4.tup ht), rfl, _, _, rfl, _, _, rfl, rfl, rfl, ?_⟩
      refine tl_yes (T := T) _ fun H5 e5 => iteT ⟨_, rfl, _, e5.lst hD4, ?_, (e4.trans e5).mutL hD (e5.lst hD4), ?_⟩
      · rw [nats_len, List.length_take]
        exact smallt (by omega)
      · rw [upd_same, take_snoc hbL, nats, nats, List.map_append]
        rfl
    · rw [Pd.len hpd, List.length_map, List.take_length] at hD4
      exact q D H4 L ((e2.trans e3).trans e4) ((e2.trans e3).back hD) hD4 hperm hpw
abbrev s_chosen : Stmt := top 70
abbrev N_chosen : List Str := ["numbers", "most"]
theorem sc_chosen : FnScope N_chosen ["numbers", "most"] (defScope s_chosen) := ⟨rfl, rfl, rfl, by decide +kernel, rfl, by decide +kernel, by decide +kernel⟩
-- slots: 0 numbers, 1 most
def spChosen (K : PySem.W.Frag) : Sp := fun vs H Q _ => ∃ (p : Addr) (ns : List Nat) (most : Bool), vs = [.ref p, .bl most] ∧ SqL K H p (nats ns) ∧ 0 < ns.length ∧ ∀ m, IsCh most ns m → Q (iv m) H
theorem ok_chosen (B : Blt mg) (D : DefAt K mg "chosen" s_chosen) : Calls P w K mg base 1 "chosen" ["numbers", "most"] (spChosen K) := by
  refine D.ok sc_chosen (fun vs H Q E h => ?_) (fun _ _ _ _ _ _ us hl => match us, hl with | [_, _], _ => rfl) (fun f cdv A outer s H vs Q E hr h => ?_)
  · obtain ⟨p, ns, most, rfl, hS, hpos, q⟩ := h; rfl
  obtain ⟨p, ns, most, rfl, hS, hpos, q⟩ := h
  have nd := sc_chosen.nd
  have hu := hu_of hr
  refine ⟨_, (pss_cons (ps_if (pt_val (pv 1))
        (pss_one (ps_ret (pe_callB (cr_max rfl) (by rfl) B.max (by decide +kernel) (pa_cons (pv 0) pa_nil))))
        pss_nil)
      (pss_one (ps_ret (pe_callB (cr_min rfl) (by rfl) B.min (by decide +kernel) (pa_cons (pv 0) pa_nil))))), ?_⟩
  have hS' : SqL K H p ((natsI ns).map V.int) := by
    have := nats_ints ns
    unfold intsV at this
    rw [this]
    exact hS
  have fin : ∀ m : Int, m ∈ natsI ns → (∀ y, y ∈ natsI ns → if most = true then y ≤ m else m ≤ y) → Q (.int m) H := fun m hm hall => by
    obtain ⟨k, hk, rfl⟩ := List.mem_map.mp hm
    refine q k ⟨hk, fun y hy => ?_⟩
    have := hall (y : Int) (List.mem_map.mpr ⟨y, hy, rfl⟩)
    cases most with
    | true => rw [if_pos rfl] at this ⊢; omega
    | false => rw [if_neg (by decide)] at this ⊢; omega
  refine ⟨_, rfl, most, rfl, ?_⟩
  cases most with
  | true => exact iteT ⟨_, rfl, p, natsI ns, rfl, hS', by simpa using hpos, fun m hm hall => fin m hm fun y hy => by rw [if_pos rfl]; exact hall y hy⟩
  | false => exact iteF ⟨_, rfl, p, natsI ns, rfl, hS', by simpa using hpos, fun m hm hall => fin m hm fun y hy => by rw [if_neg (by decide)]; exact hall y hy⟩
end
end SW

/-! ## SwU -/
/-! ranks.py: spans. -/
namespace SW
open PySem PySem.Spec PyProof.Rows L2 Bits
/-! ### data compared -/
abbrev dI (l : List Int) : List PyData := l.map PyData.int
abbrev dS (l : List Str) : List PyData := l.map PyData.str
theorem dpAll_ints {K : PySem.W.Frag} {H : Hp} : ∀ l : List Int, DpAll K H (intsV l) (dI l)
  | [] => .nil
  | _ :: r => .cons (.int _) (dpAll_ints r)
theorem dpAll_strs {K : PySem.W.Frag} {H : Hp} : ∀ l : List Str, DpAll K H (l.map V.str) (dS l)
  | [] => .nil
  | _ :: r => .cons (.str _) (dpAll_strs r)
theorem dpAll_nats {K : PySem.W.Frag} {H : Hp} (l : List Nat) : DpAll K H (nats l) (dI (natsI l)) := by
  rw [← nats_ints]
  exact dpAll_ints _
theorem eqv_dI : ∀ l m : List Int, PyData.eqvAll (dI l) (dI m) = decide (l = m)
  | [], [] => rfl
  | [], _ :: _ => rfl
  | _ :: _, [] => rfl
  | x :: r, y :: s => by
    show (PyData.eqv (.int x) (.int y) && PyData.eqvAll (dI r) (dI s)) = _
    rw [eqv_dI r s]
    show ((x == y) && _) = _
    by_cases h : x = y <;> simp [h]
theorem eqv_dS : ∀ l m : List Str, PyData.eqvAll (dS l) (dS m) = decide (l = m)
  | [], [] => rfl
  | [], _ :: _ => rfl
  | _ :: _, [] => rfl
  | x :: r, y :: s => by
    show (PyData.eqv (.str x) (.str y) && PyData.eqvAll (dS r) (dS s)) = _
    rw [eqv_dS r s]
    show ((x == y) && _) = _
    by_cases h : x = y
    · subst h; simp
    · have : (x == y) = false := by simpa using h
      simp [h]
theorem canLay_dI : ∀ l : List Int, PyData.canLayAll0 (dI l) = true
  | [] => rfl
  | _ :: r => canLay_dI r
theorem canLay_dS : ∀ l : List Str, (∀ s ∈ l, PyData.strOk s = true) → PyData.canLayAll0 (dS l) = true
  | [], _ => rfl
  | x :: r, h => by
    show (PyData.strOk x && PyData.canLayAll0 (dS r)) = true
    rw [h x List.mem_cons_self, canLay_dS r fun s hs => h s (List.mem_cons_of_mem _ hs)]
    rfl
theorem depth_dI : ∀ l : List Int, PyData.depthAll (dI l) = 0
  | [] => rfl
  | _ :: r => by
    show max 0 (PyData.depthAll (dI r)) = 0
    rw [depth_dI r]; rfl
theorem depth_dS : ∀ l : List Str, PyData.depthAll (dS l) = 0
  | [] => rfl
  | _ :: r => by
    show max 0 (PyData.depthAll (dS r)) = 0
    rw [depth_dS r]; rfl
theorem shaped_tI (l : List Int) : SeqAt.shaped (.tuple (dI l)) = true := by simp [SeqAt.shaped, PyData.canLay0, PyData.depth, canLay_dI, depth_dI]
theorem shaped_lI (l : List Int) : SeqAt.shaped (.list (dI l)) = true := by simp [SeqAt.shaped, PyData.canLay0, PyData.depth, canLay_dI, depth_dI]
theorem shaped_lS (l : List Str) (h : ∀ s ∈ l, PyData.strOk s = true) : SeqAt.shaped (.list (dS l)) = true := by simp [SeqAt.shaped, PyData.canLay0, PyData.depth, canLay_dS l h, depth_dS]
theorem natsI_nil {l : List Nat} : decide (natsI l = []) = decide (l = []) := by cases l <;> simp [natsI]
/-! ### the order of the walk -/
theorem turn_of {f : Nat → Nat} {L : List Nat} {n i b : Nat} (hp : L.Perm (List.range n)) (hw : L.Pairwise fun a b => f a ≤ f b) (hi : L[i]? = some b) : b ∉ L.take i ∧ ∀ c, c < n → f c < f b → c ∈ L.take i := by
  obtain ⟨hil, hib⟩ := List.getElem?_eq_some_iff.mp hi
  have split : L = L.take i ++ b :: L.drop (i + 1) := by
    rw [← hib, ← List.drop_eq_getElem_cons hil, List.take_append_drop]
  have nd : L.Nodup := hp.nodup_iff.mpr List.nodup_range
  have up := hw
  rw [split] at nd up
  refine ⟨fun hm => ?_, fun c hc hl => ?_⟩
  · exact (List.nodup_append.mp nd).2.2 b hm b List.mem_cons_self rfl
  · have hc : c ∈ L := hp.mem_iff.mpr (List.mem_range.mpr hc)
    rw [split] at hc
    rcases List.mem_append.mp hc with q | q
    · exact q
    · rcases List.mem_cons.mp q with q | q
      · subst q; omega
      · have h1 := (List.pairwise_cons.mp (List.pairwise_append.mp up).2.1).1 c q
        omega
theorem eqF_congr {O : List Nat} {most : Bool} {F G : Nat → Nat} {a : Nat} (h0 : F a = G a) (h : ∀ b ∈ nextsOf O a, F b = G b) (e : EqF O most F a) : EqF O most G a := by
  refine ⟨fun z => by rw [← h0]; exact e.1 z, fun z => ?_⟩
  have hm : (nextsOf O a).map F = (nextsOf O a).map G := List.map_congr_left h
  obtain ⟨m, h1, h2⟩ := e.2 z
  exact ⟨m, by rw [← hm]; exact h1, by rw [← h0]; exact h2⟩
section
variable {P : Program} {w : World} {K : PySem.W.Frag} {mg : Str → Option Value} {base : Heap} {T : Tbs}
theorem rep_nats1 (n : Nat) : (List.replicate ((n : Int)).toNat [V.int 1]).flatten = nats (List.replicate n 1) := by
  rw [toNat_nat, List.flatten_replicate_singleton]
  unfold nats
  rw [List.map_replicate]
  rfl
abbrev s_spans : Stmt := top 71
abbrev N_spans : List Str := ["order", "most", "following", "found", "a", "b"]
theorem sc_spans : FnScope N_spans ["order", "most"] (defScope s_spans) := ⟨rfl, rfl, rfl, by decide +kernel, rfl, by decide +kernel, by decide +kernel⟩
-- slots: 0 order, 1 most, 2 following, 3 found, 4 a, 5 b
def spSpans (T : Tbs) (K : PySem.W.Frag) : Sp := fun vs H Q _ => ∃ (p : Addr) (O : List Nat) (most : Bool), vs = [.ref p, .bl most] ∧ OrdAt K H p O ∧ IsOrd O ∧
  ∀ q H' Fs, Ext T H H' → H q = none → H' q = some (.lst (nats Fs)) → Fs.length = O.length → (∀ a, a < O.length → EqF O most (fun b => Fs.getD b 0) a) → Q (.ref q) H'
theorem ok_spans (B : Blt mg) (D : DefAt K mg "spans" s_spans) (g_next_above : Calls P w K mg base 4 "next_above" ["order"] (spNextAbove T K)) (g_walked_down : Calls P w K mg base 3 "walked_down" ["order"] (spWalked T K)) (g_chosen : Calls P w K mg base 1 "chosen" ["numbers", "most"] (spChosen K)) :
    Calls P w K mg base 5 "spans" ["order", "most"] (spSpans T K) := by
  refine D.ok sc_spans (fun vs H Q E h => ?_) (fun _ _ _ _ _ _ us hl => match us, hl with | [_, _], _ => rfl) (fun f cdv A outer s H vs Q E hr h => ?_)
  · obtain ⟨p, O, most, rfl, hO, hI, q⟩ := h; rfl
  obtain ⟨p, O, most, rfl, hO, hI, q⟩ := h
  have nd := sc_spans.nd
  have hu := hu_of hr
  refine ⟨_, (pss_cons (ps_set (i := 2) nd rfl (Or.inl rfl) (pe_callD g_next_above (hr.mono (by decide)) rfl (pa_cons (pv 0) pa_nil)))
      (pss_cons (ps_set (i := 3) nd rfl (Or.inr rfl) (pe_op op_rep (pe_lst (pa_cons pe_int pa_nil)) (pe_callB (r := rLenK K) call_lenK (by rfl) B.len PySem.boot_len (pa_cons (pv 0) pa_nil))))
      (pss_cons (ps_for PassesOwn.never rfl (pi_list (pe_callD g_walked_down (hr.mono (by decide)) rfl (pa_cons (pv 0) pa_nil))) (pg_name (i := 4) nd rfl (Or.inl rfl))
        (pss_one (ps_if (pt_cmpR (op_neD hr.units) (pe_ix (r := rIxL K) ix_list (pv 2) (pv 4) (fun _ _ => rfl)) (pe_lst pa_nil) (nomark _))
          (pss_one (ps_asg (pe_op op_add pe_int (pe_callD g_chosen (hr.mono (by decide)) rfl (pa_cons (pe_lc (own := [("b", 5)]) (g := gName 5) rfl nd (pi_list (pe_ix (r := rIxL K) ix_list (pv 2) (pv 4) (fun _ _ => rfl))) (blkOk_by (own := [("b", 5)]) (N := N_spans) (sc := defScope s_spans) (by decide +kernel)) (fun _ _ _ _ _ => pg_name (i := 5) nd rfl (Or.inl rfl)) (fun _ _ _ _ _ => pts_nil) (fun _ _ _ _ _ => (pe_ix (r := rIxL K) ix_list (pv 3) (pv 5) (fun _ _ => rfl)))) (pa_cons (pv 1) pa_nil)))) (pg_sub (pv 3) (pv 4) set_list)))
          pss_nil)))
      (pss_one (ps_ret (pv 3)))))), ?_⟩
  have hlen := hO.len
  refine e_seq (e_set (e_call ⟨_, rfl, p, O, rfl, hO, hI.rf, fun fo H1 ls e1 R hls => ?_⟩))
  have hll := rows_len hls
  try dsimp only
  refine e_seq (e_set (e_op ?_))
  refine ⟨by decide, fun l0 hl0 => ?_⟩
  have e2 : Ext T H1 (upd H1 l0 (.lst [V.int 1])) := .new hl0
  have hO2 := hO.ext (e1.trans e2)
  refine vv_lenO (K := K) rfl hO2 _ ⟨l0, _, _, rfl, rfl, upd_same, by omega, by omega, ?_, fun l hl => ?_⟩
  · show 1 * ((O.length : Int)).toNat ≤ sizeLine
    rw [toNat_nat]
    exact small (by omega)
  rw [rep_nats1]
  have e3 := e2.newer (o := .lst (nats (List.replicate O.length 1))) hl
  have hl1 : H1 l = none := e2.back hl
  have hF0 : upd (upd H1 l0 (HO.lst [V.int 1])) l (HO.lst (nats (List.replicate O.length 1))) l = some (.lst (nats (List.replicate O.length 1))) := upd_same
  generalize upd (upd H1 l0 (HO.lst [V.int 1])) l (HO.lst (nats (List.replicate O.length 1))) = H2 at e3 hF0 ⊢
  try dsimp only
  refine e_seq (e_for (e_iL (e_call ⟨_, rfl, p, O, rfl, hO.ext (e1.trans e3), fun r H3 L e4 hr hL hperm hpw => ?_⟩)))
  have nrl : r ≠ l := fun z => by rw [z, hF0] at hr; cases hr
  refine ⟨r, rfl, ⟨_, SqL.of hL⟩, for_list (xs := nats L) (fun i σ H' => ∃ x y Fs, σ = [some (.ref p), some (.bl most), some (.ref fo), some (.ref l), x, y] ∧ Ext T H1 H' ∧ H' r = some (.lst (nats L)) ∧ H' l = some (.lst (nats Fs)) ∧ Fs.length = O.length ∧
      (∀ a ∈ L.take i, EqF O most (fun b => Fs.getD b 0) a ∧ ∀ b, cov O a b = true → b ∈ L.take i) ∧ ∀ a, a < O.length → a ∉ L.take i → Fs.getD a 0 = 1)
    ⟨none, none, List.replicate O.length 1, rfl, e3.trans e4, hL, e4.lst hF0, List.length_replicate, fun a ha => by simp at ha, fun a ha _ => ?_⟩ (fun i σ H' _ ⟨_, _, _, _, _, h, _⟩ => SqL.of h) ?_ ?_⟩
  · rw [List.getD_eq_getElem?_getD, List.getElem?_replicate, if_pos ha]; rfl
  · rintro i v σ H4 hi ⟨x, y, Fs, rfl, e5, hr5, hl5, hFl, hdone, hopen⟩
    obtain ⟨a, haL, rfl⟩ := nats_get hi
    have ha : a < O.length := List.mem_range.mp (hperm.mem_iff.mp (List.mem_of_getElem? haL))
    obtain ⟨t1, t2⟩ := turn_of hperm hpw haL
    have hcovs : ∀ b, cov O a b = true → b ∈ L.take i := fun b hb => t2 b (le_bd hI (cov_le hb).2).2 (asz_lt hI hb)
    have htake : L.take (i + 1) = L.take i ++ [a] := take_snoc haL
    obtain ⟨x2, hx2, hx2e⟩ := rows_get hls ha
    have R5 := R.ext e5
    have hrow : SqL K H4 x2.1 (nats (nextsOf O a)) := by
      rw [← nats_ints, ← hx2e]
      exact SqL.of (R5.its x2 (List.mem_of_getElem? hx2))
    refine e_if (e_test (e_op (vv_ixL (vv_var rfl) (vv_var rfl) (SqL.of R5.at_) (refs_get hx2) _ (e_lst (e_nil ⟨Nat.zero_le _, fun d hd => ?_⟩)))))
    have e6 : Ext T H4 (upd H4 d (.lst [])) := .new hd
    have hrow6 := e6.sl hrow
    refine ⟨_, _, .lst hrow6 (dpAll_nats _), .lst (SqL.of upd_same) .nil, shaped_lI _, by decide, _, rfl, ?_⟩
    have heq : PyData.eqv (.list (dI (natsI (nextsOf O a)))) (.list []) = decide (nextsOf O a = []) := by
      show PyData.eqvAll _ (dI []) = _
      rw [eqv_dI, natsI_nil]
    rw [heq]
    have hH1l : H1 l = none := hl1
    refine ite2 (fun hc => ?_) (fun hc => ?_)
    · have hne : nextsOf O a ≠ [] := by simpa using hc
      refine e_asg (e_op (vv_c _ (e_call (e_cons ?_))))
      refine lc_ls (T := T) (K := K) (nextsOf O a) iv (fun _ => true) (fun b => iv (Fs.getD b 0)) ?_ (fun R' r' => vv_ixL (vv_var rfl) (vv_var rfl) (SqL.of (R5.ext e6).at_) (refs_get hx2) _ (r' _ _ .refl hrow6)) (fun _ => rfl) (fun _ _ _ _ _ => tl_yes) ?_ ?_
      · have := List.length_filter_le (cov O a) (List.range O.length)
        rw [List.length_range] at this
        show ((List.range O.length).filter (cov O a)).length ≤ 40000
        omega
      · intro j b H5 hj _ e7
        have hb := (mem_nextsOf hI).mp (List.mem_of_getElem? hj)
        have hbn := (le_bd hI (cov_le hb).2).2
        exact (vv_is (vv_ixL (vv_var rfl) (vv_var rfl) (SqL.of (e7.lst (e6.lst hl5))) (show (nats Fs)[b]? = some (iv (Fs.getD b 0)) by
          rw [← nats_ints, at_ints (by rw [List.length_map, hFl]; exact hbn)]
          congr 2
          unfold natsI
          rw [List.getD_eq_getElem?_getD, List.getD_eq_getElem?_getD, List.getElem?_map, List.getElem?_eq_getElem (by rw [hFl]; exact hbn)]
          rfl)) rfl).l
      · intro p2 H5 e7 hp2 hL5
        rw [filter_yes] at hL5
        have e67 := e6.trans e7
        refine ⟨_, rfl, p2, (nextsOf O a).map (fun b => Fs.getD b 0), most, rfl, SqL.of (by rw [nats, List.map_map]; exact hL5), ?_, fun m hm => ⟨_, _, rfl, rfl, ?_⟩⟩
        · rw [List.length_map]
          exact List.length_pos_iff.mpr hne
        have em : (1 : Int) + (m : Int) = ((1 + m : Nat) : Int) := by omega
        show gSub _ _ _ (V.int ((1 : Int) + (m : Int))) _ _ _
        rw [em]
        refine g_setL (e67.lst hl5) (vv_var rfl) (vv_var rfl) (by rw [nats_len, hFl]; exact ha) ?_
        rw [nats_set]
        have hget : ∀ b, (Fs.set a (1 + m)).getD b 0 = if b = a then 1 + m else Fs.getD b 0 := fun b => getD_set _ _ _ _ (by rw [hFl]; exact ha)
        have old : ∀ b, b ∈ L.take i → (Fs.set a (1 + m)).getD b 0 = Fs.getD b 0 := fun b hb => by
          have ne : b ≠ a := fun e => t1 (by rw [← e]; exact hb)
          rw [hget, if_neg ne]
        refine ⟨_, _, Fs.set a (1 + m), rfl, (e5.trans e67).mutL hH1l (e67.lst hl5), ?_, upd_same, by rw [List.length_set]; exact hFl, ?_, ?_⟩
        · rw [upd_ne nrl]
          exact e67.lst hr5
        · rw [htake]
          intro a' ha'
          rcases List.mem_append.mp ha' with k | k
          · obtain ⟨h1, h2⟩ := hdone a' k
            refine ⟨eqF_congr (old a' k).symm (fun b hb => (old b (h2 b ((mem_nextsOf hI).mp hb))).symm) h1, fun b hb => List.mem_append_left _ (h2 b hb)⟩
          · rw [List.mem_singleton.mp k]
            refine ⟨⟨fun z => absurd z hne, fun _ => ⟨m, ?_, ?_⟩⟩, fun b hb => List.mem_append_left _ (hcovs b hb)⟩
            · have : (nextsOf O a).map (fun b => (Fs.set a (1 + m)).getD b 0) = (nextsOf O a).map (fun b => Fs.getD b 0) := List.map_congr_left fun b hb => old b (hcovs b ((mem_nextsOf hI).mp hb))
              rw [this]
              exact hm
            · show (Fs.set a (1 + m)).getD a 0 = 1 + m
              rw [hget, if_pos rfl]
        · intro b hb hnb
          rw [htake, List.mem_append, not_or] at hnb
          have ne : b ≠ a := fun e => hnb.2 (by rw [e]; exact List.mem_singleton.mpr rfl)
          rw [hget, if_neg ne]
          exact hopen b hb hnb.1
    · have hnil : nextsOf O a = [] := by simpa using hc
      refine ⟨_, _, Fs, rfl, e5.trans e6, e6.lst hr5, e6.lst hl5, hFl, ?_, ?_⟩
      · rw [htake]
        intro a' ha'
        rcases List.mem_append.mp ha' with k | k
        · obtain ⟨h1, h2⟩ := hdone a' k
          exact ⟨h1, fun b hb => List.mem_append_left _ (h2 b hb)⟩
        · rw [List.mem_singleton.mp k]
          exact ⟨⟨fun _ => hopen a ha t1, fun z => absurd hnil z⟩, fun b hb => List.mem_append_left _ (hcovs b hb)⟩
      · intro b hb hnb
        rw [htake, List.mem_append, not_or] at hnb
        exact hopen b hb hnb.1
  · rintro σ H4 ⟨x, y, Fs, rfl, e5, hr5, hl5, hFl, hdone, hopen⟩
    rw [nats_len, List.take_length] at hdone
    refine ⟨_, rfl, q l H4 Fs (e1.trans e5) (e1.back hl1) hl5 hFl fun a ha => (hdone a (hperm.mem_iff.mpr (List.mem_range.mpr ha))).1⟩
end
end SW

/-! ## SwV -/
/-! ranks.py: least_spanned, full chains, ranks_bar. -/
namespace SW
open PySem PySem.Spec PyProof.Rows L2 Bits
def SpanLen (O : List Nat) (most : Bool) (x : Nat) : Prop := (O = [] ∧ x = 0) ∨ (0 < O.length ∧ ∃ F : Nat → Nat, (∀ a, a < O.length → EqF O most F a) ∧ IsCh most ((leasts O).map F) x)
theorem span_ranked {O : List Nat} (h : IsOrd O) {x y : Nat} (hx : SpanLen O false x) (hy : SpanLen O true y) : decide (x = y) = ranked O := by
  rcases hx with ⟨rfl, rfl⟩ | ⟨hp, F, hF, hx⟩
  · rcases hy with ⟨_, rfl⟩ | ⟨hp, _⟩
    · rw [ranked_nil]; rfl
    · exact absurd hp (by decide)
  · rcases hy with ⟨rfl, _⟩ | ⟨_, G, hG, hy⟩
    · exact absurd hp (by decide)
    · refine ranked_spans h hF hG (S := leasts O) (fun a => ?_) hx hy
      unfold leasts
      rw [List.mem_filter, List.mem_range, decide_eq_true_iff]
      exact ⟨fun z => ⟨z.1, (least_mask h z.1).mp z.2⟩, fun z => ⟨z.1, (least_mask h z.1).mpr z.2⟩⟩
theorem nats_getD {l : List Nat} {b : Nat} (h : b < l.length) : (nats l)[b]? = some (iv (l.getD b 0)) := by
  rw [List.getElem?_map, List.getElem?_eq_getElem h, List.getD_eq_getElem?_getD, List.getElem?_eq_getElem h]
  rfl
theorem eqF_pos {O : List Nat} {most : Bool} {F : Nat → Nat} {a : Nat} (e : EqF O most F a) : 0 < F a := by
  by_cases h : nextsOf O a = []
  · rw [e.1 h]; decide
  · obtain ⟨m, _, h2⟩ := e.2 h
    omega
section
variable {P : Program} {w : World} {K : PySem.W.Frag} {mg : Str → Option Value} {base : Heap} {T : Tbs}
abbrev s_least_spanned : Stmt := top 72
abbrev N_least_spanned : List Str := ["order", "most", "found", "following", "starts", "a", "left", "chain"]
theorem sc_least_spanned : FnScope N_least_spanned ["order", "most"] (defScope s_least_spanned) := ⟨rfl, rfl, rfl, by decide +kernel, rfl, by decide +kernel, by decide +kernel⟩
-- slots: 0 order, 1 most, 2 found, 3 following, 4 starts, 5 a, 6 left, 7 chain
def spLeastSp (T : Tbs) (K : PySem.W.Frag) : Sp := fun vs H Q _ => ∃ (p : Addr) (O : List Nat) (most : Bool), vs = [.ref p, .bl most] ∧ OrdAt K H p O ∧ IsOrd O ∧
  ∀ q H' C, Ext T H H' → H q = none → H' q = some (.tup (nats C)) → SpanLen O most C.length → Q (.ref q) H'
theorem ok_least_spanned (B : Blt mg) (D : DefAt K mg "least_spanned" s_least_spanned) (g_spans : Calls P w K mg base 5 "spans" ["order", "most"] (spSpans T K)) (g_next_above : Calls P w K mg base 4 "next_above" ["order"] (spNextAbove T K)) (g_things_in : Calls P w K mg base 1 "things_in" ["mask"] (spThings T))
    (g_least_things : Calls P w K mg base 2 "least_things" ["order"] (spLeast T K)) (g_chosen : Calls P w K mg base 1 "chosen" ["numbers", "most"] (spChosen K)) : Calls P w K mg base 6 "least_spanned" ["order", "most"] (spLeastSp T K) := by
  refine D.ok sc_least_spanned (fun vs H Q E h => ?_) (fun _ _ _ _ _ _ us hl => match us, hl with | [_, _], _ => rfl) (fun f cdv A outer s H vs Q E hr h => ?_)
  · obtain ⟨p, O, most, rfl, hO, hI, q⟩ := h; rfl
  obtain ⟨p, O, most, rfl, hO, hI, q⟩ := h
  have nd := sc_least_spanned.nd
  have hu := hu_of hr
  refine ⟨_, (pss_cons (ps_if (pt_cmpR (op_eqD hr.units) (pv 0) (pe_tup pa_nil) (nomark _))
        (pss_one (ps_ret (pe_tup pa_nil)))
        pss_nil)
      (pss_cons (ps_set (i := 2) nd rfl (Or.inr rfl) (pe_callD g_spans (hr.mono (by decide)) rfl (pa_cons (pv 0) (pa_cons (pv 1) pa_nil))))
      (pss_cons (ps_set (i := 3) nd rfl (Or.inl rfl) (pe_callD g_next_above (hr.mono (by decide)) rfl (pa_cons (pv 0) pa_nil)))
      (pss_cons (ps_set (i := 4) nd rfl (Or.inl rfl) (pe_callD g_things_in (hr.mono (by decide)) rfl (pa_cons (pe_callD g_least_things (hr.mono (by decide)) rfl (pa_cons (pv 0) pa_nil)) pa_nil)))
      (pss_cons (ps_set (i := 6) nd rfl (Or.inr rfl) (pe_callD g_chosen (hr.mono (by decide)) rfl (pa_cons (pe_lc (own := [("a", 5)]) (g := gName 5) rfl nd (pi_list (pv 4)) (blkOk_by (own := [("a", 5)]) (N := N_least_spanned) (sc := defScope s_least_spanned) (by decide +kernel)) (fun _ _ _ _ _ => pg_name (i := 5) nd rfl (Or.inl rfl)) (fun _ _ _ _ _ => pts_nil) (fun _ _ _ _ _ => (pe_ix (r := rIxL K) ix_list (pv 2) (pv 5) (fun _ _ => rfl)))) (pa_cons (pv 1) pa_nil))))
      (pss_cons (ps_set (i := 7) nd rfl (Or.inl rfl) (pe_lst pa_nil))
      (pss_cons (ps_while PassesOwn.never (pt_cmpR op_gt (pv 6) pe_int (nomark _))
        (pss_cons (ps_expr (pe_bm PySem.F.plainAttrs_list PySem.F.slot_list_append PySem.F.type_list_append mt_append (pv 7) (pa_cons (pe_ix (r := rIxL K) ix_list (pe_lc (own := [("a", 5)]) (g := gName 5) rfl nd (pi_list (pv 4)) (blkOk_by (own := [("a", 5)]) (N := N_least_spanned) (sc := defScope s_least_spanned) (by decide +kernel)) (fun _ _ _ _ _ => pg_name (i := 5) nd rfl (Or.inl rfl)) (fun _ _ _ _ _ => pts_one (pt_cmpR op_eq (pe_ix (r := rIxL K) ix_list (pv 2) (pv 5) (fun _ _ => rfl)) (pv 6) (nomark _))) (fun _ _ _ _ _ => (pv 5))) pe_int (fun _ _ => rfl)) pa_nil)))
        (pss_cons (ps_set (i := 4) nd rfl (Or.inl rfl) (pe_ix (r := rIxL K) ix_list (pv 3) (pe_ix (r := rIxL K) ix_list (pv 7) (pe_op op_sub (pe_callB (r := rLenK K) call_lenK (by rfl) B.len PySem.boot_len (pa_cons (pv 7) pa_nil)) pe_int) (fun _ _ => rfl)) (fun _ _ => rfl)))
        (pss_one (ps_set (i := 6) nd rfl (Or.inr rfl) (pe_op op_sub (pv 6) pe_int))))))
      (pss_one (ps_ret (pe_callTy call_tuple_of (by rfl) B.tuple (by decide +kernel) (pa_cons (pv 7) pa_nil))))))))))), ?_⟩
  have hlen := hO.len
  refine e_seq (e_if (e_test (e_op (vv_var rfl _ (e_tup (e_nil ⟨Nat.zero_le _, fun d hd => ?_⟩))))))
  have e0 : Ext T H (upd H d (.tup [])) := .new hd
  refine ⟨_, _, .tup (e0.st hO.tup) (dpAll_nats _), .tup (SqT.of upd_same) .nil, shaped_tI _, by decide, _, rfl, ?_⟩
  have heq : PyData.eqv (.tuple (dI (natsI O))) (.tuple []) = decide (O = []) := by
    show PyData.eqvAll _ (dI []) = _
    rw [eqv_dI, natsI_nil]
  rw [heq]
  refine ite2 (fun hc => ?_) (fun hc => ?_)
  · have hnil : O = [] := of_decide_eq_true hc
    refine ⟨Nat.zero_le _, fun t ht => q t _ [] (e0.newer ht) (e0.back ht) upd_same (.inl ⟨hnil, rfl⟩)⟩
  have hne : 0 < O.length := by
    rcases Nat.eq_zero_or_pos O.length with z | z
    · exact absurd (decide_eq_true (List.eq_nil_of_length_eq_zero z)) hc
    · exact z
  try unfold tNext
  try dsimp only
  refine e_seq (e_set (e_call ⟨_, rfl, _, rfl, p, O, most, rfl, hO.ext e0, hI, fun fd H1 Fs e1 _ hF hFl hEq => ?_⟩))
  have e01 := e0.trans e1
  try dsimp only
  refine e_seq (e_set (e_call ⟨_, rfl, p, O, rfl, hO.ext e01, hI.rf, fun fo H2 ls e2 R hls => ?_⟩))
  have e02 := e01.trans e2
  try dsimp only
  refine e_seq (e_set (e_call (e_cons (e_call ⟨_, rfl, p, O, rfl, hO.ext e02, fun H3 e3 => ⟨_, O.length, rfl, setOf_lt fun j hj => List.mem_range.mp (List.mem_filter.mp hj).1, by omega, fun st H4 e4 _ hst => ?_⟩⟩))))
  have es : bits (setOf (leasts O)) O.length = leasts O := bits_set _
  rw [es] at hst
  have e24 := e3.trans e4
  have e04 := e02.trans e24
  have hF4 := e24.lst (e2.lst hF)
  have R4 := R.ext e24
  have hget : ∀ {H' : Hp} {σ : L2.St} {i j b : Nat}, Ext T H4 H' → σ[i]? = some (some (.ref fd)) → σ[j]? = some (some (iv b)) → b < O.length → Vv (tOp (rIxL K) (tVar i) (tVar j)) σ H' (iv (Fs.getD b 0)) := fun e h1 h2 hb =>
    vv_ixL (vv_var h1) (vv_var h2) (SqL.of (e.lst hF4)) (nats_getD (by rw [hFl]; exact hb))
  have hlb : ∀ a, a ∈ leasts O → a < O.length := fun a ha => List.mem_range.mp (List.mem_filter.mp ha).1
  have hll : (leasts O).length ≤ 16 := by
    have := List.length_filter_le (fun b => decide (O.getD b 0 = 2 ^ b)) (List.range O.length)
    rw [List.length_range] at this
    unfold leasts
    omega
  try dsimp only
  refine e_seq (e_set (e_call (e_cons ?_)))
  refine lc_ls (T := T) (K := K) (leasts O) iv (fun _ => true) (fun b => iv (Fs.getD b 0)) (by omega) (fun R' r' => ⟨_, rfl, r' _ _ .refl (SqL.of hst)⟩) (fun _ => rfl) (fun _ _ _ _ _ => tl_yes) (fun j b H5 hj _ e5 => (hget e5 rfl rfl (hlb b (List.mem_of_getElem? hj))).l) ?_
  intro p2 H5 e5 _ hL5
  rw [filter_yes] at hL5
  obtain ⟨b0, hb0, hs0⟩ := least_ex hI _ 0 (Nat.le_refl _) hne
  have hmem0 : b0 ∈ leasts O := List.mem_filter.mpr ⟨List.mem_range.mpr hb0, decide_eq_true ((least_mask hI hb0).mpr hs0)⟩
  refine ⟨_, rfl, p2, (leasts O).map (fun b => Fs.getD b 0), most, rfl, SqL.of (by rw [nats, List.map_map]; exact hL5), by rw [List.length_map]; exact List.length_pos_of_mem hmem0, fun m hm => ?_⟩
  obtain ⟨c0, hc0, hc0e⟩ := List.mem_map.mp hm.1
  try dsimp only
  refine e_seq (s_newL fun ch hch => ?_)
  have hF5 := e5.lst hF4
  have R5 := R4.ext e5
  have hst5 := e5.lst hst
  have e05 := e04.trans e5
  try dsimp only
  refine e_seq ⟨fun mm σ H' => ∃ (x : Option V) (s : Addr) (S : List Nat) (left : Nat) (Cs : List Nat), mm = left ∧ σ = [some (.ref p), some (.bl most), some (.ref fd), some (.ref fo), some (.ref s), x, some (iv left), some (.ref ch)] ∧ Ext T H5 H' ∧ SqL K H5 s (nats S) ∧ S.length ≤ 40000 ∧ (∀ a ∈ S, a < O.length) ∧ H' ch = some (.lst (nats Cs)) ∧ Cs.length + left = m ∧ (0 < left → ∃ a ∈ S, Fs.getD a 0 = left),
    ⟨m, none, st, leasts O, m, [], rfl, rfl, .new hch, SqL.of hst5, by omega, hlb, upd_same, by simp, fun _ => ⟨c0, hc0, hc0e⟩⟩, ?_⟩
  rintro mm σ H6 ⟨x, s, S, left, Cs, rfl, rfl, e6, hS, hSl, hSb, hch6, hsum, hin⟩
  have hmle : m ≤ 1000 := by
    obtain ⟨c, hc, hce⟩ := List.mem_map.mp hm.1
    have hcn := hlb c hc
    have hb : ∀ N a, asz O a ≤ N → a < O.length → Fs.getD a 0 ≤ N + 1 := by
      intro N
      induction N with
      | zero =>
        intro a ha han
        have hnil : nextsOf O a = [] := by
          cases z : nextsOf O a with
          | nil => rfl
          | cons b r =>
            have := asz_lt hI ((mem_nextsOf hI).mp (show b ∈ nextsOf O a by rw [z]; exact List.mem_cons_self))
            omega
        have : Fs.getD a 0 = 1 := (hEq a han).1 hnil
        omega
      | succ N ih =>
        intro a ha han
        by_cases z : nextsOf O a = []
        · have : Fs.getD a 0 = 1 := (hEq a han).1 z
          omega
        · obtain ⟨m', ⟨hm', _⟩, he⟩ := (hEq a han).2 z
          obtain ⟨b, hb, hbe⟩ := List.mem_map.mp hm'
          have hcb := (mem_nextsOf hI).mp hb
          have hla := asz_lt hI hcb
          dsimp only at he hbe
          have := ih b (by omega) (le_bd hI (cov_le hcb).2).2
          omega
    have h1 := hb (asz O c) c (Nat.le_refl _) hcn
    have h2 : asz O c ≤ O.length := by
      unfold asz upsOf
      have := List.length_filter_le (fun b => decide (b ≠ c) && le O c b) (List.range O.length)
      rw [List.length_range] at this
      exact this
    omega
  refine ⟨_, rfl, _, _, rfl, rfl, _, rfl, ?_⟩
  refine ite2 (fun hc => ?_) (fun hc => ?_)
  · have hpos : 0 < mm := by have := of_decide_eq_true hc; omega
    obtain ⟨a1, ha1, ha1e⟩ := hin hpos
    refine ⟨fun σ' H' => ∃ m', m' < mm ∧ ∃ (x : Option V) (s : Addr) (S : List Nat) (left : Nat) (Cs : List Nat), m' = left ∧ σ' = [some (.ref p), some (.bl most), some (.ref fd), some (.ref fo), some (.ref s), x, some (iv left), some (.ref ch)] ∧ Ext T H5 H' ∧ SqL K H5 s (nats S) ∧ S.length ≤ 40000 ∧ (∀ a ∈ S, a < O.length) ∧ H' ch = some (.lst (nats Cs)) ∧ Cs.length + left = m ∧ (0 < left → ∃ a ∈ S, Fs.getD a 0 = left),
      fun _ _ h => h, ?_⟩
    -- the first of the starts that has what is left
    obtain ⟨c, r, hfil⟩ : ∃ c r, S.filter (fun a => decide (Fs.getD a 0 = mm)) = c :: r := by
      cases z : S.filter (fun a => decide (Fs.getD a 0 = mm)) with
      | nil => exact absurd (decide_eq_true ha1e) (List.filter_eq_nil_iff.mp z a1 ha1)
      | cons c r => exact ⟨c, r, rfl⟩
    have hcm : c ∈ S.filter (fun a => decide (Fs.getD a 0 = mm)) := by rw [hfil]; exact List.mem_cons_self
    have hcS := (List.mem_filter.mp hcm).1
    have hce : Fs.getD c 0 = mm := of_decide_eq_true (List.mem_filter.mp hcm).2
    have hcn := hSb c hcS
    refine e_seq (e_drop (e_bm (vv_var rfl) hch6 (e_cons (e_op ?_))))
    refine lc_ls (T := T) (K := K) S iv (fun a => decide (Fs.getD a 0 = mm)) iv hSl (fun R' r' => ⟨_, rfl, r' _ _ .refl (e6.sl hS)⟩) (fun _ => rfl) ?_ (fun _ _ _ _ _ _ => (vv_var rfl).l) ?_
    · intro j b H7 hj e7
      exact (tt_eq (hget ((e5.trans e6).trans e7) rfl rfl (hSb b (List.mem_of_getElem? hj))) (vv_var rfl)).l
    intro p3 H7 e7 _ hL7
    rw [hfil] at hL7
    refine ⟨p3, _, _, iv c, rfl, rfl, SqL.of hL7, atI_nat (j := 0) rfl, ch, _, _, rfl, rfl, e7.lst hch6, ?_, ?_⟩
    · rw [nats_len]
      exact smallt (by omega)
    have hchH5 : H5 ch = none := hch
    have e8 := (e6.trans e7).mutL (o := .lst (nats Cs ++ [iv c])) hchH5 (e7.lst hch6)
    have hch8 : upd H7 ch (.lst (nats Cs ++ [iv c])) ch = some (.lst (nats (Cs ++ [c]))) := by
      rw [upd_same, nats, nats, List.map_append]; rfl
    generalize upd H7 ch (.lst (nats Cs ++ [iv c])) = H8 at e8 hch8
    obtain ⟨x2, hx2, hx2e⟩ := rows_get hls hcn
    have R8 := R5.ext e8
    have hlast : (nats (Cs ++ [c]))[Cs.length]? = some (iv c) := by
      rw [List.getElem?_map, List.getElem?_append_right (Nat.le_refl _), Nat.sub_self]; rfl
    have hix : ∀ {σ : L2.St}, σ[7]? = some (some (.ref ch)) → Vv (tOp (rI0 fun i j => V.int (i - j)) (tCB (rLenK K) (tCons (tVar 7) tNil)) (tC (.int 1))) σ H8 (iv Cs.length) := fun h => vv_is (vv_I0 (i := ((nats (Cs ++ [c])).length : Nat)) (vv_lenL h (SqL.of hch8)) vv_c) (by
      rw [nats_len, List.length_append]
      show V.int (((Cs.length + 1 : Nat) : Int) - 1) = _
      congr 1
      omega)
    try dsimp only
    refine e_seq (e_set (vv_ixL (vv_var rfl) (vv_ixL (vv_var rfl) (hix rfl) (SqL.of hch8) hlast) (SqL.of R8.at_) (refs_get hx2) _ ?_))
    try dsimp only
    refine e_set (vv_I0 (vv_var rfl) vv_c _ ?_)
    refine ⟨mm - 1, by omega, x, x2.1, nextsOf O c, mm - 1, Cs ++ [c], rfl, ?_, e8, ?_, ?_, fun a ha => (le_bd hI (cov_le ((mem_nextsOf hI).mp ha)).2).2, hch8, by rw [List.length_append, List.length_singleton]; omega, fun hp => ?_⟩
    · have : ((mm : Int) - 1) = ((mm - 1 : Nat) : Int) := by omega
      show [_, _, _, _, _, _, some (V.int ((mm : Int) - 1)), _] = _
      rw [this]
    · rw [← nats_ints, ← hx2e]
      exact SqL.of (R5.its x2 (List.mem_of_getElem? hx2))
    · have := List.length_filter_le (cov O c) (List.range O.length)
      rw [List.length_range] at this
      show ((List.range O.length).filter (cov O c)).length ≤ 40000
      omega
    · by_cases z : nextsOf O c = []
      · have : Fs.getD c 0 = 1 := (hEq c hcn).1 z
        omega
      · obtain ⟨m', ⟨hm', _⟩, he⟩ := (hEq c hcn).2 z
        obtain ⟨b, hb, hbe⟩ := List.mem_map.mp hm'
        refine ⟨b, hb, ?_⟩
        dsimp only at he hbe
        omega
  · have hz : mm = 0 := by
      rcases Nat.eq_zero_or_pos mm with z | z
      · exact z
      · exact absurd (decide_eq_true (show (0 : Int) < (mm : Int) by omega)) hc
    refine ⟨_, rfl, ch, _, rfl, .inl ⟨SqL.of hch6, fun t ht => q t _ Cs ((e05.trans e6).newer ht) ((e05.trans e6).back ht) upd_same (.inr ⟨hne, _, hEq, ?_⟩)⟩⟩
    have : Cs.length = m := by omega
    rw [this]
    exact hm
abbrev s_full_chain_least : Stmt := top 73
abbrev N_full_chain_least : List Str := ["order"]
theorem sc_full_chain_least : FnScope N_full_chain_least ["order"] (defScope s_full_chain_least) := ⟨rfl, rfl, rfl, by decide +kernel, rfl, by decide +kernel, by decide +kernel⟩
-- slots: 0 order
abbrev s_full_chain_most : Stmt := top 74
abbrev N_full_chain_most : List Str := ["order"]
theorem sc_full_chain_most : FnScope N_full_chain_most ["order"] (defScope s_full_chain_most) := ⟨rfl, rfl, rfl, by decide +kernel, rfl, by decide +kernel, by decide +kernel⟩
-- slots: 0 order
def spFull (T : Tbs) (K : PySem.W.Frag) (most : Bool) : Sp := fun vs H Q _ => ∃ (p : Addr) (O : List Nat), vs = [.ref p] ∧ OrdAt K H p O ∧ IsOrd O ∧
  ∀ q H' C, Ext T H H' → H q = none → H' q = some (.tup (nats C)) → SpanLen O most C.length → Q (.ref q) H'
theorem ok_full_chain_least (B : Blt mg) (D : DefAt K mg "full_chain_least" s_full_chain_least) (g_least_spanned : Calls P w K mg base 6 "least_spanned" ["order", "most"] (spLeastSp T K)) : Calls P w K mg base 7 "full_chain_least" ["order"] (spFull T K false) := by
  refine D.ok sc_full_chain_least (fun vs H Q E h => ?_) (fun _ _ _ _ _ _ us hl => match us, hl with | [_], _ => rfl) (fun f cdv A outer s H vs Q E hr h => ?_)
  · obtain ⟨p, O, rfl, hO, hI, q⟩ := h; rfl
  obtain ⟨p, O, rfl, hO, hI, q⟩ := h
  have nd := sc_full_chain_least.nd
  have hu := hu_of hr
  refine ⟨_, (pss_one (ps_ret (pe_callD g_least_spanned (hr.mono (by decide)) rfl (pa_cons (pv 0) (pa_cons pe_bl pa_nil))))), ?_⟩
  exact ⟨_, rfl, p, O, false, rfl, hO, hI, q⟩
theorem ok_full_chain_most (B : Blt mg) (D : DefAt K mg "full_chain_most" s_full_chain_most) (g_least_spanned : Calls P w K mg base 6 "least_spanned" ["order", "most"] (spLeastSp T K)) : Calls P w K mg base 7 "full_chain_most" ["order"] (spFull T K true) := by
  refine D.ok sc_full_chain_most (fun vs H Q E h => ?_) (fun _ _ _ _ _ _ us hl => match us, hl with | [_], _ => rfl) (fun f cdv A outer s H vs Q E hr h => ?_)
  · obtain ⟨p, O, rfl, hO, hI, q⟩ := h; rfl
  obtain ⟨p, O, rfl, hO, hI, q⟩ := h
  have nd := sc_full_chain_most.nd
  have hu := hu_of hr
  refine ⟨_, (pss_one (ps_ret (pe_callD g_least_spanned (hr.mono (by decide)) rfl (pa_cons (pv 0) (pa_cons pe_bl pa_nil))))), ?_⟩
  exact ⟨_, rfl, p, O, true, rfl, hO, hI, q⟩
abbrev s_ranks_bar : Stmt := top 75
abbrev N_ranks_bar : List Str := ["order", "fewest", "most"]
theorem sc_ranks_bar : FnScope N_ranks_bar ["order"] (defScope s_ranks_bar) := ⟨rfl, rfl, rfl, by decide +kernel, rfl, by decide +kernel, by decide +kernel⟩
-- slots: 0 order, 1 fewest, 2 most
def spBar (T : Tbs) (K : PySem.W.Frag) : Sp := fun vs H Q _ => ∃ (p : Addr) (O : List Nat), vs = [.ref p] ∧ OrdAt K H p O ∧ IsOrd O ∧
  (∀ H', Ext T H H' → ranked O = true → Q .non H') ∧ ∀ q H' xs, Ext T H H' → ranked O = false → H' q = some (.tup xs) → Q (.ref q) H'
theorem ok_ranks_bar (B : Blt mg) (D : DefAt K mg "ranks_bar" s_ranks_bar) (g_full_chain_least : Calls P w K mg base 7 "full_chain_least" ["order"] (spFull T K false)) (g_full_chain_most : Calls P w K mg base 7 "full_chain_most" ["order"] (spFull T K true)) :
    Calls P w K mg base 8 "ranks_bar" ["order"] (spBar T K) := by
  refine D.ok sc_ranks_bar (fun vs H Q E h => ?_) (fun _ _ _ _ _ _ us hl => match us, hl with | [_], _ => rfl) (fun f cdv A outer s H vs Q E hr h => ?_)
  · obtain ⟨p, O, rfl, hO, hI, q1, q2⟩ := h; rfl
  obtain ⟨p, O, rfl, hO, hI, q1, q2⟩ := h
  have nd := sc_ranks_bar.nd
  have hu := hu_of hr
  refine ⟨_, (pss_cons (ps_set (i := 1) nd rfl (Or.inl rfl) (pe_callD g_full_chain_least (hr.mono (by decide)) rfl (pa_cons (pv 0) pa_nil)))
      (pss_cons (ps_set (i := 2) nd rfl (Or.inl rfl) (pe_callD g_full_chain_most (hr.mono (by decide)) rfl (pa_cons (pv 0) pa_nil)))
      (pss_cons (ps_if (pt_cmpR op_eq (pe_callB (r := rLenK K) call_lenK (by rfl) B.len PySem.boot_len (pa_cons (pv 1) pa_nil)) (pe_callB (r := rLenK K) call_lenK (by rfl) B.len PySem.boot_len (pa_cons (pv 2) pa_nil)) (nomark _))
        (pss_one (ps_ret pe_non))
        pss_nil)
      (pss_one (ps_ret (pe_tup (pa_cons (pv 1) (pa_cons (pv 2) pa_nil)))))))), ?_⟩
  refine e_seq (e_set (e_call ⟨_, rfl, p, O, rfl, hO, hI, fun a H1 C e1 _ hC hs => ?_⟩))
  try dsimp only
  refine e_seq (e_set (e_call ⟨_, rfl, p, O, rfl, hO.ext e1, hI, fun b H2 C2 e2 _ hC2 hs2 => ?_⟩))
  try dsimp only
  have hr := span_ranked hI hs hs2
  refine e_seq ⟨_, rfl, a, _, rfl, .inr (SqT.of (e2.tup hC)), _, rfl, b, _, rfl, .inr (SqT.of hC2), rfl, _, rfl, ?_⟩
  rw [dec_iv, nats_len, nats_len, hr]
  refine ite2 (fun hc => q1 H2 (e1.trans e2) hc) (fun hc => ?_)
  have hc : ranked O = false := by simpa using hc
  exact ⟨_, rfl, _, rfl, (by show 2 ≤ sizeLine; decide), fun t ht => q2 t _ _ ((e1.trans e2).newer ht) hc upd_same⟩
end
end SW

/-! ## SwS3 -/
/-! The rule for len(set(xs)), xs a list of whole numbers, some of them alike. -/
namespace SW
open PySem PySem.Spec PyProof.Rows L2 Bits
def tLenSetA (K : PySem.W.Frag) (ta : TE) : TE := fun σ H Q => ta σ H fun x H1 => ∃ (l : Addr) (ns : List Int), x = V.ref l ∧ SqL K H1 l (ns.map V.int) ∧ ns.length ≤ 4000 ∧ Q (.int ((met ns).length : Nat)) H1
theorem pe_lenSetA {X : Cx} {a : Expr} {ta : TE} {p p2 q pos : Pos} (hc : X.calm = true) (hg : Gl X "len") (hm : X.mg "len" = none) (hg2 : Gl X "set") (hm2 : X.mg "set" = none) (ha : PE X a ta)
    (na : starEach [a] X.env = (false, eval a X.env) :: starEach [] X.env := by rfl) : PE X (.Call (.Name "len" p) [.Call (.Name "set" p2) [a] [] q] [] pos) (tLenSetA X.K ta) := by
  refine ⟨fun pins s σ H Q I h => ?_⟩
  refine Call_ (ld_blt I hg hm PySem.boot_len ?_)
  refine PyProof.Rows.callWith_builtin1 (PyProof.Rows.args_cons ?_ rfl) rfl rfl
  refine Call_ (ld_blt I hg2 hm2 PyProof.Rows.boot_set ?_)
  refine PyProof.Rows.callWith_type1 (PyProof.Rows.args_cons (thn (ha.run pins s σ H _ I h) fun v s1 ⟨x, H1, I1, r1, q1⟩ => PyProof.Rows.args_nil ?_) na) na rfl
  obtain ⟨l, ns, rfl, hq, h1, q1⟩ := q1
  cases r1
  obtain ⟨its, r, pl, hz⟩ := I1.list hq
  have hl : its.toArray.size = ns.length := by rw [List.size_toArray, ← r.length, List.length_map]
  refine PySem.call_set_list (I1.ok.hd hc) pl.isList (ns := ns) (by simpa using r.ints) (by unfold scanBound; omega) fun h' tk hS hk => ?_
  rw [hl] at hS
  refine PyProof.Rows.args_nil ?_
  obtain ⟨o, es, ep, t, ho, hex, hd, _, _, _, hf, hn⟩ := hS
  have hml := PyProof.Rows.firstMet_length_le (fun i => ns.getD i 0) ns.length
  have I2 : Inv X pins σ H1 { s1 with heap := h', toks := tk } := I1.kept fun b o e => hk b o (Heap.lt_size e) e
  exact call_len_set ho hex hd hf (by rw [hn]; omega) ⟨.int (met ns).length, H1, I2.tok _, ⟨_, by rw [hn]; rfl⟩, q1⟩
end SW

/-! ## SwW -/
/-! The law's own answer whether an order is ranked. -/
namespace SW
open PySem PySem.Spec PyProof.Rows L2 Bits
theorem inV_nats (b : Nat) : ∀ l : List Nat, inV (iv b) (nats l) = decide (b ∈ l)
  | [] => rfl
  | x :: r => by
    show (eqV (iv x) (iv b) || inV (iv b) (nats r)) = _
    rw [inV_nats b r]
    show (((x : Int) == (b : Int)) || _) = _
    by_cases h : x = b
    · subst h; simp
    · have h2 : ¬ (x : Int) = (b : Int) := by omega
      have h3 : ¬ b = x := fun e => h e.symm
      simp [h2, h3]
theorem flat_nats (l : List Nat) : (nats l).all flatV = true := by
  rw [List.all_eq_true]
  intro v hv
  obtain ⟨k, _, rfl⟩ := List.mem_map.mp hv
  rfl
theorem top_iff {O : List Nat} (h : IsOrd O) {b : Nat} : (!decide (b ∈ (nexts O).map (·.1))) = decide (nextsOf O b = []) := by
  cases q : nextsOf O b with
  | nil =>
    rw [decide_eq_true rfl, decide_eq_false]
    · rfl
    · intro hm
      obtain ⟨⟨a, c⟩, hx, e⟩ := List.mem_map.mp hm
      subst e
      have := (mem_nextsOf h).mpr (mem_nexts.mp hx).2.2
      rw [q] at this
      cases this
  | cons c r =>
    have hc := (mem_nextsOf h).mp (show c ∈ nextsOf O b by rw [q]; exact List.mem_cons_self)
    have hb := le_bd h (cov_le hc).2
    rw [decide_eq_true (List.mem_map.mpr ⟨(b, c), mem_nexts.mpr ⟨hb.1, hb.2, hc⟩, rfl⟩), decide_eq_false (by simp)]
    rfl
/-- what has been put to b's lengths after j of the pairs -/
def partL (O : List Nat) (b j : Nat) : List Nat := ((((nexts O).take j).filter fun y => decide (y.2 = b)).map (·.1)).flatMap fun a => (dl' O a).map (· + 1)
theorem partL_step {O : List Nat} {b j : Nat} {y : Nat × Nat} (h : (nexts O)[j]? = some y) : partL O b (j + 1) = partL O b j ++ if y.2 = b then (dl' O y.1).map (· + 1) else [] := by
  unfold partL
  rw [filt_take _ h]
  by_cases q : y.2 = b
  · rw [if_pos (decide_eq_true q), if_pos q, List.map_append, List.flatMap_append]
    simp
  · rw [if_neg (by simpa using q), if_neg q, List.append_nil, List.append_nil]
theorem partL_all {O : List Nat} {b : Nat} (hb : b < O.length) : partL O b (nexts O).length = (covs O b).flatMap fun a => (dl' O a).map (· + 1) := by
  unfold partL
  rw [List.take_length, nexts_snd O hb]
theorem partL_len {O : List Nat} (h : IsOrd O) (h6 : O.length ≤ 6) (b j : Nat) : (partL O b j).length ≤ 30720 := by
  have h1 : (partL O b j).length ≤ ((((nexts O).take j).filter fun y => decide (y.2 = b)).map (·.1)).length * 120 := flatMap_len_le fun a ha => by
    obtain ⟨⟨x, y⟩, hx, e⟩ := List.mem_map.mp ha
    subst e
    have := mem_nexts.mp (List.mem_of_mem_take (List.mem_filter.mp hx).1)
    rw [List.length_map]
    exact dl_len6 h h6 this.1
  have h2 := List.length_filter_le (fun y : Nat × Nat => decide (y.2 = b)) ((nexts O).take j)
  have h3 := nexts_len (O := O) (by omega)
  rw [List.length_take] at h2
  rw [List.length_map] at h1
  omega
section
variable {P : Program} {w : World} {K : PySem.W.Frag} {mg : Str → Option Value} {base : Heap} {T : Tbs}
theorem nats_app (a b : List Nat) : nats a ++ nats b = nats (a ++ b) := (List.map_append ..).symm
abbrev s__law_ranked : Stmt := top 119
abbrev N__law_ranked : List Str := ["_law_order_here", "_law_thing", "_law_lengths", "_law_sizes", "_law_b", "_law_a", "_law_nexts_here", "_law_size", "_law_c", "_law_length", "_law_lower", "_law_ends"]
theorem sc__law_ranked : FnScope N__law_ranked ["_law_order_here"] (defScope s__law_ranked) := ⟨rfl, rfl, rfl, by decide +kernel, rfl, by decide +kernel, by decide +kernel⟩
-- slots: 0 _law_order_here, 1 _law_thing, 2 _law_lengths, 3 _law_sizes, 4 _law_b, 5 _law_a, 6 _law_nexts_here, 7 _law_size, 8 _law_c, 9 _law_length, 10 _law_lower, 11 _law_ends
def spRankedL (T : Tbs) (K : PySem.W.Frag) : Sp := fun vs H Q _ => ∃ (p : Addr) (O : List Nat), vs = [.ref p] ∧ OrdAt K H p O ∧ IsOrd O ∧ O.length ≤ 6 ∧ ∀ H', Ext T H H' → Q (.bl (ranked O)) H'
theorem ok__law_ranked (B : Blt mg) (D : DefAt K mg "_law_ranked" s__law_ranked) (g__law_nexts : Calls P w K mg base 1 "_law_nexts" ["_law_order_here"] (spNextsL T K)) : Calls P w K mg base 2 "_law_ranked" ["_law_order_here"] (spRankedL T K) := by
  refine D.ok sc__law_ranked (fun vs H Q E h => ?_) (fun _ _ _ _ _ _ us hl => match us, hl with | [_], _ => rfl) (fun f cdv A outer s H vs Q E hr h => ?_)
  · obtain ⟨p, O, rfl, hO, hI, h6, q⟩ := h; rfl
  obtain ⟨p, O, rfl, hO, hI, h6, q⟩ := h
  have nd := sc__law_ranked.nd
  have hu := hu_of hr
  refine ⟨_, (pss_cons (ps_setLc (i := 2) (own := [("_law_thing", 1)]) (g := gName 1) rfl nd rfl rfl (sw_true rfl rfl rfl (by decide +kernel)) (pi_tup (pv 0)) (blkOk_by (own := [("_law_thing", 1)]) (N := N__law_ranked) (sc := defScope s__law_ranked) (by decide +kernel)) (fun _ _ _ _ _ => pg_name (i := 1) nd rfl (Or.inl rfl)) (fun _ _ _ _ _ => pts_nil) (fun _ _ _ _ _ => (pe_lst pa_nil)))
      (pss_cons (ps_set (i := 3) nd rfl (Or.inl rfl) (pe_lst pa_nil))
      (pss_cons (ps_for PassesOwn.never rfl (pi_range1 (by rfl) B.range (pa_cons (pe_callB (r := rLenK K) call_lenK (by rfl) B.len PySem.boot_len (pa_cons (pv 0) pa_nil)) pa_nil)) (pg_name (i := 4) nd rfl (Or.inr rfl))
        (pss_one (ps_expr (pe_bm PySem.F.plainAttrs_list PySem.F.slot_list_append PySem.F.type_list_append mt_append (pv 3) (pa_cons (pe_tup (pa_cons (pe_callB (r := rLenK K) call_lenK (by rfl) B.len PySem.boot_len (pa_cons (pe_lc (own := [("_law_a", 5)]) (g := gName 5) rfl nd (pi_range1 (by rfl) B.range (pa_cons (pe_callB (r := rLenK K) call_lenK (by rfl) B.len PySem.boot_len (pa_cons (pv 0) pa_nil)) pa_nil)) (blkOk_by (own := [("_law_a", 5)]) (N := N__law_ranked) (sc := defScope s__law_ranked) (by decide +kernel)) (fun _ _ _ _ _ => pg_name (i := 5) nd rfl (Or.inl rfl)) (fun _ _ _ _ _ => pts_one (pt_cmpR op_eq (pe_op op_and (pe_op op_shr (pe_ix (r := rIxT K) ix_tup (pv 0) (pv 4) (fun _ _ => rfl)) (pv 5)) pe_int) pe_int (nomark _))) (fun _ _ _ _ _ => (pv 5))) pa_nil)) (pa_cons (pv 4) pa_nil))) pa_nil)))))
      (pss_cons (ps_set (i := 6) nd rfl (Or.inl rfl) (pe_callD g__law_nexts (hr.mono (by decide)) rfl (pa_cons (pv 0) pa_nil)))
      (pss_cons (ps_for PassesOwn.never rfl (pi_list (pe_callB cr_sortedPO (by rfl) B.sorted (by decide +kernel) (pa_cons (pv 3) pa_nil))) (pg_tup rfl (pgs_cons (pg_name (i := 7) nd rfl (Or.inl rfl)) (pgs_cons (pg_name (i := 4) nd rfl (Or.inr rfl)) pgs_nil)))
        (pss_cons (ps_for PassesOwn.never rfl (pi_list (pv 6)) (pg_tup rfl (pgs_cons (pg_name (i := 5) nd rfl (Or.inl rfl)) (pgs_cons (pg_name (i := 8) nd rfl (Or.inl rfl)) pgs_nil)))
          (pss_one (ps_if (pt_cmpR op_eq (pv 8) (pv 4) (nomark _))
            (pss_one (ps_expr (pe_bm PySem.F.plainAttrs_list PySem.F.slot_list_extend PySem.F.type_list_extend mt_extend (pe_ix (r := rIxL K) ix_list (pv 2) (pv 4) (fun _ _ => rfl)) (pa_cons (pe_lc (own := [("_law_length", 9)]) (g := gName 9) rfl nd (pi_list (pe_ix (r := rIxL K) ix_list (pv 2) (pv 5) (fun _ _ => rfl))) (blkOk_by (own := [("_law_length", 9)]) (N := N__law_ranked) (sc := defScope s__law_ranked) (by decide +kernel)) (fun _ _ _ _ _ => pg_name (i := 9) nd rfl (Or.inl rfl)) (fun _ _ _ _ _ => pts_nil) (fun _ _ _ _ _ => (pe_op op_add (pv 9) pe_int))) pa_nil))))
            pss_nil)))
        (pss_one (ps_if (pt_cmpR op_eq (pv 7) pe_int (nomark _))
          (pss_one (ps_expr (pe_bm PySem.F.plainAttrs_list PySem.F.slot_list_append PySem.F.type_list_append mt_append (pe_ix (r := rIxL K) ix_list (pv 2) (pv 4) (fun _ _ => rfl)) (pa_cons pe_int pa_nil))))
          pss_nil))))
      (pss_cons (ps_setLc (i := 10) (own := [("_law_a", 5), ("_law_c", 8)]) (g := gTup K 2 (gCons (gName 5) (gCons (gName 8) (gNil)))) rfl nd rfl rfl (sw_true rfl rfl rfl (by decide +kernel)) (pi_list (pv 6)) (blkOk_by (own := [("_law_a", 5), ("_law_c", 8)]) (N := N__law_ranked) (sc := defScope s__law_ranked) (by decide +kernel)) (fun _ _ _ _ _ => pg_tup rfl (pgs_cons (pg_name (i := 5) nd rfl (Or.inl rfl)) (pgs_cons (pg_name (i := 8) nd rfl (Or.inl rfl)) pgs_nil))) (fun _ _ _ _ _ => pts_nil) (fun _ _ _ _ _ => (pv 5)))
      (pss_cons (ps_set (i := 11) nd rfl (Or.inl rfl) (pe_lst pa_nil))
      (pss_cons (ps_for PassesOwn.never rfl (pi_range1 (by rfl) B.range (pa_cons (pe_callB (r := rLenK K) call_lenK (by rfl) B.len PySem.boot_len (pa_cons (pv 0) pa_nil)) pa_nil)) (pg_name (i := 4) nd rfl (Or.inr rfl))
        (pss_one (ps_if (pt_cmpR op_notIn_seq (pv 4) (pv 10) rfl)
          (pss_one (ps_expr (pe_bm PySem.F.plainAttrs_list PySem.F.slot_list_extend PySem.F.type_list_extend mt_extend (pv 11) (pa_cons (pe_ix (r := rIxL K) ix_list (pv 2) (pv 4) (fun _ _ => rfl)) pa_nil))))
          pss_nil)))
      (pss_one (ps_ret (pe_cmpR op_lt (pe_lenSetA rfl rfl B.len rfl B.set (pv 11)) pe_int (nomark _)))))))))))), ?_⟩
  have hlen := hO.len
  refine e_seq (e_set ?_)
  refine lc_rowsT (T := T) (L := []) (xs := nats O) (by rw [nats_len]; omega) rfl rfl hO.tup (fun _ => rfl) (fun _ _ _ => newI_nil) ?_
  intro lg H1 ls0 e1 hls0 R0
  rw [nats_len] at hls0
  have hl0 : ls0.length = O.length := by have := congrArg List.length hls0; simpa using this
  try dsimp only
  refine e_seq (s_newL fun l hl => ?_)
  try dsimp only
  have e2 := Ext.newer (o := .lst []) e1 hl
  have hlH : H l = none := e1.back hl
  refine e_seq (for_rng (T := T) O.length (by omega) (al_lenO rfl (hO.ext e2)) (fun b σ H' => ∃ x, σ = [some (.ref p), none, some (.ref lg), some (.ref l), x, none, none, none, none, none, none, none] ∧ Ext T H1 H' ∧ LstOf IsPr H' l ((List.range b).map (szPr O))) ?_ ?_ ?_)
  · intro H2 e3
    exact ⟨none, rfl, Ext.trans (.new hl) e3, [], e3.lst upd_same, .nil⟩
  · rintro b σ H2 hb ⟨x, rfl, e3, hL⟩
    refine s_size (T := T) rfl hlen (by simp; omega) e3 hl hL rfl rfl (al_lenO rfl (hO.ext (e1.trans e3))) (fun _ => rfl) (fun _ => rfl) (fun i H3 hi e4 => tt_bit rfl rfl rfl (hO.ext ((e1.trans e3).trans e4)) hb) fun H3 e4 hL2 => ⟨_, rfl, e4, ?_⟩
    rw [sizes_step]
    exact hL2
  rintro σ H2 ⟨x, rfl, e3, hL⟩
  have R2 := R0.ext e3
  have e13 := e1.trans e3
  try dsimp only
  -- the pairs
  refine e_seq (e_set (e_call ⟨_, rfl, p, O, rfl, hO.ext e13, fun nx H3 e4 hnx hN => ?_⟩))
  have hnxn := R2.fresh hnx
  have R3 := R2.ext e4
  obtain ⟨us, hus, hpu⟩ := hN
  try dsimp only
  refine e_seq (e_for (e_iL (e_cb (e_cons (e_var rfl (e_nil (sort_sizes (T := T) (hL.prs_ext e4) ?_)))))))
  intro L r H4 hBS e5 hr hrL
  obtain ⟨vs, hvs, hpv⟩ := hrL
  have hrn := R3.fresh hr
  have R4 := R3.ext e5
  have nrx : nx ≠ r := fun z => by rw [← z, hus] at hr; cases hr
  have e14 := (e13.trans e4).trans e5
  have hLl : L.length = O.length := by have := hBS.perm.length_eq; simpa using this
  refine ⟨r, rfl, ⟨_, SqL.of hvs⟩, for_list (xs := vs) (fun i σ H' => ∃ x1 x2 x3 x4 ls, σ = [some (.ref p), none, some (.ref lg), some (.ref l), x1, x2, some (.ref nx), x3, x4, none, none, none] ∧ Ext T H H' ∧ H' r = some (.lst vs) ∧ Paired (IsPr H') vs (L.map (szPr O)) ∧ H' nx = some (.lst us) ∧ Paired (IsPr H') us (nexts O) ∧
      Rws H H' lg ls ∧ ls.length = O.length ∧ ls.map (·.1) = ls0.map (·.1) ∧ ∀ k x, ls[k]? = some x → x.2 = natsI (if k ∈ L.take i then dl' O k else []))
    ⟨_, _, _, _, ls0, rfl, e14, hvs, hpv, e5.lst hus, Pd.imp hpu fun _ _ h => h.ext e5, R4, hl0, rfl, fun k x hk => ?_⟩ (fun i σ H' _ ⟨_, _, _, _, _, _, _, h, _⟩ => SqL.of h) ?_ ?_⟩
  · have : x.2 ∈ List.replicate O.length ([] : List Int) := by rw [← hls0]; exact List.mem_map.mpr ⟨x, List.mem_of_getElem? hk, rfl⟩
    rw [(List.mem_replicate.mp this).2]
    simp
  · rintro i v σ H5 hi ⟨x1, x2, x3, x4, ls, rfl, e6, hr5, hpv5, hnx5, hpu5, R5, hl5, hfst, hk5⟩
    obtain ⟨⟨s1, b⟩, hx, tq, rfl, htq⟩ := Pd.get hpv5 hi
    rw [List.getElem?_map] at hx
    cases hbL : L[i]? with
    | none => rw [hbL] at hx; cases hx
    | some b' =>
    rw [hbL] at hx
    have hx : szPr O b' = (s1, b) := Option.some.inj hx
    have hb1 : sz O b' = s1 := congrArg Prod.fst hx
    have hb2 : b' = b := congrArg Prod.snd hx
    subst hb1 hb2
    have hb : b' < O.length := hBS.mem.mp (List.mem_of_getElem? hbL)
    obtain ⟨t1, t2⟩ := hBS.turn hI hbL
    have htake : L.take (i + 1) = L.take i ++ [b'] := take_snoc hbL
    refine ⟨tq, _, rfl, SqT.of htq, rfl, _, _, rfl, _, _, rfl, rfl, ?_⟩
    try dsimp only
    refine e_seq (e_for ⟨_, rfl, nx, rfl, ⟨_, SqL.of hnx5⟩, for_list (xs := us) (fun j σ H' => ∃ x2 x4 ls, σ = [some (.ref p), none, some (.ref lg), some (.ref l), some (iv b'), x2, some (.ref nx), some (iv (sz O b')), x4, none, none, none] ∧ Ext T H H' ∧ H' r = some (.lst vs) ∧ Paired (IsPr H') vs (L.map (szPr O)) ∧ H' nx = some (.lst us) ∧ Paired (IsPr H') us (nexts O) ∧
        Rws H H' lg ls ∧ ls.length = O.length ∧ ls.map (·.1) = ls0.map (·.1) ∧ ∀ k x, ls[k]? = some x → x.2 = natsI (if k = b' then partL O b' j else if k ∈ L.take i then dl' O k else []))
      ⟨_, _, ls, rfl, e6, hr5, hpv5, hnx5, hpu5, R5, hl5, hfst, fun k x hk => ?_⟩ (fun j σ H' _ ⟨_, _, _, _, _, _, _, h, _⟩ => SqL.of h) ?_ ?_⟩)
    · rw [hk5 k x hk]
      by_cases z : k = b'
      · rw [if_pos z, if_neg (by rw [z]; exact t1)]
        rfl
      · rw [if_neg z]
    · rintro j v σ H6 hj ⟨x2, x4, ls, rfl, e7, hr6, hpv6, hnx6, hpu6, R6, hl6, hfst6, hk6⟩
      obtain ⟨⟨a, c⟩, hy, ty, rfl, hty⟩ := Pd.get hpu6 hj
      have hm := mem_nexts.mp (List.mem_of_getElem? hy)
      refine ⟨ty, _, rfl, SqT.of hty, rfl, _, _, rfl, _, _, rfl, rfl, ?_⟩
      try dsimp only
      have hstep := partL_step (b := b') hy
      refine s_if (tt_eq (vv_var rfl) (vv_var rfl)) (fun hc => ?_) (fun hc => ?_)
      · have hc : c = b' := of_decide_eq_true hc
        subst hc
        have hac := cov_le hm.2.2
        have haL := t2 a hac.2 hac.1
        obtain ⟨xa, hxa⟩ : ∃ x, ls[a]? = some x := ⟨_, List.getElem?_eq_getElem (by rw [hl6]; exact hm.1)⟩
        obtain ⟨xb, hxb⟩ : ∃ x, ls[c]? = some x := ⟨_, List.getElem?_eq_getElem (by rw [hl6]; exact hb)⟩
        have hxm := List.mem_of_getElem? hxb
        have hxaE : xa.2 = natsI (dl' O a) := by rw [hk6 a xa hxa, if_neg hac.1, if_pos haL]
        have hxbE : xb.2 = natsI (partL O c j) := by rw [hk6 c xb hxb, if_pos rfl]
        have hrb : H6 xb.1 = some (.lst (nats (partL O c j))) := by rw [R6.its xb hxm, hxbE, nats_ints]
        have hra : H6 xa.1 = some (.lst (nats (dl' O a))) := by rw [R6.its xa (List.mem_of_getElem? hxa), hxaE, nats_ints]
        refine e_drop (e_bm (vv_ixL (vv_var rfl) (vv_var rfl) (SqL.of R6.at_) (refs_get hxb)) hrb (e_cons ?_))
        have hdl := dl_len6 hI h6 hm.1
        refine lc_ls (T := T) (K := K) (dl' O a) iv (fun _ => true) (fun k => iv (k + 1)) (by omega) (fun R' r' => vv_ixL (vv_var rfl) (vv_var rfl) (SqL.of R6.at_) (refs_get hxa) _ (r' _ _ .refl (SqL.of hra))) (fun _ => rfl) (fun _ _ _ _ _ => tl_yes) (fun n k H7 hk _ e8 => ?_) ?_
        · exact (vv_is (vv_I0 (vv_var rfl) vv_c) (by show V.int ((k : Int) + 1) = _; congr 1)).l
        · intro d H7 e8 hd hdL
          rw [filter_yes] at hdL
          have hb7 := e8.lst hrb
          have R7 := R6.ext e8
          have hin := List.mem_cons_of_mem lg (List.mem_map.mpr ⟨xb, hxm, rfl⟩ : xb.1 ∈ ls.map (·.1))
          have hin0 : xb.1 ∈ lg :: ls0.map (·.1) := by rw [← hfst6]; exact hin
          have hxbH := R7.new xb.1 hin
          have n1 : r ≠ xb.1 := fun z => hrn (by rw [z]; exact hin0)
          have n2 : nx ≠ xb.1 := fun z => hnxn (by rw [z]; exact hin0)
          have hplen := partL_len hI h6 c j
          have hdL2 : H7 d = some (.lst (nats ((dl' O a).map (· + 1)))) := by rw [hdL, nats, List.map_map]; rfl
          refine ⟨xb.1, d, _, _, rfl, rfl, hb7, hdL2, ?_, ?_⟩
          · rw [nats_len, nats_len, List.length_map]
            exact small (by omega)
          · rw [nats_app, ← nats_ints]
            refine ⟨_, _, ls.set c (xb.1, natsI (partL O c j ++ (dl' O a).map (· + 1))), rfl, (e7.trans e8).mutL hxbH hb7, ?_, Pd.imp hpv6 fun _ _ h => (h.ext e8).upd hb7, ?_, Pd.imp hpu6 fun _ _ h => (h.ext e8).upd hb7, R7.mutI hxb, by rw [List.length_set]; exact hl6, by rw [set_fst hxb]; exact hfst6, fun k x hk => ?_⟩
            · rw [upd_ne n1]; exact e8.lst hr6
            · rw [upd_ne n2]; exact e8.lst hnx6
            · rw [List.getElem?_set] at hk
              by_cases z : c = k
              · subst z
                rw [if_pos rfl, if_pos (by rw [hl6]; exact hb)] at hk
                rw [if_pos rfl, ← Option.some.inj hk, hstep, if_pos rfl]
              · rw [if_neg z] at hk
                have ne : ¬ k = c := fun e => z e.symm
                rw [hk6 k x hk, if_neg ne, if_neg ne]
      · have hc : c ≠ b' := of_decide_eq_false hc
        refine ⟨_, _, ls, rfl, e7, hr6, hpv6, hnx6, hpu6, R6, hl6, hfst6, fun k x hk => ?_⟩
        rw [hk6 k x hk, hstep, if_neg (show ¬ (a, c).2 = b' from hc), List.append_nil]
    · rintro σ H6 ⟨x2, x4, ls, rfl, e7, hr6, hpv6, hnx6, hpu6, R6, hl6, hfst6, hk6⟩
      rw [Pd.len hpu, partL_all hb] at hk6
      try dsimp only
      have hrec := dl_rec hI hb
      obtain ⟨xb, hxb⟩ : ∃ x, ls[b']? = some x := ⟨_, List.getElem?_eq_getElem (by rw [hl6]; exact hb)⟩
      have hxm := List.mem_of_getElem? hxb
      have fin : ∀ (k : Nat) (Lk : List Nat), Lk = (if k = b' then dl' O b' else if k ∈ L.take i then dl' O k else []) → Lk = (if k ∈ L.take (i + 1) then dl' O k else []) := fun k Lk e => by
        rw [e, htake]
        by_cases z : k = b'
        · subst z; rw [if_pos rfl, if_pos (by simp)]
        · rw [if_neg z]
          by_cases z2 : k ∈ L.take i
          · rw [if_pos z2, if_pos (List.mem_append_left _ z2)]
          · rw [if_neg z2, if_neg fun y => (List.mem_append.mp y).elim z2 fun y => z (List.mem_singleton.mp y)]
      refine s_if (tt_eq (b := 1) (vv_var rfl) (vv_is vv_c rfl)) (fun hc => ?_) (fun hc => ?_)
      · have hs : sz O b' = 1 := of_decide_eq_true hc
        have hxbE : xb.2 = natsI ((covs O b').flatMap fun a => (dl' O a).map (· + 1)) := by rw [hk6 b' xb hxb, if_pos rfl]
        have hrb := R6.its xb hxm
        rw [hxbE, nats_ints] at hrb
        have hin := List.mem_cons_of_mem lg (List.mem_map.mpr ⟨xb, hxm, rfl⟩ : xb.1 ∈ ls.map (·.1))
        have hin0 : xb.1 ∈ lg :: ls0.map (·.1) := by rw [← hfst6]; exact hin
        have hxbH := R6.new xb.1 hin
        have n1 : r ≠ xb.1 := fun z => hrn (by rw [z]; exact hin0)
        have n2 : nx ≠ xb.1 := fun z => hnxn (by rw [z]; exact hin0)
        refine s_app hrb (vv_ixL (vv_var rfl) (vv_var rfl) (SqL.of R6.at_) (refs_get hxb)) vv_c ?_ ?_
        · have h1 := partL_len hI h6 b' (nexts O).length
          rw [partL_all hb] at h1
          rw [nats_len]
          omega
        · have ea : nats ((covs O b').flatMap fun a => (dl' O a).map (· + 1)) ++ [V.int 1] = intsV (natsI (dl' O b')) := by
            rw [nats_ints, hrec, if_pos hs, ← nats_app]; rfl
          rw [ea]
          refine ⟨_, _, _, _, ls.set b' (xb.1, natsI (dl' O b')), rfl, e7.mutL hxbH hrb, ?_, Pd.imp hpv6 fun _ _ h => h.upd hrb, ?_, Pd.imp hpu6 fun _ _ h => h.upd hrb, R6.mutI hxb, by rw [List.length_set]; exact hl6, by rw [set_fst hxb]; exact hfst6, fun k x hk => ?_⟩
          · rw [upd_ne n1]; exact hr6
          · rw [upd_ne n2]; exact hnx6
          · rw [List.getElem?_set] at hk
            by_cases z : b' = k
            · subst z
              rw [if_pos rfl, if_pos (by rw [hl6]; exact hb)] at hk
              rw [← Option.some.inj hk]
              exact congrArg natsI (fin b' _ (by rw [if_pos rfl]))
            · rw [if_neg z] at hk
              rw [hk6 k x hk]
              have ne : ¬ k = b' := fun e => z e.symm
              exact congrArg natsI (fin k _ (by rw [if_neg ne, if_neg ne]))
      · have hs : sz O b' ≠ 1 := of_decide_eq_false hc
        refine ⟨_, _, _, _, ls, rfl, e7, hr6, hpv6, hnx6, hpu6, R6, hl6, hfst6, fun k x hk => ?_⟩
        rw [hk6 k x hk]
        refine congrArg natsI (fin k _ ?_)
        by_cases z : k = b'
        · rw [if_pos z, if_pos z, hrec, if_neg hs, List.append_nil]
        · rw [if_neg z, if_neg z]
  rintro σ H5 ⟨x1, x2, x3, x4, ls, rfl, e6, hr5, hpv5, hnx5, hpu5, R5, hl5, hfst, hk5⟩
  rw [Pd.len hpv, List.length_map, List.take_length] at hk5
  have hrow : ∀ k x, ls[k]? = some x → H5 x.1 = some (.lst (nats (dl' O k))) := fun k x hk => by
    have hkn : k < O.length := by rw [← hl5]; exact (List.getElem?_eq_some_iff.mp hk).1
    rw [R5.its x (List.mem_of_getElem? hk), hk5 k x hk, if_pos (hBS.mem.mpr hkn), nats_ints]
  try dsimp only
  -- lower
  refine e_seq (e_set ⟨_, rfl, nx, rfl, ⟨_, SqL.of hnx5⟩, fun D hD => lc_list (xs := us) (fun i H' => Ext T H5 H' ∧ H' D = some (.lst (nats (((nexts O).take i).map (·.1))))) ⟨.new hD, upd_same⟩ (fun i H' _ ⟨e, _⟩ => SqL.of (e.lst hnx5)) (fun i x H6 hi ⟨e7, hD7⟩ => ?_) fun H6 ⟨e7, hD7⟩ => ?_⟩)
  · obtain ⟨⟨a, c⟩, hx, t, rfl, ht⟩ := Pd.get hpu5 hi
    refine ⟨t, _, rfl, SqT.of (e7.tup ht), rfl, _, _, rfl, _, _, rfl, rfl, rfl, ?_⟩
    refine tl_yes (T := T) _ fun H7 e8 => iteT ⟨_, rfl, _, e8.lst hD7, ?_, (e7.trans e8).mutL hD (e8.lst hD7), ?_⟩
    · rw [nats_len, List.length_map, List.length_take]
      have := nexts_len (O := O) (by omega)
      exact smallt (by omega)
    · rw [upd_same, take_snoc hx, List.map_append, ← nats_app]; rfl
  rw [Pd.len hpu, List.take_length] at hD7
  try dsimp only
  refine e_seq (s_newL fun en hen => ?_)
  have henH : H en = none := (e6.trans e7).back hen
  have e8 := Ext.newer (o := .lst []) (e6.trans e7) hen
  have hD5 : H5 en = none := e7.back hen
  try dsimp only
  refine e_seq (for_rng (T := T) O.length (by omega) (al_lenO rfl (hO.ext e8)) (fun b σ H' => ∃ x, σ = [some (.ref p), none, some (.ref lg), some (.ref l), x, x2, some (.ref nx), x3, x4, none, some (.ref D), some (.ref en)] ∧ Ext T H6 H' ∧ H' en = some (.lst (nats (((List.range b).filter fun b => decide (nextsOf O b = [])).flatMap (dl' O))))) ?_ ?_ ?_)
  · intro H7 e9
    exact ⟨x1, rfl, Ext.trans (.new hen) e9, e9.lst upd_same⟩
  · rintro b σ H7 hb ⟨x, rfl, e9, hE⟩
    have hstep : (((List.range (b + 1)).filter fun b => decide (nextsOf O b = [])).flatMap (dl' O)) = (((List.range b).filter fun b => decide (nextsOf O b = [])).flatMap (dl' O)) ++ if decide (nextsOf O b = []) = true then dl' O b else [] := by
      rw [filt_range, List.flatMap_append]
      by_cases z : decide (nextsOf O b = []) = true
      · rw [if_pos z, if_pos z]; simp
      · rw [if_neg z, if_neg z]; simp
    refine s_if (b1 := decide (nextsOf O b = [])) ?_ (fun hc => ?_) (fun hc => ?_)
    · refine fun B q => ⟨_, rfl, _, rfl, D, nats ((nexts O).map (·.1)), rfl, .inl (SqL.of (e9.lst hD7)), rfl, flat_nats _, _, rfl, ?_⟩
      rw [if_pos rfl, inV_nats, top_iff hI]
      exact q
    · obtain ⟨xb, hxb⟩ : ∃ x, ls[b]? = some x := ⟨_, List.getElem?_eq_getElem (by rw [hl5]; exact hb)⟩
      have R7 := (R5.ext e7).ext e9
      have hrb := e9.lst (e7.lst (hrow b xb hxb))
      refine e_drop (e_bm (vv_var rfl) hE (e_cons (vv_ixL (vv_var rfl) (vv_var rfl) (SqL.of R7.at_) (refs_get hxb) _ (e_nil ⟨en, xb.1, _, _, rfl, rfl, hE, hrb, ?_, ?_⟩))))
      · rw [nats_len, nats_len]
        have h1 := dl_len6 hI h6 hb
        have h2 : (((List.range b).filter fun b => decide (nextsOf O b = [])).flatMap (dl' O)).length ≤ ((List.range b).filter fun b => decide (nextsOf O b = [])).length * 120 := flatMap_len_le fun a ha => by
          have := List.mem_range.mp (List.mem_filter.mp ha).1
          exact dl_len6 hI h6 (by omega)
        have h3 := List.length_filter_le (fun b => decide (nextsOf O b = [])) (List.range b)
        rw [List.length_range] at h3
        exact small (by omega)
      · refine ⟨_, rfl, e9.mutL hen hE, ?_⟩
        rw [upd_same, hstep, if_pos hc, nats_app]
    · refine ⟨_, rfl, e9, ?_⟩
      rw [hstep, if_neg (by rw [hc]; decide), List.append_nil]
      exact hE
  · rintro σ H7 ⟨x, rfl, e9, hE⟩
    try dsimp only
    have hlenE := ends_len hI h6
    refine ⟨_, rfl, en, natsI (ends O), rfl, ?_, by rw [List.length_map]; omega, _, _, rfl, rfl, ?_⟩
    · show SqL K H7 en (intsV (natsI (ends O)))
      rw [nats_ints]
      exact SqL.of hE
    · have : decide (((met (natsI (ends O))).length : Int) < 2) = ranked O := by
        unfold ranked
        refine decide_eq_decide.mpr ?_
        show _ ↔ (met (natsI (ends O))).length < 2
        omega
      show Q (V.bl (decide (((met (natsI (ends O))).length : Int) < 2))) H7
      rw [this]
      exact q H7 ((e6.trans e7).trans e9)
end
end SW

/-! ## SwX -/
/-! joining.py: product; the law's own. -/
namespace SW
open PySem PySem.Spec PyProof.Rows L2 Bits
def cndP (O P : List Nat) (a b k : Nat) : Bool := le O (k / P.length) a && le P (k % P.length) b
def mkP (O P : List Nat) (a b : Nat) : Nat := setOf ((List.range (O.length * P.length)).filter (cndP O P a b))
def fP (O P : List Nat) (c : Nat) : Nat := mkP O P (c / P.length) (c % P.length)
def prodO (O P : List Nat) : List Nat := (List.range (O.length * P.length)).map (fP O P)
theorem prodO_len (O P : List Nat) : (prodO O P).length = O.length * P.length := by unfold prodO; rw [List.length_map, List.length_range]
theorem fP_at (O P : List Nat) {a b : Nat} (hb : b < P.length) : fP O P (a * P.length + b) = mkP O P a b := by
  unfold fP
  rw [Nat.mul_comm a, Nat.mul_add_div (by omega), Nat.div_eq_of_lt hb, Nat.add_zero, Nat.mul_add_mod, Nat.mod_eq_of_lt hb]
theorem prodO_get {O P : List Nat} {c : Nat} (h : c < O.length * P.length) : (prodO O P).getD c 0 = fP O P c := by
  unfold prodO
  rw [List.getD_eq_getElem?_getD, List.getElem?_map, List.getElem?_range h]
  rfl
theorem mkP_lt (O P : List Nat) (a b : Nat) : mkP O P a b < 2 ^ (O.length * P.length) := setOf_lt fun i hi => List.mem_range.mp (List.mem_filter.mp hi).1
theorem prodO_bd (O P : List Nat) (c : Nat) : (prodO O P).getD c 0 < 2 ^ (prodO O P).length := by
  rw [prodO_len]
  rcases Nat.lt_or_ge c (O.length * P.length) with h | h
  · rw [prodO_get h]
    exact mkP_lt _ _ _ _
  · rw [List.getD_eq_getElem?_getD, List.getElem?_eq_none (by rw [prodO_len]; exact h)]
    exact Nat.two_pow_pos _
theorem prodO_rf {O P : List Nat} (hO : ∀ b, b < O.length → le O b b = true) (hP : ∀ b, b < P.length → le P b b = true) : ∀ c, c < (prodO O P).length → le (prodO O P) c c = true := by
  intro c hc
  rw [prodO_len] at hc
  unfold le
  rw [prodO_get hc]
  unfold fP mkP
  rw [setOf_bit]
  have hm : 0 < P.length := by
    rcases Nat.eq_zero_or_pos P.length with z | z
    · rw [z, Nat.mul_zero] at hc; omega
    · exact z
  refine decide_eq_true (List.mem_filter.mpr ⟨List.mem_range.mpr hc, ?_⟩)
  unfold cndP
  rw [hO _ (Nat.div_lt_of_lt_mul (by rw [Nat.mul_comm]; exact hc)), hP _ (Nat.mod_lt _ hm)]
  rfl
/-- as the program gathers it: each thing of the first moves the second's mask up -/
def gthr (m s : Nat) (l : List Nat) : Nat := l.foldl (fun x i => x ||| s * 2 ^ (i * m)) 0
theorem gthr_bit (m s : Nat) (l : List Nat) : ∀ (x k : Nat), (l.foldl (fun x i => x ||| s * 2 ^ (i * m)) x).testBit k = (x.testBit k || l.any fun i => decide (i * m ≤ k) && s.testBit (k - i * m)) := by
  induction l with
  | nil => intro x k; simp
  | cons i r ih =>
    intro x k
    rw [List.foldl_cons, ih, Nat.testBit_or, List.any_cons, Bool.or_assoc, Nat.mul_comm s, Nat.testBit_two_pow_mul]
theorem gthr_mk {O P : List Nat} {a b : Nat} (hOb : O.getD a 0 < 2 ^ O.length) (hPb : P.getD b 0 < 2 ^ P.length) : gthr P.length (P.getD b 0) (bits (O.getD a 0) O.length) = mkP O P a b := by
  apply Nat.eq_of_testBit_eq
  intro k
  unfold gthr mkP
  rw [gthr_bit, setOf_bit, Nat.zero_testBit, Bool.false_or]
  refine Bool.eq_iff_iff.mpr ?_
  rw [List.any_eq_true, decide_eq_true_iff, List.mem_filter, List.mem_range]
  unfold cndP
  constructor
  · rintro ⟨i, hi, hk⟩
    rw [Bool.and_eq_true, decide_eq_true_iff] at hk
    obtain ⟨hin, hbit⟩ := mem_bits.mp hi
    have hj := bit_lt hPb hk.2
    have hk2 : k = P.length * i + (k - i * P.length) := by rw [Nat.mul_comm]; omega
    have e1 : k / P.length = i := by rw [hk2, Nat.mul_add_div (by omega), Nat.div_eq_of_lt hj, Nat.add_zero]
    have e2 : k % P.length = k - i * P.length := by
      conv => lhs; rw [hk2]
      rw [Nat.mul_add_mod, Nat.mod_eq_of_lt hj]
    refine ⟨?_, ?_⟩
    · have h1 : (i + 1) * P.length ≤ O.length * P.length := Nat.mul_le_mul_right _ hin
      rw [Nat.succ_mul] at h1
      omega
    · rw [e1, e2]
      unfold le
      rw [hbit, hk.2]
      rfl
  · rintro ⟨hk, hc⟩
    rw [Bool.and_eq_true] at hc
    have hm : 0 < P.length := by
      rcases Nat.eq_zero_or_pos P.length with z | z
      · rw [z, Nat.mul_zero] at hk; omega
      · exact z
    refine ⟨k / P.length, mem_bits.mpr ⟨Nat.div_lt_of_lt_mul (by rw [Nat.mul_comm]; exact hk), hc.1⟩, ?_⟩
    have e1 := Nat.div_add_mod k P.length
    have e2 : k - k / P.length * P.length = k % P.length := by rw [Nat.mul_comm]; omega
    rw [e2, Bool.and_eq_true, decide_eq_true_iff]
    exact ⟨by rw [Nat.mul_comm]; omega, hc.2⟩
theorem block_step (O P : List Nat) {a b : Nat} (hb : b < P.length) : (List.range (a * P.length + (b + 1))).map (fP O P) = (List.range (a * P.length + b)).map (fP O P) ++ [mkP O P a b] := by
  rw [← Nat.add_assoc, List.range_succ, List.map_append]
  show _ ++ [fP O P (a * P.length + b)] = _
  rw [fP_at O P hb]
theorem setOf_filt (f : Nat → Bool) (k : Nat) : setOf ((List.range (k + 1)).filter f) = if f k = true then setOf ((List.range k).filter f) ||| 2 ^ k else setOf ((List.range k).filter f) := by
  rw [filt_range]
  split
  · unfold setOf
    rw [List.foldl_append]; rfl
  · rw [List.append_nil]
section
variable {P : Program} {w : World} {K : PySem.W.Frag} {mg : Str → Option Value} {base : Heap} {T : Tbs}
abbrev s_ask_many : Stmt := top 44
abbrev N_ask_many : List Str := ["many"]
theorem sc_ask_many : FnScope N_ask_many ["many"] (defScope s_ask_many) := ⟨rfl, rfl, rfl, by decide +kernel, rfl, by decide +kernel, by decide +kernel⟩
-- slots: 0 many
def spAskMany : Sp := fun vs H Q _ => ∃ n : Nat, vs = [iv n] ∧ n ≤ 16 ∧ Q .non H
theorem ok_ask_many (G : Cst mg) (D : DefAt K mg "ask_many" s_ask_many) : Calls P w K mg base 1 "ask_many" ["many"] spAskMany := by
  refine D.ok sc_ask_many (fun vs H Q E h => ?_) (fun _ _ _ _ _ _ us hl => match us, hl with | [_], _ => rfl) (fun f cdv A outer s H vs Q E hr h => ?_)
  · obtain ⟨n, rfl, hn, q⟩ := h; rfl
  obtain ⟨n, rfl, hn, q⟩ := h
  have nd := sc_ask_many.nd
  have hu := hu_of hr
  refine ⟨_, (pss_one (ps_if (pt_cmpR op_gt (pv 0) (pe_cst G.cMOST rfl) (nomark _))
        pss_never
        pss_nil)), ?_⟩
  refine ⟨_, rfl, _, _, rfl, rfl, _, rfl, ?_⟩
  rw [show decide ((16 : Int) < (n : Int)) = false from decide_eq_false (by omega)]
  exact iteF q
theorem cmul16 {i j : Nat} (h : i ≤ 16) : CMul (i : Int) (j : Int) := .inl ⟨by omega, by omega⟩
abbrev s_product : Stmt := top 45
abbrev N_product : List Str := ["one", "other", "many", "masks", "first", "second", "mask", "thing"]
theorem sc_product : FnScope N_product ["one", "other"] (defScope s_product) := ⟨rfl, rfl, rfl, by decide +kernel, rfl, by decide +kernel, by decide +kernel⟩
-- slots: 0 one, 1 other, 2 many, 3 masks, 4 first, 5 second, 6 mask, 7 thing
def spProd (T : Tbs) (K : PySem.W.Frag) : Sp := fun vs H Q _ => ∃ (p : Addr) (O : List Nat) (r : Addr) (R : List Nat), vs = [.ref p, .ref r] ∧ OrdAt K H p O ∧ OrdAt K H r R ∧ O.length * R.length ≤ 16 ∧
  ∀ t H', Ext T H H' → H t = none → H' t = some (.tup (nats (prodO O R))) → Q (.ref t) H'
theorem shl_cp {s i m : Nat} (hs : s < 2 ^ 16) (hi : i ≤ 16) (hm : m ≤ 16) : CPow (s : Int) ((i : Int) * (m : Int)) := by
  have h2 : i * m ≤ 16 * 16 := Nat.mul_le_mul hi hm
  have h3 : ((i : Int) * (m : Int)) = ((i * m : Nat) : Int) := (Int.natCast_mul i m).symm
  refine ⟨by rw [h3]; exact Int.natCast_nonneg _, by rw [h3]; omega, ?_⟩
  rw [Int.natAbs_natCast]
  omega
theorem or_shl (x s i m : Nat) : Builtin.bitOr (x : Int) ((s : Int) * 2 ^ ((i : Int) * (m : Int)).toNat) = ((x ||| s * 2 ^ (i * m) : Nat) : Int) := by
  rw [show ((i : Int) * (m : Int)) = ((i * m : Nat) : Int) from (Int.natCast_mul i m).symm, shl_nat, or_nat]
theorem ok_product (B : Blt mg) (D : DefAt K mg "product" s_product) (g_ask_many : Calls P w K mg base 1 "ask_many" ["many"] spAskMany) (g_things_in : Calls P w K mg base 1 "things_in" ["mask"] (spThings T)) : Calls P w K mg base 2 "product" ["one", "other"] (spProd T K) := by
  refine D.ok sc_product (fun vs H Q E h => ?_) (fun _ _ _ _ _ _ us hl => match us, hl with | [_, _], _ => rfl) (fun f cdv A outer s H vs Q E hr h => ?_)
  · obtain ⟨p, O, r, R, rfl, hO, hR, hnm, q⟩ := h; rfl
  obtain ⟨p, O, r, R, rfl, hO, hR, hnm, q⟩ := h
  have nd := sc_product.nd
  have hu := hu_of hr
  refine ⟨_, (pss_cons (ps_set (i := 2) nd rfl (Or.inl rfl) (pe_callB (r := rLenK K) call_lenK (by rfl) B.len PySem.boot_len (pa_cons (pv 1) pa_nil)))
      (pss_cons (ps_expr (pe_callD g_ask_many (hr.mono (by decide)) rfl (pa_cons (pe_op op_mul (pe_callB (r := rLenK K) call_lenK (by rfl) B.len PySem.boot_len (pa_cons (pv 0) pa_nil)) (pv 2)) pa_nil)))
      (pss_cons (ps_set (i := 3) nd rfl (Or.inl rfl) (pe_lst pa_nil))
      (pss_cons (ps_for PassesOwn.never rfl (pi_tup (pv 0)) (pg_name (i := 4) nd rfl (Or.inl rfl))
        (pss_one (ps_for PassesOwn.never rfl (pi_tup (pv 1)) (pg_name (i := 5) nd rfl (Or.inl rfl))
          (pss_cons (ps_set (i := 6) nd rfl (Or.inl rfl) pe_int)
          (pss_cons (ps_for PassesOwn.never rfl (pi_list (pe_callD g_things_in (hr.mono (by decide)) rfl (pa_cons (pv 4) pa_nil))) (pg_name (i := 7) nd rfl (Or.inl rfl))
            (pss_one (ps_set (i := 6) nd rfl (Or.inl rfl) (pe_op op_or (pv 6) (pe_op op_shl (pv 5) (pe_op op_mul (pv 7) (pv 2)))))))
          (pss_one (ps_expr (pe_bm PySem.F.plainAttrs_list PySem.F.slot_list_append PySem.F.type_list_append mt_append (pv 3) (pa_cons (pv 6) pa_nil)))))))))
      (pss_one (ps_ret (pe_callTy call_tuple_of (by rfl) B.tuple (by decide +kernel) (pa_cons (pv 3) pa_nil)))))))), ?_⟩
  have hlen := hO.len
  have hlenR := hR.len
  refine e_seq (e_set (vv_lenO rfl hR _ ?_))
  try dsimp only
  refine e_seq (e_drop (e_call (e_cons (e_op (vv_lenO rfl hO _ (e_var rfl ⟨_, _, rfl, rfl, cmul16 hlen, e_nil ⟨O.length * R.length, ?_, hnm, ?_⟩⟩))))))
  · show [V.int ((O.length : Int) * (R.length : Int))] ++ [] = _
    rw [← Int.natCast_mul]; rfl
  try dsimp only
  refine e_seq (s_newL fun l hl => ?_)
  have e1 : Ext T H (upd H l (.lst [])) := .new hl
  try dsimp only
  refine e_seq (e_for ⟨_, rfl, p, rfl, ⟨_, (hO.ext e1).tup⟩, for_tup (xs := nats O) (fun a σ H' => ∃ x y z u, σ = [some (.ref p), some (.ref r), some (iv R.length), some (.ref l), x, y, z, u] ∧ Ext T H H' ∧ H' l = some (.lst (nats ((List.range (a * R.length)).map (fP O R)))))
    ⟨none, none, none, none, rfl, e1, by rw [upd_same, Nat.zero_mul]; rfl⟩ (fun i σ H' _ ⟨_, _, _, _, _, e, _⟩ => (hO.ext e).tup) ?_ ?_⟩)
  · rintro a v σ H1 hi ⟨x, y, z, u, rfl, e2, hL⟩
    have ha : a < O.length := by have := (List.getElem?_eq_some_iff.mp hi).1; rw [nats_len] at this; exact this
    rw [nats_getD ha] at hi
    have hv : iv (O.getD a 0) = v := Option.some.inj hi
    subst hv
    try dsimp only
    refine e_for ⟨_, rfl, r, rfl, ⟨_, (hR.ext e2).tup⟩, for_tup (xs := nats R) (fun b σ H' => ∃ y z u, σ = [some (.ref p), some (.ref r), some (iv R.length), some (.ref l), some (iv (O.getD a 0)), y, z, u] ∧ Ext T H H' ∧ H' l = some (.lst (nats ((List.range (a * R.length + b)).map (fP O R)))))
      ⟨y, z, u, rfl, e2, hL⟩ (fun i σ H' _ ⟨_, _, _, _, e, _⟩ => (hR.ext e).tup) ?_ ?_⟩
    · rintro b v σ H2 hi2 ⟨y, z, u, rfl, e3, hL3⟩
      have hb : b < R.length := by have := (List.getElem?_eq_some_iff.mp hi2).1; rw [nats_len] at this; exact this
      rw [nats_getD hb] at hi2
      have hv : iv (R.getD b 0) = v := Option.some.inj hi2
      subst hv
      try dsimp only
      refine e_seq (s_set vv_c ?_)
      try dsimp only
      refine e_seq (e_for (e_iL (e_call ⟨_, rfl, _, O.length, rfl, hO.bd a, by omega, fun tl H3 e4 _ htl => ⟨tl, rfl, ⟨_, SqL.of htl⟩, for_list (xs := nats (bits (O.getD a 0) O.length)) (fun i σ H' => ∃ u, σ = [some (.ref p), some (.ref r), some (iv R.length), some (.ref l), some (iv (O.getD a 0)), some (iv (R.getD b 0)), some (iv (gthr R.length (R.getD b 0) ((bits (O.getD a 0) O.length).take i))), u] ∧ H' = H3)
        ⟨u, rfl, rfl⟩ (fun i σ H' _ ⟨_, _, h⟩ => by rw [h]; exact SqL.of htl) ?_ ?_⟩⟩)))
      · rintro i v σ H4 hi4 ⟨u, rfl, rfl⟩
        obtain ⟨k, hk, rfl⟩ := nats_get hi4
        have hkb := mem_bits.mp (List.mem_of_getElem? hk)
        have hRb : R.getD b 0 < 2 ^ 16 := Nat.lt_of_lt_of_le (hR.bd b) (Nat.pow_le_pow_right (by decide) hlenR)
        refine ⟨_, rfl, _, rfl, _, rfl, _, rfl, _, _, rfl, rfl, cmul16 (by omega), _, _, rfl, rfl, shl_cp hRb (by omega) hlenR, _, _, rfl, rfl, some (iv k), ?_, rfl⟩
        show [_, _, _, _, _, _, some (V.int (Builtin.bitOr _ _)), _] = _
        rw [or_shl, take_snoc hk]
        show _ = [_, _, _, _, _, _, some (iv (gthr _ _ (_ ++ [k]))), _]
        unfold gthr
        rw [List.foldl_append]
        rfl
      · rintro σ H4 ⟨u, rfl, rfl⟩
        rw [nats_len, List.take_length, gthr_mk (hO.bd a) (hR.bd b)]
        have hlH : H l = none := hl
        refine s_app (e4.lst hL3) (vv_var rfl) (vv_var rfl) ?_ ⟨_, _, _, rfl, (e3.trans e4).mutL hlH (e4.lst hL3), ?_⟩
        · rw [nats_len, List.length_map, List.length_range]
          have : a * R.length ≤ 16 * 16 := Nat.mul_le_mul (by omega) hlenR
          omega
        · rw [upd_same, block_step O R hb, ← nats_app]; rfl
    · rintro σ H2 ⟨y, z, u, rfl, e3, hL3⟩
      refine ⟨_, _, _, _, rfl, e3, ?_⟩
      rw [nats_len, ← Nat.succ_mul] at hL3
      exact hL3
  · rintro σ H1 ⟨x, y, z, u, rfl, e2, hL⟩
    rw [nats_len] at hL
    exact ⟨_, rfl, l, _, rfl, .inl ⟨SqL.of hL, fun t ht => q t _ (e2.newer ht) (e2.back ht) upd_same⟩⟩
abbrev s__law_product : Stmt := top 118
abbrev N__law_product : List Str := ["_law_one", "_law_other", "_law_masks", "_law_a", "_law_b", "_law_mask", "_law_k"]
theorem sc__law_product : FnScope N__law_product ["_law_one", "_law_other"] (defScope s__law_product) := ⟨rfl, rfl, rfl, by decide +kernel, rfl, by decide +kernel, by decide +kernel⟩
-- slots: 0 _law_one, 1 _law_other, 2 _law_masks, 3 _law_a, 4 _law_b, 5 _law_mask, 6 _law_k
theorem bit_testI (m t : Nat) (x : Int) (h : x = (t : Int)) : decide (V.int (Builtin.bitAnd ((m : Int) / 2 ^ x.toNat) 1) = V.int 1) = m.testBit t := by
  subst h
  exact bit_test m t
theorem ok__law_product (B : Blt mg) (D : DefAt K mg "_law_product" s__law_product) : Calls P w K mg base 1 "_law_product" ["_law_one", "_law_other"] (spProd T K) := by
  refine D.ok sc__law_product (fun vs H Q E h => ?_) (fun _ _ _ _ _ _ us hl => match us, hl with | [_, _], _ => rfl) (fun f cdv A outer s H vs Q E hr h => ?_)
  · obtain ⟨p, O, r, R, rfl, hO, hR, hnm, q⟩ := h; rfl
  obtain ⟨p, O, r, R, rfl, hO, hR, hnm, q⟩ := h
  have nd := sc__law_product.nd
  have hu := hu_of hr
  refine ⟨_, (pss_cons (ps_set (i := 2) nd rfl (Or.inl rfl) (pe_lst pa_nil))
      (pss_cons (ps_for PassesOwn.never rfl (pi_range1 (by rfl) B.range (pa_cons (pe_callB (r := rLenK K) call_lenK (by rfl) B.len PySem.boot_len (pa_cons (pv 0) pa_nil)) pa_nil)) (pg_name (i := 3) nd rfl (Or.inl rfl))
        (pss_one (ps_for PassesOwn.never rfl (pi_range1 (by rfl) B.range (pa_cons (pe_callB (r := rLenK K) call_lenK (by rfl) B.len PySem.boot_len (pa_cons (pv 1) pa_nil)) pa_nil)) (pg_name (i := 4) nd rfl (Or.inl rfl))
          (pss_cons (ps_set (i := 5) nd rfl (Or.inl rfl) pe_int)
          (pss_cons (ps_for PassesOwn.never rfl (pi_range1 (by rfl) B.range (pa_cons (pe_op op_mul (pe_callB (r := rLenK K) call_lenK (by rfl) B.len PySem.boot_len (pa_cons (pv 0) pa_nil)) (pe_callB (r := rLenK K) call_lenK (by rfl) B.len PySem.boot_len (pa_cons (pv 1) pa_nil))) pa_nil)) (pg_name (i := 6) nd rfl (Or.inl rfl))
            (pss_one (ps_if (PW.pt (pw_and (pt_cmpR op_eq (pe_op op_and (pe_op op_shr (pe_ix (r := rIxT K) ix_tup (pv 0) (pv 3) (fun _ _ => rfl)) (pe_op op_fdiv (pv 6) (pe_callB (r := rLenK K) call_lenK (by rfl) B.len PySem.boot_len (pa_cons (pv 1) pa_nil)))) pe_int) pe_int (nomark _)) (pw_and1 (pt_cmpR op_eq (pe_op op_and (pe_op op_shr (pe_ix (r := rIxT K) ix_tup (pv 1) (pv 4) (fun _ _ => rfl)) (pe_op op_mod (pv 6) (pe_callB (r := rLenK K) call_lenK (by rfl) B.len PySem.boot_len (pa_cons (pv 1) pa_nil)))) pe_int) pe_int (nomark _)))))
              (pss_one (ps_set (i := 5) nd rfl (Or.inl rfl) (pe_op op_or (pv 5) (pe_op op_shl pe_int (pv 6)))))
              pss_nil)))
          (pss_one (ps_expr (pe_bm PySem.F.plainAttrs_list PySem.F.slot_list_append PySem.F.type_list_append mt_append (pv 2) (pa_cons (pv 5) pa_nil)))))))))
      (pss_one (ps_ret (pe_callTy call_tuple_of (by rfl) B.tuple (by decide +kernel) (pa_cons (pv 2) pa_nil)))))), ?_⟩
  have hlen := hO.len
  have hlenR := hR.len
  refine e_seq (s_newL fun l hl => ?_)
  have e1 : Ext T H (upd H l (.lst [])) := .new hl
  try dsimp only
  refine e_seq (for_rng (T := T) O.length (by omega) (al_lenO rfl (hO.ext e1)) (fun a σ H' => ∃ x y z u, σ = [some (.ref p), some (.ref r), some (.ref l), x, y, z, u] ∧ Ext T H H' ∧ H' l = some (.lst (nats ((List.range (a * R.length)).map (fP O R))))) ?_ ?_ ?_)
  · intro H1 e2
    exact ⟨none, none, none, none, rfl, e1.trans e2, by rw [e2.lst upd_same, Nat.zero_mul]; rfl⟩
  · rintro a σ H1 ha ⟨x, y, z, u, rfl, e2, hL⟩
    try dsimp only
    refine for_rng (T := T) R.length (by omega) (al_lenO rfl (hR.ext e2)) (fun b σ H' => ∃ y z u, σ = [some (.ref p), some (.ref r), some (.ref l), some (iv a), y, z, u] ∧ Ext T H H' ∧ H' l = some (.lst (nats ((List.range (a * R.length + b)).map (fP O R))))) ?_ ?_ ?_
    · intro H2 e3
      exact ⟨y, z, u, rfl, e2.trans e3, e3.lst hL⟩
    · rintro b σ H2 hb ⟨y, z, u, rfl, e3, hL3⟩
      try dsimp only
      refine e_seq (s_set vv_c ?_)
      try dsimp only
      have hO3 := hO.ext e3
      have hR3 := hR.ext e3
      refine e_seq (for_rng (T := T) (O.length * R.length) (by omega) ?_ (fun k σ H' => ∃ u, σ = [some (.ref p), some (.ref r), some (.ref l), some (iv a), some (iv b), some (iv (setOf ((List.range k).filter (cndP O R a b)))), u] ∧ Ext T H2 H') ?_ ?_ ?_)
      · refine fun Q' q' => e_cons (e_op (vv_lenO rfl hO3 _ (vv_lenO rfl hR3 _ ⟨_, _, rfl, rfl, cmul16 hlen, e_nil ?_⟩)))
        show Q' [V.int ((O.length : Int) * (R.length : Int))] H2
        rw [← Int.natCast_mul]
        exact q' H2 .refl
      · intro H3 e4
        exact ⟨u, rfl, e4⟩
      · rintro k σ H3 hk ⟨u, rfl, e4⟩
        have hm : 0 < R.length := by omega
        have hO4 := hO3.ext e4
        have hR4 := hR3.ext e4
        have hkd : ((k : Int) / (R.length : Int)) = ((k / R.length : Nat) : Int) := (Int.natCast_ediv k R.length).symm
        have hkm : ((k : Int) % (R.length : Int)) = ((k % R.length : Nat) : Int) := (Int.natCast_emod k R.length).symm
        refine s_if (b1 := cndP O R a b k) ?_ (fun hc => ?_) (fun hc => ?_)
        · unfold cndP
          refine tt_and (tt_is (tt_test (vv_op (z := .bl (decide (V.int (Builtin.bitAnd ((O.getD a 0 : Int) / 2 ^ ((k : Int) / (R.length : Int)).toNat) 1) = V.int 1))) (vv_I0 (vv_I ?_ (vv_ixO (vv_var rfl) (vv_var rfl) hO4 ha) (vv_I ⟨?_, ?_⟩ (vv_var rfl) (vv_lenO rfl hR4))) vv_c) vv_c fun _ q => ⟨rfl, q⟩)) ?_) fun _ =>
            tt_is (tt_test (vv_op (z := .bl (decide (V.int (Builtin.bitAnd ((R.getD b 0 : Int) / 2 ^ ((k : Int) % (R.length : Int)).toNat) 1) = V.int 1))) (vv_I0 (vv_I ?_ (vv_ixO (vv_var rfl) (vv_var rfl) hR4 hb) (vv_I ?_ (vv_var rfl) (vv_lenO rfl hR4))) vv_c) vv_c fun _ q => ⟨rfl, q⟩)) ?_
          · rw [hkd]; exact Int.natCast_nonneg _
          · omega
          · omega
          · exact bit_testI _ _ _ hkd
          · rw [hkm]; exact Int.natCast_nonneg _
          · omega
          · exact bit_testI _ _ _ hkm
        · refine ⟨_, rfl, _, rfl, _, _, rfl, rfl, cpow1 (by omega), _, _, rfl, rfl, some (iv k), ?_, e4⟩
          show [_, _, _, _, _, some (V.int (Builtin.bitOr _ _)), _] = _
          rw [or_bit, setOf_filt, if_pos hc]
        · refine ⟨some (iv k), ?_, e4⟩
          rw [setOf_filt, if_neg (by rw [hc]; decide)]
          rfl
      · rintro σ H3 ⟨u, rfl, e4⟩
        have hlH : H l = none := hl
        refine s_app (e4.lst hL3) (vv_var rfl) (vv_var rfl) ?_ ⟨_, _, _, rfl, (e3.trans e4).mutL hlH (e4.lst hL3), ?_⟩
        · rw [nats_len, List.length_map, List.length_range]
          have : a * R.length ≤ 16 * 16 := Nat.mul_le_mul (by omega) hlenR
          omega
        · rw [upd_same, block_step O R hb, ← nats_app]; rfl
    · rintro σ H2 ⟨y, z, u, rfl, e3, hL3⟩
      refine ⟨_, _, _, _, rfl, e3, ?_⟩
      rw [← Nat.succ_mul] at hL3
      exact hL3
  · rintro σ H1 ⟨x, y, z, u, rfl, e2, hL⟩
    exact ⟨_, rfl, l, _, rfl, .inl ⟨SqL.of hL, fun t ht => q t _ (e2.newer ht) (e2.back ht) upd_same⟩⟩
end
end SW

/-! ## SwY -/
/-! writing.py: is_name, words_in, names_in. -/
namespace SW
open PySem PySem.Spec PyProof.Rows L2 Bits TL
structure NameOk (s : Str) : Prop where
  let_ : ∀ c ∈ tl s, 97 ≤ c ∧ c ≤ 122
  lo : 1 ≤ s.length
  hi : s.length ≤ 8
structure Nms (ns : List Str) (n : Nat) : Prop where
  len : ns.length = n
  ok : ∀ s ∈ ns, NameOk s
  nd : ns.Nodup
theorem Nms.toOk {ns : List Str} {n : Nat} (h : Nms ns n) : NmsOk ns n := ⟨h.len, fun s hs => (h.ok s hs).hi⟩
theorem lets_tl : tl ("abcdefghijklmnopqrstuvwxyz" : Str) = List.range' 97 26 := by decide +kernel
def wordsOf (row : Str) : List Str := (Txt.split row " ").filter fun w => decide (w ≠ ("" : Str))
theorem dec_ne_str (a b : Str) : (!decide (V.str a = V.str b)) = decide (a ≠ b) := by
  by_cases h : a = b
  · subst h; simp
  · have : ¬ V.str a = V.str b := fun e => h (by injection e)
    simp [h, this]
theorem dec_eq_str (a b : Str) : decide (V.str a = V.str b) = decide (a = b) := by
  by_cases h : a = b
  · subst h; simp
  · have : ¬ V.str a = V.str b := fun e => h (by injection e)
    simp [h, this]
section
variable {σ : L2.St} {H : Hp} {ta tb : TE} {c : TT}
theorem tt_neS {a b : Str} (ha : Vv ta σ H (.str a)) (hb : Vv tb σ H (.str b)) : Tt (tTest (tOp rNe ta tb)) σ H (decide (a ≠ b)) :=
  tt_is (tt_test (vv_op (z := .bl (!decide (V.str a = V.str b))) ha hb fun _ q => ⟨rfl, q⟩)) (dec_ne_str a b)
theorem tt_eqS {a b : Str} (ha : Vv ta σ H (.str a)) (hb : Vv tb σ H (.str b)) : Tt (tTest (tOp rEq ta tb)) σ H (decide (a = b)) :=
  tt_is (tt_test (vv_op (z := .bl (decide (V.str a = V.str b))) ha hb fun _ q => ⟨rfl, q⟩)) (dec_eq_str a b)
theorem e_dnew {Q : VK} (h : ∀ p, H p = none → Q (.ref p) (upd H p (.dK []))) : tDNewK σ H Q := h
theorem e_or_f {c2 : TT} {B : Bool → Hp → Prop} (h1 : Tt c σ H false) (h2 : c2 σ H B) : tOr c c2 σ H B := h1 _ (iteF h2)
end
theorem cut_hd (x : V) (r : List V) : cutV (x :: r) none (some 1) = [x] := by
  unfold cutV
  rw [show (1 : Int) = ((1 : Nat) : Int) from rfl, HT.sIx_nat, HT.sIx_none]
  simp
theorem cut_tl (x : V) (r : List V) : cutV (x :: r) (some 1) none = r := by
  unfold cutV
  rw [show (1 : Int) = ((1 : Nat) : Int) from rfl, HT.sIx_nat, HT.sIx_none]
  simp
/-! ### the numbers of the names -/
def numD (ns : List Str) (k : Nat) : List (Key × V) := (List.range k).map fun i => ((Sum.inr (nmOf ns i) : Key), iv i)
theorem numD_len (ns : List Str) (k : Nat) : (numD ns k).length = k := by unfold numD; rw [List.length_map, List.length_range]
theorem nm_inj {ns : List Str} {n i j : Nat} (h : Nms ns n) (hi : i < n) (hj : j < n) (e : nmOf ns i = nmOf ns j) : i = j := by
  unfold nmOf at e
  rw [← h.len] at hi hj
  rw [List.getD_eq_getElem?_getD, List.getD_eq_getElem?_getD, List.getElem?_eq_getElem hi, List.getElem?_eq_getElem hj] at e
  exact (List.getElem?_inj hi h.nd).mp (by rw [List.getElem?_eq_getElem hi, List.getElem?_eq_getElem hj]; exact congrArg some e)
theorem valV_append {kvs ls : List (Key × V)} {k : Key} (h : ∀ p ∈ kvs, p.1 ≠ k) : valV (kvs ++ ls) k = valV ls k := by
  induction kvs with
  | nil => rfl
  | cons p r ih =>
    rw [List.cons_append, valV_neg (h p List.mem_cons_self)]
    exact ih fun q hq => h q (List.mem_cons_of_mem _ hq)
theorem numD_at {ns : List Str} {n : Nat} (h : Nms ns n) : ∀ k, k ≤ n → ∀ i, i < n → valV (numD ns k) (.inr (nmOf ns i)) = if i < k then some (iv i) else none
  | 0, _, i, _ => by rw [if_neg (Nat.not_lt_zero _)]; rfl
  | k + 1, hk, i, hi => by
    have ih := numD_at h k (by omega) i hi
    have e : numD ns (k + 1) = numD ns k ++ [((Sum.inr (nmOf ns k) : Key), iv k)] := by unfold numD; rw [List.range_succ, List.map_append]; rfl
    have hne : ∀ p ∈ numD ns k, p.1 = (.inr (nmOf ns i) : Key) → i < k := fun p hp e => by
      obtain ⟨j, hj, rfl⟩ := List.mem_map.mp hp
      have hj := List.mem_range.mp hj
      have : nmOf ns j = nmOf ns i := by injection e
      have := nm_inj h (by omega) hi this
      omega
    rw [e]
    by_cases q : i < k
    · rw [if_pos (by omega)]
      rw [if_pos q] at ih
      have : ∀ (kvs ls : List (Key × V)) (k : Key) (v : V), valV kvs k = some v → valV (kvs ++ ls) k = some v := by
        intro kvs ls k v
        induction kvs with
        | nil => intro h; cases h
        | cons p r ih2 =>
          intro h
          by_cases z : p.1 = k
          · rw [List.cons_append, valV_pos z]
            rw [valV_pos z] at h
            exact h
          · rw [List.cons_append, valV_neg z]
            rw [valV_neg z] at h
            exact ih2 h
      exact this _ _ _ _ ih
    · rw [valV_append fun p hp e => q (hne p hp e)]
      by_cases z : i = k
      · subst z
        rw [if_pos (by omega), valV_pos rfl]
      · rw [if_neg (by omega), valV_neg fun e => z (by
          have : nmOf ns k = nmOf ns i := by injection e
          exact (nm_inj h (by omega) hi this).symm)]
        rfl
theorem numD_put {ns : List Str} {n k : Nat} (h : Nms ns n) (hk : k < n) : putK (numD ns k) (.inr (nmOf ns k)) (iv k) = numD ns (k + 1) := by
  unfold putK
  rw [if_neg]
  · unfold numD; rw [List.range_succ, List.map_append]; rfl
  · intro hany
    obtain ⟨p, hp, e⟩ := List.any_eq_true.mp hany
    obtain ⟨j, hj, rfl⟩ := List.mem_map.mp hp
    have hj := List.mem_range.mp hj
    have e := of_decide_eq_true e
    have : nmOf ns j = nmOf ns k := by injection e
    have := nm_inj h (by omega) hk this
    omega
theorem numD_keys {ns : List Str} {n : Nat} (h : ns.length = n) : (numD ns n).map (fun kv => kV kv.1) = txts ns := by
  subst h
  unfold numD
  rw [List.map_map]
  apply List.ext_getElem?
  intro i
  rw [List.getElem?_map, List.getElem?_map]
  by_cases hi : i < ns.length
  · rw [List.getElem?_range hi, List.getElem?_eq_getElem hi]
    show some (V.str (nmOf ns i)) = some (V.str ns[i])
    unfold nmOf
    rw [List.getD_eq_getElem?_getD, List.getElem?_eq_getElem hi]
    rfl
  · rw [List.getElem?_eq_none (by rw [List.length_range]; omega), List.getElem?_eq_none (by omega)]
    rfl
section
variable {P : Program} {w : World} {K : PySem.W.Frag} {mg : Str → Option Value} {base : Heap} {T : Tbs}
/-- a new list of texts is handed back -/
def RetSs (T : Tbs) (H : Hp) (Q : VK) (l : List Str) : Prop := ∀ p H', Ext T H H' → H p = none → H' p = some (.lst (txts l)) → Q (.ref p) H'
abbrev s_is_name : Stmt := top 86
abbrev N_is_name : List Str := ["word", "sign"]
theorem sc_is_name : FnScope N_is_name ["word"] (defScope s_is_name) := ⟨rfl, rfl, rfl, by decide +kernel, rfl, by decide +kernel, by decide +kernel⟩
-- slots: 0 word, 1 sign
def spIsName : Sp := fun vs H Q _ => ∃ s : Str, vs = [.str s] ∧ NameOk s ∧ Q (.bl true) H
theorem ok_is_name (B : Blt mg) (G : Cst mg) (D : DefAt K mg "is_name" s_is_name) : Calls P w K mg base 1 "is_name" ["word"] spIsName := by
  refine D.ok sc_is_name (fun vs H Q E h => ?_) (fun _ _ _ _ _ _ us hl => match us, hl with | [_], _ => rfl) (fun f cdv A outer s H vs Q E hr h => ?_)
  · obtain ⟨s, rfl, hs, q⟩ := h; rfl
  obtain ⟨s, rfl, hs, q⟩ := h
  have nd := sc_is_name.nd
  have hu := hu_of hr
  refine ⟨_, (pss_cons (ps_for PassesOwn.never rfl (pi_str (pv 0)) (pg_name (i := 1) nd rfl (Or.inl rfl))
        (pss_one (ps_if (pt_cmpR op_notIn_sign (pv 1) (pe_cst G.cLETTERS rfl) rfl)
          (pss_one (ps_ret pe_bl))
          pss_nil)))
      (pss_one (ps_ret (pe_chain op_le op_le pe_int (pe_callB call_len_str (by rfl) B.len PySem.boot_len (pa_cons (pv 0) pa_nil)) (pe_cst G.cLONGEST rfl))))), ?_⟩
  refine e_seq (e_for ⟨_, rfl, s, rfl, for_it (walk_str (z := s)) (fun i σ H' => ∃ x, σ = [some (.str s), x] ∧ H' = H) ⟨none, rfl, rfl⟩ (fun _ _ _ _ _ => trivial) ?_ ?_⟩)
  · rintro i v σ H1 H2 hi ⟨x, rfl, rfl⟩ ⟨rfl, c, hc, rfl⟩
    have hm : c ∈ tl s := List.mem_of_getElem? (i := i) (by rw [← hc]; simp)
    have hl := hs.let_ c hm
    have hin : c ∈ tl ("abcdefghijklmnopqrstuvwxyz" : Str) := by
      rw [lets_tl, List.mem_range'_1]
      omega
    refine s_if (b1 := false) (fun B' q' => ⟨_, rfl, c, _, rfl, rfl, _, rfl, ?_⟩) (fun h => by cases h) (fun _ => ⟨_, rfl, rfl⟩)
    show B' (!decide (c ∈ tl ("abcdefghijklmnopqrstuvwxyz" : Str))) _
    rw [decide_eq_true hin]
    exact q'
  · rintro σ H1 ⟨x, rfl, rfl⟩
    have h1 := hs.lo
    have h2 := hs.hi
    refine ⟨_, rfl, s, rfl, small (by omega), _, _, rfl, rfl, _, rfl, ?_⟩
    rw [show decide ((1 : Int) ≤ (s.length : Nat)) = true from decide_eq_true (by omega)]
    refine iteT ⟨_, _, rfl, rfl, ?_⟩
    show Q (V.bl (decide (((s.length : Nat) : Int) ≤ 8))) H1
    rw [decide_eq_true (by omega : ((s.length : Nat) : Int) ≤ 8)]
    exact q
abbrev s_words_in : Stmt := top 88
abbrev N_words_in : List Str := ["row", "word"]
theorem sc_words_in : FnScope N_words_in ["row"] (defScope s_words_in) := ⟨rfl, rfl, rfl, by decide +kernel, rfl, by decide +kernel, by decide +kernel⟩
-- slots: 0 row, 1 word
def spWords (T : Tbs) : Sp := fun vs H Q _ => ∃ s : Str, vs = [.str s] ∧ s.length ≤ 30000 ∧ RetSs T H Q (wordsOf s)
theorem ok_words_in (D : DefAt K mg "words_in" s_words_in) : Calls P w K mg base 1 "words_in" ["row"] (spWords T) := by
  refine D.ok sc_words_in (fun vs H Q E h => ?_) (fun _ _ _ _ _ _ us hl => match us, hl with | [_], _ => rfl) (fun f cdv A outer s H vs Q E hr h => ?_)
  · obtain ⟨s, rfl, hs, q⟩ := h; rfl
  obtain ⟨s, rfl, hs, q⟩ := h
  have nd := sc_words_in.nd
  have hu := hu_of hr
  refine ⟨_, (pss_one (ps_ret (pe_lc (own := [("word", 1)]) (g := gName 1) rfl nd (pi_list (pe_split (pv 0) pe_str)) (blkOk_by (own := [("word", 1)]) (N := N_words_in) (sc := defScope s_words_in) (by decide +kernel)) (fun _ _ _ _ _ => pg_name (i := 1) nd rfl (Or.inl rfl)) (fun _ _ _ _ _ => pts_one (pt_cmpR op_ne (pv 1) pe_str (nomark _))) (fun _ _ _ _ _ => (pv 1))))), ?_⟩
  refine e_ret ?_
  have hl := PyProof.Rows.split_le s " "
  refine lc_ls (T := T) (K := K) (Txt.split s " ") V.str (fun w => decide (w ≠ ("" : Str))) V.str (by omega) (fun R' r' => ⟨_, rfl, ⟨_, rfl⟩, s, " ", rfl, rfl, by decide +kernel, small (by omega), fun p hp => r' p _ (.new hp) (SqL.of upd_same)⟩) (fun _ => rfl) ?_ (fun _ _ _ _ _ _ => (vv_var rfl).l) (fun p H' e hp hL => q p H' e hp hL)
  intro i w H1 _ _
  exact (tt_neS (vv_var rfl) vv_c).l
abbrev s_names_in : Stmt := top 89
abbrev N_names_in : List Str := ["words", "numbers", "name"]
theorem sc_names_in : FnScope N_names_in ["words"] (defScope s_names_in) := ⟨rfl, rfl, rfl, by decide +kernel, rfl, by decide +kernel, by decide +kernel⟩
-- slots: 0 words, 1 numbers, 2 name
def spNamesIn (T : Tbs) (K : PySem.W.Frag) : Sp := fun vs H Q _ => ∃ (p : Addr) (ns : List Str) (n : Nat), vs = [.ref p] ∧ H p = some (.lst (txts (("things" : Str) :: ns))) ∧ Nms ns n ∧ n ≤ 16 ∧
  ∀ d H', Ext T H H' → H d = none → H' d = some (.dK (numD ns n)) → Q (.ref d) H'
theorem name_strOk {s : Str} (h : NameOk s) : PyData.strOk s = true := by
  unfold PyData.strOk
  rw [← Array.all_toList, List.all_eq_true]
  intro c hc
  have := h.let_ c hc
  exact decide_eq_true (by omega)
theorem ok_names_in (B : Blt mg) (D : DefAt K mg "names_in" s_names_in) (g_is_name : Calls P w K mg base 1 "is_name" ["word"] spIsName) : Calls P w K mg base 2 "names_in" ["words"] (spNamesIn T K) := by
  refine D.ok sc_names_in (fun vs H Q E h => ?_) (fun _ _ _ _ _ _ us hl => match us, hl with | [_], _ => rfl) (fun f cdv A outer s H vs Q E hr h => ?_)
  · obtain ⟨p, ns, n, rfl, hp, hns, hn, q⟩ := h; rfl
  obtain ⟨p, ns, n, rfl, hp, hns, hn, q⟩ := h
  have nd := sc_names_in.nd
  have hu := hu_of hr
  refine ⟨_, (pss_cons (ps_if (pt_cmpR (op_neD hr.units) (pe_slice sl_list (pv 0) po_none (po_some pe_int)) (pe_lst (pa_cons pe_str pa_nil)) (nomark _))
        pss_never
        pss_nil)
      (pss_cons (ps_set (i := 1) nd rfl (Or.inl rfl) pe_dnewK)
      (pss_cons (ps_for PassesOwn.never rfl (pi_list (pe_slice sl_list (pv 0) (po_some pe_int) po_none)) (pg_name (i := 2) nd rfl (Or.inl rfl))
        (pss_cons (ps_if (PW.pt (pw_or (pt_not (pt_val (pe_callD g_is_name (hr.mono (by decide)) rfl (pa_cons (pv 2) pa_nil)))) (pw_or1 (pt_cmp (pc_din hu (pv 2) (pv 1))))))
          pss_never
          pss_nil)
        (pss_one (ps_dput hu (pv 1) (pv 2) (pe_callB call_lenD (by rfl) B.len PySem.boot_len (pa_cons (pv 1) pa_nil)) rfl))))
      (pss_one (ps_ret (pv 1)))))), ?_⟩
  have hsl : SqL K H p (txts (("things" : Str) :: ns)) := SqL.of hp
  refine e_seq (e_if (e_test (e_op ⟨_, rfl, 1, rfl, p, _, rfl, hsl, fun a ha => e_lst ⟨(by show 1 ≤ sizeLine; decide), fun b hb => ?_⟩⟩)))
  have hcut : cutV (txts (("things" : Str) :: ns)) none (some 1) = [V.str "things"] := cut_hd _ _
  rw [hcut] at hb ⊢
  have e1 : Ext T H (upd H a (.lst [V.str "things"])) := .new ha
  have e2 := e1.newer (o := .lst [V.str "things"]) hb
  refine ⟨.list (dS ["things"]), .list (dS ["things"]), .lst (SqL.of ((Ext.new (T := T) hb).lst upd_same)) (dpAll_strs ["things"]), .lst (SqL.of upd_same) (dpAll_strs ["things"]), by decide +kernel, by decide +kernel, _, rfl, ?_⟩
  refine iteF ?_
  try unfold tNext
  try dsimp only
  refine e_seq (e_set (e_dnew fun d hd => ?_))
  have hdH : H d = none := e2.back hd
  have e3 := e2.newer (o := .dK []) hd
  try dsimp only
  refine e_seq (e_for (e_iL ⟨_, rfl, 1, rfl, p, _, rfl, SqL.of (e3.lst hp), fun c hc => ⟨c, rfl, ⟨_, SqL.of upd_same⟩, ?_⟩⟩))
  have hcut2 : cutV (txts (("things" : Str) :: ns)) (some 1) none = txts ns := cut_tl _ _
  rw [hcut2]
  have e4 := e3.newer (o := .lst (txts ns)) hc
  have ncd : c ≠ d := fun z => by rw [z, upd_same] at hc; cases hc
  refine for_list (xs := txts ns) (fun k σ H' => ∃ x, σ = [some (.ref p), some (.ref d), x] ∧ Ext T H H' ∧ H' d = some (.dK (numD ns k)) ∧ H' c = some (.lst (txts ns))) ⟨none, rfl, e4, ?_, upd_same⟩ (fun i σ H' _ ⟨_, _, _, _, h⟩ => SqL.of h) ?_ ?_
  · rw [upd_ne (fun z => ncd z.symm), upd_same]; rfl
  · rintro k v σ H1 hi ⟨x, rfl, e5, hD, hC⟩
    have hk : k < n := by have := (List.getElem?_eq_some_iff.mp hi).1; rw [List.length_map, hns.len] at this; exact this
    rw [nm_get hns.toOk hk] at hi
    have hv : V.str (nmOf ns k) = v := Option.some.inj hi
    subst hv
    have hm : nmOf ns k ∈ ns := by
      unfold nmOf
      rw [List.getD_eq_getElem?_getD, List.getElem?_eq_getElem (by rw [hns.len]; exact hk)]
      exact List.getElem_mem _
    have hget : DGet H1 d (.str (nmOf ns k)) none := .inl ⟨_, .inr (nmOf ns k), .inl hD, rfl, by rw [numD_at hns k (by omega) k hk, if_neg (Nat.lt_irrefl _)]⟩
    try dsimp only
    refine e_seq (e_if (e_or_f (fun B' q' => ⟨_, rfl, _, rfl, hns.ok _ hm, _, rfl, q'⟩) ⟨_, rfl, _, rfl, d, none, rfl, hget, _, rfl, iteF ?_⟩))
    refine ⟨_, rfl, d, _, rfl, hD, _, rfl, _, rfl, d, _, rfl, .inl ⟨_, .inr (nmOf ns k), hD, rfl, ?_, rfl⟩, ?_⟩
    · rw [numD_len]
      exact smallt (by omega)
    · rw [numD_len]
      have hput := numD_put hns hk
      refine ⟨_, rfl, e5.mut hdH hD trivial, ?_, ?_⟩
      · rw [upd_same]
        exact congrArg some (congrArg HO.dK hput)
      · rw [upd_ne ncd]
        exact hC
  · rintro σ H1 ⟨x, rfl, e5, hD, hC⟩
    rw [List.length_map, hns.len] at hD
    exact ⟨_, rfl, q d H1 e5 hdH hD⟩
end
end SW

/-! ## SwZ -/
/-! writing.py: pairs_in. -/
namespace SW
open PySem PySem.Spec PyProof.Rows L2 Bits TL
def chW (ns : List Str) (c : List Nat) (k : Nat) : Str := if k % 2 = 1 then "<" else nmOf ns (c.getD (k / 2) 0)
/-- the words of a row that tells a chain -/
def chainW (ns : List Str) (c : List Nat) : List Str := (List.range (2 * c.length - 1)).map (chW ns c)
def chPairs (c : List Nat) : List (Nat × Nat) := (List.range (c.length - 1)).map fun i => (c.getD i 0, c.getD (i + 1) 0)
theorem chainW_len (ns : List Str) (c : List Nat) : (chainW ns c).length = 2 * c.length - 1 := by unfold chainW; rw [List.length_map, List.length_range]
theorem chainW_get (ns : List Str) {c : List Nat} {k : Nat} (h : k < 2 * c.length - 1) : (txts (chainW ns c))[k]? = some (.str (chW ns c k)) := by
  unfold chainW
  rw [List.getElem?_map, List.getElem?_map, List.getElem?_range h]
  rfl
def prsTo (c : List Nat) (k : Nat) : List (Nat × Nat) := (List.range ((k + 1) / 2 - 1)).map fun i => (c.getD i 0, c.getD (i + 1) 0)
theorem prsTo_step {c : List Nat} {k : Nat} : prsTo c (k + 1) = prsTo c k ++ if k % 2 = 0 ∧ 0 < k then [(c.getD (k / 2 - 1) 0, c.getD (k / 2) 0)] else [] := by
  unfold prsTo
  by_cases h : k % 2 = 0 ∧ 0 < k
  · rw [if_pos h, show (k + 1 + 1) / 2 - 1 = (k + 1) / 2 - 1 + 1 by omega, List.range_succ, List.map_append]
    congr 1
    show [(c.getD ((k + 1) / 2 - 1) 0, c.getD ((k + 1) / 2 - 1 + 1) 0)] = _
    rw [show (k + 1) / 2 - 1 = k / 2 - 1 by omega, show k / 2 - 1 + 1 = k / 2 by omega]
  · rw [if_neg h, List.append_nil, show (k + 1 + 1) / 2 - 1 = (k + 1) / 2 - 1 by omega]
theorem prsTo_all {c : List Nat} (h : 1 ≤ c.length) : prsTo c (2 * c.length - 1) = chPairs c := by
  unfold prsTo chPairs
  rw [show (2 * c.length - 1 + 1) / 2 - 1 = c.length - 1 by omega]
section
variable {P : Program} {w : World} {K : PySem.W.Frag} {mg : Str → Option Value} {base : Heap} {T : Tbs}
variable {σ : L2.St} {H : Hp} {ta tb : TE}
theorem vv_mod2 {k : Nat} (ha : Vv ta σ H (iv k)) : Vv (tOp (rI (fun _ j => 0 < j) fun i j => .int (i % j)) ta (tC (.int 2))) σ H (iv (k % 2)) :=
  vv_is (vv_I (j := 2) (by decide) ha vv_c) (by show V.int ((k : Int) % 2) = V.int ((k % 2 : Nat) : Int); congr 1)
theorem vv_dnotin {y v : V} {d : Addr} (hy : Vv ta σ H y) (hd : Vv tb σ H (.ref d)) (g : DGet H d y (some v)) : Vv (tDNotIn ta tb) σ H (.bl false) := fun Q q => hy _ (hd _ ⟨d, some v, rfl, g, q⟩)
theorem vv_dget {y v : V} {d : Addr} (hd : Vv tb σ H (.ref d)) (hy : Vv ta σ H y) (g : DGet H d y (some v)) : Vv (tDGet tb ta) σ H v := fun Q q => hd _ (hy _ ⟨d, v, rfl, g, q⟩)
theorem numD_get {ns : List Str} {n i : Nat} {d : Addr} (h : Nms ns n) (hi : i < n) (hd : H d = some (.dK (numD ns n))) : DGet H d (.str (nmOf ns i)) (some (iv i)) :=
  .inl ⟨_, .inr (nmOf ns i), .inl hd, rfl, by rw [numD_at h n (Nat.le_refl _) i hi, if_pos hi]⟩
abbrev s_pairs_in : Stmt := top 90
abbrev N_pairs_in : List Str := ["words", "numbers", "pairs", "k"]
theorem sc_pairs_in : FnScope N_pairs_in ["words", "numbers"] (defScope s_pairs_in) := ⟨rfl, rfl, rfl, by decide +kernel, rfl, by decide +kernel, by decide +kernel⟩
-- slots: 0 words, 1 numbers, 2 pairs, 3 k
def spPairsIn (T : Tbs) (K : PySem.W.Frag) : Sp := fun vs H Q _ => ∃ (p d : Addr) (ns : List Str) (n : Nat) (c : List Nat), vs = [.ref p, .ref d] ∧ H p = some (.lst (txts (chainW ns c))) ∧ H d = some (.dK (numD ns n)) ∧ Nms ns n ∧ 2 ≤ c.length ∧ c.length ≤ 1000 ∧ (∀ i ∈ c, i < n) ∧
  RetPrs T H Q (chPairs c)
theorem ok_pairs_in (B : Blt mg) (D : DefAt K mg "pairs_in" s_pairs_in) : Calls P w K mg base 1 "pairs_in" ["words", "numbers"] (spPairsIn T K) := by
  refine D.ok sc_pairs_in (fun vs H Q E h => ?_) (fun _ _ _ _ _ _ us hl => match us, hl with | [_, _], _ => rfl) (fun f cdv A outer s H vs Q E hr h => ?_)
  · obtain ⟨p, d, ns, n, c, rfl, hp, hd, hns, h2, hz, hc, q⟩ := h; rfl
  obtain ⟨p, d, ns, n, c, rfl, hp, hd, hns, h2, hz, hc, q⟩ := h
  have nd := sc_pairs_in.nd
  have hu := hu_of hr
  refine ⟨_, (pss_cons (ps_if (PW.pt (pw_or (pt_cmpR op_lt (pe_callB (r := rLenK K) call_lenK (by rfl) B.len PySem.boot_len (pa_cons (pv 0) pa_nil)) pe_int (nomark _)) (pw_or1 (pt_cmpR op_eq (pe_op op_mod (pe_callB (r := rLenK K) call_lenK (by rfl) B.len PySem.boot_len (pa_cons (pv 0) pa_nil)) pe_int) pe_int (nomark _)))))
        pss_never
        pss_nil)
      (pss_cons (ps_set (i := 2) nd rfl (Or.inl rfl) (pe_lst pa_nil))
      (pss_cons (ps_for PassesOwn.never rfl (pi_range1 (by rfl) B.range (pa_cons (pe_callB (r := rLenK K) call_lenK (by rfl) B.len PySem.boot_len (pa_cons (pv 0) pa_nil)) pa_nil)) (pg_name (i := 3) nd rfl (Or.inl rfl))
        (pss_cons (ps_if (PW.pt (pw_or (PW.pt (pw_and (pt_cmpR op_eq (pe_op op_mod (pv 3) pe_int) pe_int (nomark _)) (pw_and1 (pt_cmpR op_ne (pe_ix (r := rIxL K) ix_list (pv 0) (pv 3) (fun _ _ => rfl)) pe_str (nomark _))))) (pw_or1 (PW.pt (pw_and (pt_cmpR op_eq (pe_op op_mod (pv 3) pe_int) pe_int (nomark _)) (pw_and1 (pt_cmp (pc_dnotin hu (pe_ix (r := rIxL K) ix_list (pv 0) (pv 3) (fun _ _ => rfl)) (pv 1)))))))))
          pss_never
          pss_nil)
        (pss_one (ps_if (PW.pt (pw_and (pt_cmpR op_eq (pe_op op_mod (pv 3) pe_int) pe_int (nomark _)) (pw_and1 (pt_cmpR op_gt (pv 3) pe_int (nomark _)))))
          (pss_one (ps_expr (pe_bm PySem.F.plainAttrs_list PySem.F.slot_list_append PySem.F.type_list_append mt_append (pv 2) (pa_cons (pe_tup (pa_cons (pe_dget hu (pv 1) (pe_ix (r := rIxL K) ix_list (pv 0) (pe_op op_sub (pv 3) pe_int) (fun _ _ => rfl)) (fun _ _ => rfl)) (pa_cons (pe_dget hu (pv 1) (pe_ix (r := rIxL K) ix_list (pv 0) (pv 3) (fun _ _ => rfl)) (fun _ _ => rfl)) pa_nil))) pa_nil))))
          pss_nil))))
      (pss_one (ps_ret (pv 2)))))), ?_⟩
  have hlen : (txts (chainW ns c)).length = 2 * c.length - 1 := by rw [List.length_map, chainW_len]
  have vl : ∀ {σ : L2.St} {H : Hp}, σ[0]? = some (some (.ref p)) → H p = some (.lst (txts (chainW ns c))) → Vv (tCB (rLenK K) (tCons (tVar 0) tNil)) σ H (iv (2 * c.length - 1)) := fun h1 h2 => vv_is (vv_lenL h1 (SqL.of h2)) (by rw [hlen])
  have t1 : Tt (tOr (tTest (tOp (rI0 fun i j => .bl (decide (i < j))) (tCB (rLenK K) (tCons (tVar 0) tNil)) (tC (.int 3)))) (tTest (tOp rEq (tOp (rI (fun _ j => 0 < j) fun i j => .int (i % j)) (tCB (rLenK K) (tCons (tVar 0) tNil)) (tC (.int 2))) (tC (.int 0))))) (L2.start N_pairs_in [V.ref p, V.ref d]) H false := by
    refine tt_is (tt_or (tt_test (vv_I0 (i := ((2 * c.length - 1 : Nat) : Int)) (vl rfl hp) vv_c)) fun _ => tt_eq (b := 0) (vv_mod2 (vl rfl hp)) (vv_is vv_c rfl)) ?_
    rw [Bool.or_eq_false_iff]
    exact ⟨decide_eq_false (by omega), decide_eq_false (by omega)⟩
  refine e_seq (s_if t1 (fun h => by cases h) fun _ => ?_)
  try unfold tNext
  try dsimp only
  refine e_seq (s_newL fun l hl => ?_)
  have e1 : Ext T H (upd H l (.lst [])) := .new hl
  try dsimp only
  refine e_seq (for_rng (T := T) (2 * c.length - 1) (by omega) (fun Q' q' => e_cons (vl rfl (e1.lst hp) _ (e_nil (q' _ .refl)))) (fun k σ H' => ∃ x, σ = [some (.ref p), some (.ref d), some (.ref l), x] ∧ Ext T H H' ∧ LstOf IsPr H' l (prsTo c k)) ?_ ?_ ?_)
  · intro H1 e2
    exact ⟨none, rfl, e1.trans e2, [], e2.lst upd_same, .nil⟩
  · rintro k σ H1 hk ⟨x, rfl, e2, hL⟩
    have hp1 := e2.lst hp
    have hd1 := e2.dK hd
    have word : ∀ {σ : L2.St}, σ[0]? = some (some (.ref p)) → σ[3]? = some (some (iv k)) → Vv (tOp (rIxL K) (tVar 0) (tVar 3)) σ H1 (.str (chW ns c k)) := fun h1 h2 => vv_ixL (vv_var h1) (vv_var h2) (SqL.of hp1) (chainW_get ns hk)
    have hcget : ∀ i, i < c.length → c.getD i 0 < n := fun i hi => by
      rw [List.getD_eq_getElem?_getD, List.getElem?_eq_getElem hi]
      exact hc _ (List.getElem_mem hi)
    have hev : k % 2 = 0 → chW ns c k = nmOf ns (c.getD (k / 2) 0) := fun h => by unfold chW; rw [if_neg (by omega)]
    have hod : k % 2 = 1 → chW ns c k = "<" := fun h => by unfold chW; rw [if_pos h]
    try dsimp only
    refine e_seq (s_if (b1 := false) (tt_is (tt_or (tt_and (tt_eq (b := 1) (vv_mod2 (vv_var rfl)) (vv_is vv_c rfl)) fun _ => tt_neS (word rfl rfl) vv_c) fun _ => tt_and (tt_eq (b := 0) (vv_mod2 (vv_var rfl)) (vv_is vv_c rfl)) fun h => tt_tb (vv_dnotin (v := iv (c.getD (k / 2) 0)) (word rfl rfl) (vv_var rfl) ?_)) ?_) (fun h => by cases h) fun _ => ?_)
    · rw [hev (of_decide_eq_true h)]
      exact numD_get hns (hcget _ (by omega)) hd1
    · rw [Bool.and_false, Bool.or_false]
      by_cases h : k % 2 = 1
      · rw [hod h, decide_eq_false (p := ("<" : Str) ≠ "<") (fun z => z rfl), Bool.and_false]
      · rw [decide_eq_false h, Bool.false_and]
    · try unfold tNext
      try dsimp only
      obtain ⟨vs, hv, hpd⟩ := hL
      refine s_if (b1 := decide (k % 2 = 0) && decide (0 < k)) (tt_and (tt_eq (b := 0) (vv_mod2 (vv_var rfl)) (vv_is vv_c rfl)) fun _ => tt_is (tt_test (vv_I0 (vv_var rfl) vv_c)) ?_) (fun h => ?_) (fun h => ?_)
      · exact decide_eq_decide.mpr (by omega)
      · rw [Bool.and_eq_true, decide_eq_true_iff, decide_eq_true_iff] at h
        have hkm : ∀ {σ : L2.St}, σ[3]? = some (some (iv k)) → Vv (tOp (rI0 fun i j => V.int (i - j)) (tVar 3) (tC (.int 2))) σ H1 (iv (k - 2)) := fun h1 => vv_is (vv_I0 (vv_var h1) vv_c) (by
          show V.int ((k : Int) - 2) = _
          congr 1
          omega)
        have hb : k - 2 < 2 * c.length - 1 := by omega
        have e2' : chW ns c (k - 2) = nmOf ns (c.getD (k / 2 - 1) 0) := by
          unfold chW
          rw [if_neg (by omega), show (k - 2) / 2 = k / 2 - 1 by omega]
        refine e_drop (e_bm (vv_var rfl) hv (e_cons (e_tup (e_cons (vv_dget (v := iv (c.getD (k / 2 - 1) 0)) (vv_var rfl) (vv_ixL (vv_var rfl) (hkm rfl) (SqL.of hp1) (chainW_get ns hb)) ?_ _ (e_cons (vv_dget (v := iv (c.getD (k / 2) 0)) (vv_var rfl) (word rfl rfl) ?_ _ (e_nil ⟨(by show 2 ≤ sizeLine; decide), fun t ht => e_nil ?_⟩))))))))
        · rw [e2']
          exact numD_get hns (hcget _ (by omega)) hd1
        · rw [hev h.1]
          exact numD_get hns (hcget _ (by omega)) hd1
        · have e3 : Ext T H1 (upd H1 t (.tup [iv (c.getD (k / 2 - 1) 0), iv (c.getD (k / 2) 0)])) := .new ht
          refine ⟨l, vs, _, rfl, rfl, e3.lst hv, ?_, _, rfl, (e2.trans e3).mutL hl (e3.lst hv), ?_⟩
          · rw [Pd.len hpd]
            unfold prsTo
            rw [List.length_map, List.length_range]
            exact smallt (by omega)
          · rw [prsTo_step, if_pos h]
            exact prs_snoc (e3.lst hv) (Pd.imp hpd fun _ _ h => h.ext e3) ⟨t, rfl, upd_same⟩
      · refine ⟨_, rfl, e2, ?_⟩
        rw [prsTo_step, if_neg, List.append_nil]
        · exact ⟨vs, hv, hpd⟩
        · intro z
          rw [decide_eq_true z.1, decide_eq_true z.2] at h
          cases h
  · rintro σ H1 ⟨x, rfl, e2, hL⟩
    rw [prsTo_all (by omega)] at hL
    exact ⟨_, rfl, q l H1 e2 hl hL⟩
end
end SW

/-! ## SwS5 -/
/-! A tuple made of a list, its object known to have no dict; a method of it. -/
namespace SW
open PySem PySem.Spec PyProof.Rows L2 Bits
/-- a tuple whose object has no dict -/
def Tz (H : Hp) (p : Addr) (xs : List V) : Prop := ∃ o : Obj, H p = some (.frz o (.tup xs)) ∧ o.dict = none
theorem Tz.ext {T : Tbs} {H H' : Hp} {p : Addr} {xs : List V} (e : Ext T H H') (h : Tz H p xs) : Tz H' p xs := by
  obtain ⟨o, h1, h2⟩ := h
  exact ⟨o, e.kp _ _ h1 fun _ z => (nomatch z), h2⟩
theorem Tz.st {K : PySem.W.Frag} {H : Hp} {p : Addr} {xs : List V} (h : Tz H p xs) : SqT K H p xs := by
  obtain ⟨o, h1, _⟩ := h
  exact .inl (.inr ⟨o, h1⟩)
def rTupZ (K : PySem.W.Frag) : List V → Hp → VK → Prop := fun xs H Q => ∃ p ys, xs = [.ref p] ∧ SqL K H p ys ∧ ∀ l o, H l = none → o.dict = none → Q (.ref l) (upd H l (.frz o (.tup ys)))
theorem call_tuple_frz {X : Cx} : CallR X (.type "tuple") (rTupZ X.K) := by
  intro pins s σ H xs us Q I r h
  obtain ⟨p, ys, rfl, hq, q⟩ := h
  obtain ⟨u, rfl, rx⟩ := vals1 r
  cases rx
  obtain ⟨its, r', pl, hz⟩ := I.list hq
  have hlen := r'.length
  refine call_tuple_list pl.isList (fun h' kp => ?_) (by simp only [List.size_toArray] <;> omega)
  have I1 : Inv X pins σ H { s with heap := h' } := I.kept (t' := s.toks) kp
  have I2 : Inv X pins σ (upd H h'.objs.size (.frz { cls := .type "tuple", data := .seq its.toArray } (.tup ys))) { s with heap := h'.push { cls := .type "tuple", data := .seq its.toArray } } :=
    I1.laid (t' := s.toks) (fun b o e => Heap.get?_push_of_some _ e) (Nat.le_refl _) (show ObjOk X.prog X.w _ _ _ (.frz _ (.tup ys)) from ⟨Heap.get?_push_size _ rfl, hz, its, r', IsTup.new _ _⟩)
  exact ⟨.ref h'.objs.size, _, I2, rfl, q _ _ (I1.hok.fresh (Nat.le_refl _)) rfl⟩
def tBMZ (r : V → List V → Hp → VK → Prop) (to : TE) (t : TA) : TE := fun σ H Q => to σ H fun x H1 => (∃ p ys, x = .ref p ∧ Tz H1 p ys) ∧ t σ H1 fun xs H2 => r x xs H2 Q
section
variable {X : Cx} {o e : Expr} {es : List Expr} {to : TE} {t : TA} {name : Str} {apos cpos : Pos} {id : String} {r : V → List V → Hp → VK → Prop}
theorem pe_bmZ (pa : PlainAttrs "tuple") (slot : Slot "tuple" name id) (hty : typeOf (.builtin id) = pure (.type "method_descriptor")) (hm : MtR X id r) (ho : PE X o to) (ha : PA X (e :: es) t)
    (hbase : attributeBase o name X.env (eval o X.env) = eval o X.env := by rfl)
    (hfew : ((backTo cpos (starEach (e :: es) X.env)).all (fun x => !x.1) && (backToKw cpos (keywordEach [] X.env)).all (fun x => x.1.isSome)
      && decide ((e :: es).length + ([] : List Keyword).length + (if ([] : List Keyword).isEmpty then 0 else 1) < 30)) = true := by rfl)
    (hline : (apos.endLine == cpos.line) = true := by rfl) (hs : starEach (e :: es) X.env = (false, eval e X.env) :: starEach es X.env := by rfl) (hplain : (backTo cpos (starEach es X.env)).any (·.1) = false := by rfl) :
    PE X (.Call (.Attribute o name apos) (e :: es) [] cpos) (tBMZ r to t) := by
  refine ⟨fun pins s σ H Q I h => ?_⟩
  refine wpAny_Call_method_late hbase hfew hline rfl (thn (ho.run pins s σ H _ I h) fun v s1 ⟨x, H1, I1, r1, ty, q1⟩ => ?_)
  obtain ⟨p, ys, rfl, ob, hk, hdict⟩ := ty
  obtain rfl : v = Value.ref p := r1
  have hob := I1.hok p _ hk
  obtain ⟨h1, _, its, _, ht⟩ := hob
  refine ⟨"tuple", id, pa, slot, hty, ht.typeIs, fun a e => ?_, ?_⟩
  · cases e
    exact ⟨ob, h1, hdict⟩
  have hA := ha.run cpos pins s1 σ H1 _ I1 q1
  rw [hs] at hA ⊢
  refine Calls.callWith_builtin (by show (false || (backTo cpos (starEach es X.env)).any (·.1)) = false; rw [hplain] <;> rfl) (Calls.evalArgs_plain ?_)
  exact thn hA fun us s2 ⟨vs, H2, I2, r2, q2⟩ => hm pins s2 σ H2 (.ref p) vs (.ref p) us Q I2 rfl r2 q2
end
end SW

/-! ## SwZ2 -/
/-! writing.py: read_order. -/
namespace SW
open PySem PySem.Spec PyProof.Rows L2 Bits TL
/-- a text that writes an order -/
structure Writes (t : Str) (ns : List Str) (O : List Nat) : Prop where
  len : t.length ≤ 90000
  rows : ∀ r ∈ Txt.split t "\n", r.length ≤ 30000
  ex : ∃ chs : List (List Nat), (Txt.split t "\n").map wordsOf = (("things" : Str) :: ns) :: chs.map (chainW ns) ∧ chs.length ≤ 1000 ∧ (∀ c ∈ chs, 2 ≤ c.length ∧ c.length ≤ 3 ∧ ∀ i ∈ c, i < ns.length) ∧ Tells (chs.flatMap chPairs) O
theorem Pd.app {α β : Type} {F : α → β → Prop} : ∀ {l₁ : List α} {l₂ : List β} {m₁ : List α} {m₂ : List β}, Paired F l₁ l₂ → Paired F m₁ m₂ → Paired F (l₁ ++ m₁) (l₂ ++ m₂)
  | _, _, _, _, .nil, h => h
  | _, _, _, _, .cons q t, h => .cons q (Pd.app t h)
abbrev Sw := List (Addr × List Str)
abbrev refsS (ls : Sw) : List V := ls.map fun x => V.ref x.1
theorem chPairs_lt {c : List Nat} {n : Nat} (h : ∀ i ∈ c, i < n) : ∀ x ∈ chPairs c, x.1 < n ∧ x.2 < n := fun x hx => by
  obtain ⟨i, hi, rfl⟩ := List.mem_map.mp hx
  have hi := List.mem_range.mp hi
  have g : ∀ j, j < c.length → c.getD j 0 < n := fun j hj => by
    rw [List.getD_eq_getElem?_getD, List.getElem?_eq_getElem hj]
    exact h _ (List.getElem_mem hj)
  exact ⟨g i (by omega), g (i + 1) (by omega)⟩
theorem chPairs_len {c : List Nat} (h : c.length ≤ 3) : (chPairs c).length ≤ 2 := by
  unfold chPairs
  rw [List.length_map, List.length_range]
  omega
section
variable {P : Program} {w : World} {K : PySem.W.Frag} {mg : Str → Option Value} {base : Heap} {T : Tbs}
abbrev s_read_order : Stmt := top 91
abbrev N_read_order : List Str := ["text", "row", "rows", "numbers", "pairs", "words"]
theorem sc_read_order : FnScope N_read_order ["text"] (defScope s_read_order) := ⟨rfl, rfl, rfl, by decide +kernel, rfl, by decide +kernel, by decide +kernel⟩
-- slots: 0 text, 1 row, 2 rows, 3 numbers, 4 pairs, 5 words
def spRead (T : Tbs) : Sp := fun vs H Q _ => ∃ (t : Str) (ns : List Str) (O : List Nat), vs = [.str t] ∧ Writes t ns O ∧ Nms ns O.length ∧ IsOrd O ∧ O.length ≤ 16 ∧
  ∀ r H' a b, Ext T H H' → H r = none → H' r = some (.tup [.ref a, .ref b]) → Tz H' a (txts ns) → H' b = some (.tup (nats O)) → Q (.ref r) H'
theorem ok_read_order (B : Blt mg) (G : Cst mg) (D : DefAt K mg "read_order" s_read_order) (g_words_in : Calls P w K mg base 1 "words_in" ["row"] (spWords T)) (g_names_in : Calls P w K mg base 2 "names_in" ["words"] (spNamesIn T K))
    (g_pairs_in : Calls P w K mg base 1 "pairs_in" ["words", "numbers"] (spPairsIn T K)) (g_made_order : Calls P w K mg base 3 "made_order" ["many", "pairs"] (spMade T)) : Calls P w K mg base 4 "read_order" ["text"] (spRead T) := by
  refine D.ok sc_read_order (fun vs H Q E h => ?_) (fun _ _ _ _ _ _ us hl => match us, hl with | [_], _ => rfl) (fun f cdv A outer s H vs Q E hr h => ?_)
  · obtain ⟨t, ns, O, rfl, hW, hns, hI, hn, q⟩ := h; rfl
  obtain ⟨t, ns, O, rfl, hW, hns, hI, hn, q⟩ := h
  have nd := sc_read_order.nd
  have hu := hu_of hr
  refine ⟨_, (pss_cons (ps_setLc (i := 2) (own := [("row", 1)]) (g := gName 1) rfl nd rfl rfl (sw_true rfl rfl rfl (by decide +kernel)) (pi_list (pe_split (pv 0) pe_str)) (blkOk_by (own := [("row", 1)]) (N := N_read_order) (sc := defScope s_read_order) (by decide +kernel)) (fun _ _ _ _ _ => pg_name (i := 1) nd rfl (Or.inl rfl)) (fun _ _ _ _ _ => pts_nil) (fun _ _ _ _ _ => (pe_callD g_words_in (hr.mono (by decide)) rfl (pa_cons (pv 1) pa_nil))))
      (pss_cons (ps_set (i := 3) nd rfl (Or.inl rfl) (pe_callD g_names_in (hr.mono (by decide)) rfl (pa_cons (pe_ix (r := rIxL K) ix_list (pv 2) pe_int (fun _ _ => rfl)) pa_nil)))
      (pss_cons (ps_set (i := 4) nd rfl (Or.inl rfl) (pe_lst pa_nil))
      (pss_cons (ps_for PassesOwn.never rfl (pi_list (pe_slice sl_list (pv 2) (po_some pe_int) po_none)) (pg_name (i := 5) nd rfl (Or.inl rfl))
        (pss_one (ps_expr (pe_bm PySem.F.plainAttrs_list PySem.F.slot_list_extend PySem.F.type_list_extend mt_extend (pv 4) (pa_cons (pe_callD g_pairs_in (hr.mono (by decide)) rfl (pa_cons (pv 5) (pa_cons (pv 3) pa_nil))) pa_nil)))))
      (pss_cons (ps_if (pt_cmpR op_gt (pe_callB call_lenD (by rfl) B.len PySem.boot_len (pa_cons (pv 3) pa_nil)) (pe_cst G.cMOST_THINGS rfl) (nomark _))
        pss_never
        pss_nil)
      (pss_one (ps_ret (pe_tup (pa_cons (pe_callTy call_tuple_frz (by rfl) B.tuple (by decide +kernel) (pa_cons (pe_callTy (call_listD rfl) (by rfl) B.list (by decide +kernel) (pa_cons (pv 3) pa_nil)) pa_nil)) (pa_cons (pe_callD g_made_order (hr.mono (by decide)) rfl (pa_cons (pe_callB call_lenD (by rfl) B.len PySem.boot_len (pa_cons (pv 3) pa_nil)) (pa_cons (pv 4) pa_nil))) pa_nil)))))))))), ?_⟩
  obtain ⟨chs, hchs, hcl, hck, htl⟩ := hW.ex
  have hsl := PyProof.Rows.split_le t "\n"
  have hRl : (Txt.split t "\n").length = chs.length + 1 := by
    have := congrArg List.length hchs
    simpa using this
  refine e_seq (e_set ⟨_, rfl, ⟨_, rfl⟩, t, "\n", rfl, rfl, by decide +kernel, small (by have := hW.len; omega), fun a ha => ?_⟩)
  have e1 : Ext T H (upd H a (.lst (txts (Txt.split t "\n")))) := .new ha
  have hA : upd H a (.lst (txts (Txt.split t "\n"))) a = some (.lst (txts (Txt.split t "\n"))) := upd_same
  generalize upd H a (.lst (txts (Txt.split t "\n"))) = H1 at e1 hA ⊢
  refine ⟨a, rfl, ⟨_, SqL.of hA⟩, fun l hl => lc_list (xs := txts (Txt.split t "\n")) (fun i H' => Ext T H1 H' ∧ ∃ ls : Sw, ls.map (·.2) = ((Txt.split t "\n").take i).map wordsOf ∧ H' l = some (.lst (refsS ls)) ∧ ∀ x ∈ ls, H' x.1 = some (.lst (txts x.2)) ∧ x.1 ≠ l)
    ⟨.new hl, [], rfl, upd_same, fun _ h => nomatch h⟩ (fun i H' _ ⟨e, _⟩ => SqL.of (e.lst hA)) (fun i x H2 hi ⟨e2, ls, h1, h2, h3⟩ => ⟨rfl, ?_⟩) fun H2 ⟨e2, ls, h1, h2, h3⟩ => ?_⟩
  · rw [List.getElem?_map] at hi
    cases hx : (Txt.split t "\n")[i]? with
    | none => rw [hx] at hi; cases hi
    | some rw_ =>
    rw [hx] at hi
    have hv : V.str rw_ = x := Option.some.inj hi
    subst hv
    refine tl_yes (T := T) _ fun H3 e3 => iteT ⟨_, rfl, rw_, rfl, hW.rows _ (List.mem_of_getElem? hx), fun r H4 e4 hr hL => ?_⟩
    have hl3 := e3.lst h2
    have nrl : r ≠ l := fun z => by rw [z, hl3] at hr; cases hr
    have hil := (List.getElem?_eq_some_iff.mp hx).1
    have hll : ls.length = i := by
      have := congrArg List.length h1
      simp at this
      omega
    refine ⟨_, e4.lst hl3, by rw [List.length_map, hll]; exact smallt (by omega), (e2.trans (e3.trans e4)).mutL hl (e4.lst hl3), ls ++ [(r, wordsOf rw_)], ?_, ?_, fun x hx' => ?_⟩
    · rw [List.map_append, h1, take_snoc hx, List.map_append]; rfl
    · rw [upd_same]; simp [refsS]
    · rcases List.mem_append.mp hx' with k | k
      · refine ⟨?_, (h3 x k).2⟩
        rw [upd_ne (h3 x k).2]
        exact e4.lst (e3.lst (h3 x k).1)
      · rw [List.mem_singleton.mp k]
        refine ⟨?_, nrl⟩
        rw [upd_ne nrl]
        exact hL
  rw [List.length_map, List.take_length, hchs] at h1
  have e02 := e1.trans e2
  -- the first row
  match ls, h1, h2, h3 with
  | x0 :: tl0, h1, h2, h3 =>
  have hx0 : x0.2 = ("things" : Str) :: ns := (List.cons.inj h1).1
  have htl0 : tl0.map (·.2) = chs.map (chainW ns) := (List.cons.inj h1).2
  have htl0l : tl0.length = chs.length := by have := congrArg List.length htl0; simpa using this
  try dsimp only
  refine e_seq (e_set (e_call ⟨_, rfl, l, _, 0, .ref x0.1, rfl, rfl, SqL.of h2, atI_nat (j := 0) rfl, x0.1, ns, O.length, rfl, ?_, hns, hn, fun d H3 e3 hd hD => ?_⟩))
  · rw [← hx0]
    exact (h3 x0 List.mem_cons_self).1
  have e03 := e02.trans e3
  try dsimp only
  refine e_seq (s_newL fun pr hpr => ?_)
  have hprH : H pr = none := e03.back hpr
  have e4 : Ext T H3 (upd H3 pr (.lst [])) := .new hpr
  try dsimp only
  refine e_seq (e_for (e_iL ⟨_, rfl, 1, rfl, l, _, rfl, SqL.of (e4.lst (e3.lst h2)), fun c hc => ⟨c, rfl, ⟨_, SqL.of upd_same⟩, ?_⟩⟩))
  have hcut2 : cutV (refsS (x0 :: tl0)) (some 1) none = refsS tl0 := cut_tl _ _
  rw [hcut2]
  have e5 := e4.newer (o := .lst (refsS tl0)) hc
  have ncp : c ≠ pr := fun z => by rw [z, upd_same] at hc; cases hc
  refine for_list (xs := refsS tl0) (fun i σ H' => ∃ x, σ = [some (.str t), none, some (.ref l), some (.ref d), some (.ref pr), x] ∧ Ext T H3 H' ∧ H' c = some (.lst (refsS tl0)) ∧ LstOf IsPr H' pr ((chs.take i).flatMap chPairs))
    ⟨none, rfl, e5, upd_same, [], by rw [upd_ne fun z => ncp z.symm, upd_same], .nil⟩ (fun i σ H' _ ⟨_, _, _, h, _⟩ => SqL.of h) ?_ ?_
  · rintro i v σ H4 hi ⟨x, rfl, e6, hC, hL⟩
    rw [List.getElem?_map] at hi
    cases hx : tl0[i]? with
    | none => rw [hx] at hi; cases hi
    | some y =>
    rw [hx] at hi
    have hv : V.ref y.1 = v := Option.some.inj hi
    subst hv
    have hil := (List.getElem?_eq_some_iff.mp hx).1
    obtain ⟨ch, hch⟩ : ∃ ch, chs[i]? = some ch := ⟨_, List.getElem?_eq_getElem (by omega)⟩
    have hy2 : y.2 = chainW ns ch := by
      have := congrArg (fun l => l[i]?) htl0
      simp only [List.getElem?_map, hx, hch] at this
      exact Option.some.inj this
    have hk := hck ch (List.mem_of_getElem? hch)
    obtain ⟨vs, hv, hpd⟩ := hL
    have hy := (h3 y (List.mem_cons_of_mem _ (List.mem_of_getElem? hx))).1
    rw [hy2] at hy
    refine e_drop (e_bm (vv_var rfl) hv (e_cons (e_call ⟨_, rfl, _, rfl, y.1, d, ns, O.length, ch, rfl, e6.lst (e3.lst hy), e6.dK hD, hns, hk.1, by omega, fun j hj => by rw [← hns.len]; exact hk.2.2 j hj, fun z H5 e7 hz hZ => e_nil ?_⟩)))
    obtain ⟨us, hus, hpu⟩ := hZ
    have hv5 := e7.lst hv
    refine ⟨pr, z, vs, us, rfl, rfl, hv5, hus, ?_, _, rfl, (e6.trans e7).mutL hpr hv5, ?_, vs ++ us, upd_same, ?_⟩
    · rw [Pd.len hpd, Pd.len hpu]
      have h1 := chPairs_len hk.2.1
      have h2 : ((chs.take i).flatMap chPairs).length ≤ (chs.take i).length * 2 := flatMap_len_le fun c hc => chPairs_len (hck c (List.mem_of_mem_take hc)).2.1
      rw [List.length_take] at h2
      exact small (by omega)
    · rw [upd_ne ncp]
      exact e7.lst hC
    · rw [take_snoc hch, List.flatMap_append]
      refine Pd.app (Pd.imp hpd fun _ _ h => (h.ext e7).upd hv5) ?_
      rw [List.flatMap_cons, List.flatMap_nil, List.append_nil]
      exact Pd.imp hpu fun _ _ h => h.upd hv5
  · rintro σ H4 ⟨x, rfl, e6, hC, hL⟩
    rw [List.length_map, htl0l, List.take_length] at hL
    have hD4 := e6.dK hD
    have e04 := e03.trans e6
    have hnl : (numD ns O.length).length = O.length := numD_len _ _
    try dsimp only
    refine e_seq (e_if ⟨_, rfl, d, _, rfl, hD4, _, _, rfl, rfl, _, rfl, ?_⟩)
    rw [hnl, show decide ((16 : Int) < (O.length : Nat)) = false from decide_eq_false (by omega)]
    refine iteF ?_
    try unfold tNext
    try dsimp only
    refine e_ret (e_tup (e_cons (e_cb (e_cons (e_cb (e_cons (e_var rfl (e_nil ⟨d, _, rfl, .inl hD4, fun kl hkl => e_nil ⟨kl, _, rfl, SqL.of upd_same, fun tn oz htn hoz => ?_⟩⟩))))))))
    rw [numD_keys hns.len] at htn ⊢
    have e7 : Ext T H4 (upd H4 kl (.lst (txts ns))) := .new hkl
    have e8 := e7.newer (o := .frz oz (.tup (txts ns))) htn
    have hTn : Tz (upd (upd H4 kl (.lst (txts ns))) tn (.frz oz (.tup (txts ns)))) tn (txts ns) := ⟨oz, upd_same, hoz⟩
    have hm := tells_made hI htl
    refine e_cons (e_call (e_cons ⟨_, rfl, d, _, rfl, e8.dK hD4, _, rfl, O.length, pr, chs.flatMap chPairs, by rw [hnl]; rfl, hn, hL.prs_ext e8, fun x hx => ?_, hm.2, fun ro H5 e9 hro hRo => e_nil ⟨(by show 2 ≤ sizeLine; decide), fun r hr => ?_⟩⟩))
    · obtain ⟨c, hc, hx⟩ := List.mem_flatMap.mp hx
      exact chPairs_lt (fun j hj => by rw [← hns.len]; exact (hck c hc).2.2 j hj) x hx
    · rw [hm.1] at hRo
      have e10 := (e04.trans e8).trans e9
      exact q r _ tn ro (e10.newer hr) (e10.back hr) upd_same ((hTn.ext e9).ext (Ext.new (T := T) hr)) (by rw [upd_ne (ne_of_none hRo hr)]; exact hRo)
end
end SW

/-! ## SwZ3 -/
/-! writing.py: shown_table. -/
namespace SW
open PySem PySem.Spec PyProof.Rows L2 Bits TL
abbrev numS (i : Int) : Str := toString i
theorem len_of (s : String) : (Str.ofString s).length = s.toList.length := by
  rw [len_tl, tl_ofString, List.length_map]
theorem numS_len {i : Int} (h : i.natAbs ≤ 16 ^ 16) : (numS i).length ≤ 30 := by
  have nat : ∀ n : Nat, n ≤ 16 ^ 16 → (toString n).toList.length ≤ 20 := fun n hn => by
    have h1 := tl_num n
    have h2 := congrArg List.length h1
    rw [tl_ofString, List.length_map] at h2
    have h3 : (toString ((n : Nat) : Int)).toList.length = (toString n).toList.length := rfl
    rw [← h3, h2]
    exact numL_len (by decide) (Nat.lt_of_le_of_lt hn (by decide))
  show (Str.ofString (toString i)).length ≤ 30
  rw [len_of]
  match i, h with
  | .ofNat n, h => exact Nat.le_trans (nat n h) (by decide)
  | .negSucc n, h =>
    have e : toString (Int.negSucc n) = "-" ++ toString (n + 1) := rfl
    rw [e, String.toList_append, List.length_append]
    have := nat (n + 1) h
    have h1 : ("-" : String).toList.length = 1 := by decide
    omega
theorem gn_log {O : List Nat} (hn : O.length ≤ 16) {e : Int} (he : e.natAbs ≤ 1) (a b : Nat) : (gn O e a b).natAbs.log2 < 1920 := by
  have h := gn_bound hn he a b
  rcases Nat.eq_zero_or_pos (gn O e a b).natAbs with z | z
  · rw [z]; decide
  · have h1 : (gn O e a b).natAbs < 2 ^ 65 := Nat.lt_of_le_of_lt h (by decide)
    have := (Nat.log2_lt (by omega)).mpr h1
    omega
def rowT (ns : List Str) (O : List Nat) (a b : Nat) : Str := nmOf ns a ++ (" " : Str) ++ nmOf ns b ++ (" " : Str) ++ numS (gn O (-1) a b)
def tRow (ns : List Str) (O : List Nat) (a b : Nat) : List Str := ((List.range b).filter fun b => decide (gn O (-1) a b ≠ 0)).map (rowT ns O a)
def tTo (ns : List Str) (O : List Nat) (a b : Nat) : List Str := ((List.range a).flatMap fun a => tRow ns O a O.length) ++ tRow ns O a b
def tabText (ns : List Str) (O : List Nat) : Str := Txt.join "\n" (tTo ns O O.length 0)
theorem tTo_step (ns : List Str) (O : List Nat) (a b : Nat) : tTo ns O a (b + 1) = tTo ns O a b ++ if decide (gn O (-1) a b ≠ 0) = true then [rowT ns O a b] else [] := by
  unfold tTo tRow
  rw [filt_range, List.map_append, ← List.append_assoc]
  congr 1
  split <;> rfl
theorem tTo_row (ns : List Str) (O : List Nat) (a : Nat) : tTo ns O a O.length = tTo ns O (a + 1) 0 := by
  unfold tTo
  rw [List.range_succ (n := a), List.flatMap_append]
  simp [tRow]
theorem tRow_len (ns : List Str) (O : List Nat) (a b : Nat) : (tRow ns O a b).length ≤ b := by
  unfold tRow
  rw [List.length_map]
  have := List.length_filter_le (fun b => decide (gn O (-1) a b ≠ 0)) (List.range b)
  rw [List.length_range] at this
  exact this
theorem tTo_len {ns : List Str} {O : List Nat} (hn : O.length ≤ 16) {a b : Nat} (ha : a ≤ O.length) (hb : b ≤ O.length) : (tTo ns O a b).length ≤ 272 := by
  unfold tTo
  rw [List.length_append]
  have h1 := tRow_len ns O a b
  have h2 : ((List.range a).flatMap fun a => tRow ns O a O.length).length ≤ (List.range a).length * O.length := flatMap_len_le fun x _ => tRow_len ns O x O.length
  rw [List.length_range] at h2
  have h3 : a * O.length ≤ 16 * 16 := Nat.mul_le_mul (by omega) hn
  omega
theorem rowT_len {ns : List Str} {O : List Nat} {n : Nat} (h : NmsOk ns n) (hn : O.length ≤ 16) (a b : Nat) : (rowT ns O a b).length ≤ 60 := by
  have h1 := nm_len h a
  have h2 := nm_len h b
  have h3 := numS_len (gn_bound hn (e := -1) (by decide) a b)
  unfold rowT
  rw [Str.length_append, Str.length_append, Str.length_append, Str.length_append, len_sp]
  omega
theorem tTo_mem {ns : List Str} {O : List Nat} {n : Nat} (h : NmsOk ns n) (hn : O.length ≤ 16) {a b : Nat} {y : Str} (hy : y ∈ tTo ns O a b) : y.length ≤ 60 := by
  unfold tTo tRow at hy
  rcases List.mem_append.mp hy with k | k
  · obtain ⟨a, _, k⟩ := List.mem_flatMap.mp k
    obtain ⟨b, _, rfl⟩ := List.mem_map.mp k
    exact rowT_len h hn _ _
  · obtain ⟨b, _, rfl⟩ := List.mem_map.mp k
    exact rowT_len h hn _ _
theorem tab_room {ns : List Str} {O : List Nat} {n : Nat} (h : NmsOk ns n) (hn : O.length ≤ 16) : ((tTo ns O O.length 0).map (·.length)).sum + (tTo ns O O.length 0).length * ("\n" : Str).length ≤ 16777216 :=
  join_room (L := 60) (c := 272) (fun y hy => tTo_mem h hn hy) (tTo_len hn (Nat.le_refl _) (Nat.zero_le _)) (by rw [len_nl]; decide)
theorem strs_app (l : List Str) (x : Str) : txts l ++ [V.str x] = txts (l ++ [x]) := by unfold txts; rw [List.map_append]; rfl
section
variable {P : Program} {w : World} {K : PySem.W.Frag} {mg : Str → Option Value} {base : Heap} {T : Tbs}
theorem tab_get {H : Hp} {t : Addr} {ts : Rw} {O : List Nat} (h : TabAt H t ts (table O)) {a : Nat} (ha : a < O.length) : ∃ x, ts[a]? = some x ∧ H x.1 = some (.tup (intsV (gRow O (-1) a))) := by
  obtain ⟨x, hx, e⟩ := rows_get (f := gRow O (-1)) h.rows ha
  exact ⟨x, hx, by rw [← e]; exact h.its x (List.mem_of_getElem? hx)⟩
abbrev s_shown_table : Stmt := top 92
abbrev N_shown_table : List Str := ["names", "order", "table", "rows", "a", "b"]
theorem sc_shown_table : FnScope N_shown_table ["names", "order", "table"] (defScope s_shown_table) := ⟨rfl, rfl, rfl, by decide +kernel, rfl, by decide +kernel, by decide +kernel⟩
-- slots: 0 names, 1 order, 2 table, 3 rows, 4 a, 5 b
def spTable (T : Tbs) (K : PySem.W.Frag) : Sp := fun vs H Q _ => ∃ (nm : Addr) (ns : List Str) (p : Addr) (O : List Nat) (t : Addr) (ts : Rw), vs = [.ref nm, .ref p, .ref t] ∧ SqT K H nm (txts ns) ∧ OrdAt K H p O ∧ TabAt H t ts (table O) ∧ NmsOk ns O.length ∧
  ∀ H', Ext T H H' → Q (.str (tabText ns O)) H'
theorem ok_shown_table (B : Blt mg) (D : DefAt K mg "shown_table" s_shown_table) : Calls P w K mg base 1 "shown_table" ["names", "order", "table"] (spTable T K) := by
  refine D.ok sc_shown_table (fun vs H Q E h => ?_) (fun _ _ _ _ _ _ us hl => match us, hl with | [_, _, _], _ => rfl) (fun f cdv A outer s H vs Q E hr h => ?_)
  · obtain ⟨nm, ns, p, O, t, ts, rfl, hN, hO, hT, hns, q⟩ := h; rfl
  obtain ⟨nm, ns, p, O, t, ts, rfl, hN, hO, hT, hns, q⟩ := h
  have nd := sc_shown_table.nd
  have hu := hu_of hr
  refine ⟨_, (pss_cons (ps_set (i := 3) nd rfl (Or.inl rfl) (pe_lst pa_nil))
      (pss_cons (ps_for PassesOwn.never rfl (pi_range1 (by rfl) B.range (pa_cons (pe_callB (r := rLenK K) call_lenK (by rfl) B.len PySem.boot_len (pa_cons (pv 1) pa_nil)) pa_nil)) (pg_name (i := 4) nd rfl (Or.inl rfl))
        (pss_one (ps_for PassesOwn.never rfl (pi_range1 (by rfl) B.range (pa_cons (pe_callB (r := rLenK K) call_lenK (by rfl) B.len PySem.boot_len (pa_cons (pv 1) pa_nil)) pa_nil)) (pg_name (i := 5) nd rfl (Or.inl rfl))
          (pss_one (ps_if (pt_cmpR op_ne (pe_ix (r := rIxT K) ix_tup (pe_ix (r := rIxT K) ix_tup (pv 2) (pv 4) (fun _ _ => rfl)) (pv 5) (fun _ _ => rfl)) pe_int (nomark _))
            (pss_one (ps_expr (pe_bm PySem.F.plainAttrs_list PySem.F.slot_list_append PySem.F.type_list_append mt_append (pv 3) (pa_cons (pe_op op_add_str (pe_op op_add_str (pe_op op_add_str (pe_op op_add_str (pe_ix (r := rIxT K) ix_tup (pv 0) (pv 4) (fun _ _ => rfl)) pe_str) (pe_ix (r := rIxT K) ix_tup (pv 0) (pv 5) (fun _ _ => rfl))) pe_str) (pe_callTy call_str_int (by rfl) B.str (by decide +kernel) (pa_cons (pe_ix (r := rIxT K) ix_tup (pe_ix (r := rIxT K) ix_tup (pv 2) (pv 4) (fun _ _ => rfl)) (pv 5) (fun _ _ => rfl)) pa_nil))) pa_nil))))
            pss_nil)))))
      (pss_one (ps_ret (pe_join pe_str (pv 3)))))), ?_⟩
  have hlen := hO.len
  refine e_seq (s_newL fun l hl => ?_)
  have e1 : Ext T H (upd H l (.lst [])) := .new hl
  try dsimp only
  refine e_seq (for_rng (T := T) O.length (by omega) (al_lenO rfl (hO.ext e1)) (fun a σ H' => ∃ x y, σ = [some (.ref nm), some (.ref p), some (.ref t), some (.ref l), x, y] ∧ Ext T H H' ∧ H' l = some (.lst (txts (tTo ns O a 0)))) ?_ ?_ ?_)
  · intro H1 e2
    exact ⟨none, none, rfl, e1.trans e2, e2.lst upd_same⟩
  · rintro a σ H1 ha ⟨x, y, rfl, e2, hL⟩
    try dsimp only
    refine for_rng (T := T) O.length (by omega) (al_lenO rfl (hO.ext e2)) (fun b σ H' => ∃ y, σ = [some (.ref nm), some (.ref p), some (.ref t), some (.ref l), some (iv a), y] ∧ Ext T H H' ∧ H' l = some (.lst (txts (tTo ns O a b)))) ?_ ?_ ?_
    · intro H2 e3
      exact ⟨y, rfl, e2.trans e3, e3.lst hL⟩
    · rintro b σ H2 hb ⟨y, rfl, e3, hL3⟩
      have hT3 := hT.ext e3
      obtain ⟨x, hx, hxt⟩ := tab_get hT3 ha
      have hget : ∀ {σ : L2.St}, σ[2]? = some (some (.ref t)) → σ[4]? = some (some (iv a)) → σ[5]? = some (some (iv b)) → Vv (tOp (rIxT K) (tOp (rIxT K) (tVar 2) (tVar 4)) (tVar 5)) σ H2 (.int (gn O (-1) a b)) := fun h1 h2 h3 =>
        vv_is (vv_ixT (vv_ixT (vv_var h1) (vv_var h2) (SqT.of hT3.at_) (refs_get hx)) (vv_var h3) (SqT.of hxt) (at_ints (by unfold gRow; rw [List.length_map, List.length_range]; exact hb))) (by rw [gRow_get hb])
      have hlr := rowT_len (O := O) hns hlen a b
      refine s_if (b1 := decide (gn O (-1) a b ≠ 0)) (tt_is (tt_test (vv_op (z := .bl (!decide (V.int (gn O (-1) a b) = V.int 0))) (hget rfl rfl rfl) vv_c fun _ q => ⟨rfl, q⟩)) ?_) (fun hc => ?_) (fun hc => ?_)
      · by_cases h : gn O (-1) a b = 0
        · rw [h]; simp
        · have : ¬ V.int (gn O (-1) a b) = V.int 0 := fun e => h (by injection e)
          simp [h, this]
      · have hN3 := e3.st hN
        have hstr : Vv (tCB (fun xs H Q => ∃ i, xs = [V.int i] ∧ i.natAbs.log2 < 1920 ∧ Q (.str (toString i)) H) (tCons (tOp (rIxT K) (tOp (rIxT K) (tVar 2) (tVar 4)) (tVar 5)) tNil)) [some (.ref nm), some (.ref p), some (.ref t), some (.ref l), some (iv a), some (iv b)] H2 (.str (numS (gn O (-1) a b))) := fun Q' q' =>
          e_cb (e_cons (hget rfl rfl rfl _ (e_nil ⟨_, rfl, gn_log hlen (by decide) a b, q'⟩)))
        have h1 := nm_len hns a
        have h2 := nm_len hns b
        have h3 := numS_len (gn_bound hlen (e := -1) (by decide) a b)
        have hrow : Vv _ _ H2 (.str (rowT ns O a b)) := vv_addS (vv_addS (vv_addS (vv_addS (vv_ixT (vv_var (i := 0) rfl) (vv_var (i := 4) rfl) hN3 (nm_get hns ha)) (vv_c (v := .str " ")) (by rw [len_sp]; omega)) (vv_ixT (vv_var (i := 0) rfl) (vv_var (i := 5) rfl) hN3 (nm_get hns hb)) (by rw [Str.length_append, len_sp]; omega)) (vv_c (v := .str " ")) (by rw [Str.length_append, Str.length_append, len_sp]; omega)) hstr (by rw [Str.length_append, Str.length_append, Str.length_append, len_sp]; omega)
        refine s_app hL3 (vv_var rfl) hrow ?_ ⟨_, rfl, e3.mutL hl hL3, ?_⟩
        · rw [List.length_map]
          have := tTo_len (ns := ns) hlen (Nat.le_of_lt ha) (Nat.le_of_lt hb)
          omega
        · rw [upd_same, tTo_step, if_pos hc, strs_app]
      · refine ⟨_, rfl, e3, ?_⟩
        rw [tTo_step, if_neg (by rw [hc]; decide), List.append_nil]
        exact hL3
    · rintro σ H2 ⟨y, rfl, e3, hL3⟩
      exact ⟨_, _, rfl, e3, by rw [← tTo_row]; exact hL3⟩
  · rintro σ H1 ⟨x, y, rfl, e2, hL⟩
    exact ⟨⟨_, rfl⟩, _, rfl, _, l, _, rfl, rfl, .inl (SqL.of hL), tab_room hns hlen, q H1 e2⟩
end
end SW

/-! ## SwZ4 -/
/-! Texts that write an order. -/
namespace SW
open PySem PySem.Spec PyProof.Rows L2 Bits TL
/-! ### words of a list of signs -/
def Wd (l : List Nat) : List (List Nat) := (spl [32] 0 [] l).filter fun p => decide (p ≠ [])
theorem wd_nil : Wd [] = [] := by decide +kernel
theorem wd_sp (r : List Nat) : Wd (32 :: r) = Wd r := by
  unfold Wd
  have := spl_part1 (s := 32) (S := []) (p := []) (rest := r) (acc := []) (by simp)
  rw [show (32 :: r : List Nat) = [] ++ (32 :: [] ++ r) from rfl, this]
  rw [List.filter_cons_of_neg (by simp)]
theorem wd_word {p : List Nat} (r : List Nat) (hp : p ≠ []) (h : 32 ∉ p) : Wd (p ++ 32 :: r) = p :: Wd r := by
  unfold Wd
  have := spl_part1 (s := 32) (S := []) (p := p) (rest := r) (acc := []) h
  rw [show p ++ 32 :: r = p ++ (32 :: [] ++ r) from rfl, this, List.nil_append, List.filter_cons_of_pos (by simpa using hp)]
theorem wd_last {p : List Nat} (hp : p ≠ []) (h : 32 ∉ p) : Wd p = [p] := by
  unfold Wd
  rw [spl_last1 h, List.nil_append, List.filter_cons_of_pos (by simpa using hp)]
  rfl
theorem wd_sps (r : List Nat) : ∀ m, Wd (List.replicate m 32 ++ r) = Wd r
  | 0 => rfl
  | m + 1 => by rw [List.replicate_succ, List.cons_append, wd_sp, wd_sps r m]
theorem wd_join (m : Nat) : ∀ ps : List (List Nat), (∀ p ∈ ps, p ≠ [] ∧ 32 ∉ p) → Wd (joinL (List.replicate (m + 1) 32) ps) = ps
  | [], _ => wd_nil
  | [p], h => wd_last (h p List.mem_cons_self).1 (h p List.mem_cons_self).2
  | p :: q :: r, h => by
    have hp := h p List.mem_cons_self
    show Wd (p ++ (List.replicate (m + 1) 32 ++ joinL (List.replicate (m + 1) 32) (q :: r))) = _
    rw [List.replicate_succ, List.cons_append, wd_word _ hp.1 hp.2, wd_sps, ← List.replicate_succ, wd_join m (q :: r) fun z hz => h z (List.mem_cons_of_mem _ hz)]
theorem tl_sp1 : tl (" " : Str) = [32] := by decide +kernel
theorem tl_sp2 : tl ("  " : Str) = [32, 32] := by decide +kernel
theorem tl_nl : tl ("\n" : Str) = [10] := by decide +kernel
theorem tl_lt : tl ("<" : Str) = [60] := by decide +kernel
theorem tl_lt3 : tl (" < " : Str) = [32, 60, 32] := by decide +kernel
theorem tl_emp : tl ("" : Str) = [] := by decide +kernel
theorem tl_things : tl ("things" : Str) = [116, 104, 105, 110, 103, 115] := by decide +kernel
theorem words_tl (r : Str) : (wordsOf r).map tl = Wd (tl r) := by
  unfold wordsOf Wd
  rw [← tl_sp1, ← split_spl r " " (by rw [tl_sp1]; simp) (kind_ok (by decide +kernel)), List.filter_map]
  congr 1
  refine List.filter_congr fun w _ => ?_
  show decide (w ≠ ("" : Str)) = decide (tl w ≠ [])
  refine decide_eq_decide.mpr ⟨fun h e => h (ext_tl (by rw [e, tl_emp])), fun h e => h (by rw [e, tl_emp])⟩
theorem words_eq {r : Str} {ws : List Str} (h : Wd (tl r) = ws.map tl) : wordsOf r = ws := map_tl_inj (by rw [words_tl, h])
theorem words_join {m : Nat} {y : Str} (hy : tl y = List.replicate (m + 1) 32) {ws : List Str} (h : ∀ w ∈ ws, tl w ≠ [] ∧ 32 ∉ tl w) : wordsOf (Txt.join y ws) = ws := by
  refine words_eq ?_
  rw [join_eq, tl_join, hy]
  exact wd_join m _ fun p hp => by
    obtain ⟨w, hw, rfl⟩ := List.mem_map.mp hp
    exact h w hw
/-! ### rows -/
theorem name_free {s : Str} (h : NameOk s) : tl s ≠ [] ∧ 32 ∉ tl s ∧ 10 ∉ tl s := by
  refine ⟨fun e => ?_, fun hm => ?_, fun hm => ?_⟩
  · have := h.lo
    rw [len_tl, e] at this
    exact absurd this (by decide)
  · have := h.let_ _ hm
    omega
  · have := h.let_ _ hm
    omega
theorem nm_ok {ns : List Str} {n a : Nat} (h : Nms ns n) (ha : a < n) : NameOk (nmOf ns a) := by
  unfold nmOf
  rw [List.getD_eq_getElem?_getD, List.getElem?_eq_getElem (by rw [h.len]; exact ha)]
  exact h.ok _ (List.getElem_mem _)
structure RowIs (ns : List Str) (r : Str) (c : List Nat) : Prop where
  ws : wordsOf r = chainW ns c
  len : r.length ≤ 200
  nl : 10 ∉ tl r
/-- a chain's things stand, the later ones above the earlier -/
structure ChOk (O : List Nat) (c : List Nat) : Prop where
  lo : 2 ≤ c.length
  hi : c.length ≤ 3
  lt : ∀ i ∈ c, i < O.length
  up : ∀ x ∈ chPairs c, x.1 ≠ x.2 ∧ le O x.1 x.2 = true
theorem ch2_pairs (a b : Nat) : chPairs [a, b] = [(a, b)] := rfl
theorem ch3_pairs (a b d : Nat) : chPairs [a, b, d] = [(a, b), (b, d)] := rfl
theorem nin_app {x : Nat} {a b : List Nat} (h1 : x ∉ a) (h2 : x ∉ b) : x ∉ a ++ b := fun h => (List.mem_append.mp h).elim h1 h2
theorem nin_cons {x y : Nat} {b : List Nat} (h1 : x ≠ y) (h2 : x ∉ b) : x ∉ y :: b := fun h => (List.mem_cons.mp h).elim h1 h2
theorem chW_od {ns : List Str} {c : List Nat} {k : Nat} (h : k % 2 = 1) : chW ns c k = "<" := by unfold chW; rw [if_pos h]
theorem chW_ev {ns : List Str} {c : List Nat} {k : Nat} (h : ¬ k % 2 = 1) : chW ns c k = nmOf ns (c.getD (k / 2) 0) := by unfold chW; rw [if_neg h]
theorem ch2_words (ns : List Str) (a b : Nat) : chainW ns [a, b] = [nmOf ns a, "<", nmOf ns b] := by
  show [chW ns [a, b] 0, chW ns [a, b] 1, chW ns [a, b] 2] = _
  rw [chW_ev (by decide), chW_od (by decide), chW_ev (by decide)]
  rfl
theorem ch3_words (ns : List Str) (a b d : Nat) : chainW ns [a, b, d] = [nmOf ns a, "<", nmOf ns b, "<", nmOf ns d] := by
  show [chW ns [a, b, d] 0, chW ns [a, b, d] 1, chW ns [a, b, d] 2, chW ns [a, b, d] 3, chW ns [a, b, d] 4] = _
  rw [chW_ev (by decide), chW_od (by decide), chW_ev (by decide), chW_od (by decide), chW_ev (by decide)]
  rfl
theorem chOk2 {O : List Nat} (h : IsOrd O) {a b : Nat} (hn : a ≠ b) (hl : le O a b = true) : ChOk O [a, b] :=
  ⟨Nat.le_refl 2, (by show 2 ≤ 3; decide), fun i hi => by
    have := le_bd h hl
    rcases List.mem_cons.mp hi with e | hi
    · omega
    · rw [List.mem_singleton.mp hi]; exact this.2, fun x hx => by
    rw [ch2_pairs] at hx
    rw [List.mem_singleton.mp hx]
    exact ⟨hn, hl⟩⟩
theorem chOk3 {O : List Nat} (h : IsOrd O) {a b d : Nat} (hn : a ≠ b) (hl : le O a b = true) (hn2 : b ≠ d) (hl2 : le O b d = true) : ChOk O [a, b, d] :=
  ⟨(by show 2 ≤ 3; decide), Nat.le_refl _, fun i hi => by
    have h1 := le_bd h hl
    have h2 := le_bd h hl2
    simp at hi
    rcases hi with e | e | e
    · omega
    · omega
    · omega, fun x hx => by
    rw [ch3_pairs] at hx
    simp at hx
    rcases hx with e | e
    · rw [e]; exact ⟨hn, hl⟩
    · rw [e]; exact ⟨hn2, hl2⟩⟩
theorem row2_is {ns : List Str} {n a b : Nat} (h : Nms ns n) (ha : a < n) (hb : b < n) : RowIs ns (row2 ns (a, b)) [a, b] := by
  have h1 := name_free (nm_ok h ha)
  have h2 := name_free (nm_ok h hb)
  have e : tl (row2 ns (a, b)) = tl (nmOf ns a) ++ 32 :: ([60] ++ 32 :: tl (nmOf ns b)) := by
    unfold row2
    rw [tl_append, tl_append, tl_lt3]
    simp
  refine ⟨?_, by have := row2_len h.toOk (a, b); omega, ?_⟩
  · rw [ch2_words]
    refine words_eq ?_
    rw [e, wd_word _ h1.1 h1.2.1, wd_word _ (by simp) (by decide), wd_last h2.1 h2.2.1]
    simp [tl_lt]
  · rw [e]
    exact nin_app h1.2.2 (nin_cons (by decide) (nin_app (by decide) (nin_cons (by decide) h2.2.2)))
theorem rowX_is {ns : List Str} {n a b : Nat} (h : Nms ns n) (ha : a < n) (hb : b < n) : RowIs ns (("  " : Str) ++ nmOf ns a ++ (" < " : Str) ++ nmOf ns b ++ (" " : Str)) [a, b] := by
  have h1 := name_free (nm_ok h ha)
  have h2 := name_free (nm_ok h hb)
  have e : tl (("  " : Str) ++ nmOf ns a ++ (" < " : Str) ++ nmOf ns b ++ (" " : Str)) = 32 :: 32 :: (tl (nmOf ns a) ++ 32 :: ([60] ++ 32 :: (tl (nmOf ns b) ++ 32 :: []))) := by
    rw [tl_append, tl_append, tl_append, tl_append, tl_lt3, tl_sp2, tl_sp1]
    simp
  have l1 := nm_len h.toOk a
  have l2 := nm_len h.toOk b
  refine ⟨?_, ?_, ?_⟩
  · rw [ch2_words]
    refine words_eq ?_
    rw [e, wd_sp, wd_sp, wd_word _ h1.1 h1.2.1, wd_word _ (by simp) (by decide), wd_word _ h2.1 h2.2.1, wd_nil]
    simp [tl_lt]
  · rw [len_tl, e]
    rw [len_tl] at l1 l2
    simp only [List.length_cons, List.length_append, List.length_nil]
    omega
  · rw [e]
    exact nin_cons (by decide) (nin_cons (by decide) (nin_app h1.2.2 (nin_cons (by decide) (nin_app (by decide) (nin_cons (by decide) (nin_app h2.2.2 (by decide)))))))
theorem rowJ_is {ns : List Str} {n m : Nat} {y : Str} {c : List Nat} (h : Nms ns n) (hm : m ≤ 1) (hy : tl y = List.replicate (m + 1) 32) (hc : ∀ i ∈ c, i < n) (h3 : c.length ≤ 3) (h2 : 2 ≤ c.length) : RowIs ns (Txt.join y (chainW ns c)) c := by
  have hget : ∀ i, i < c.length → c.getD i 0 < n := fun i hi => by
    rw [List.getD_eq_getElem?_getD, List.getElem?_eq_getElem hi]
    exact hc _ (List.getElem_mem hi)
  have hw : ∀ w ∈ chainW ns c, (tl w ≠ [] ∧ 32 ∉ tl w ∧ 10 ∉ tl w) ∧ w.length ≤ 8 := fun w hw => by
    unfold chainW at hw
    obtain ⟨k, hk, rfl⟩ := List.mem_map.mp hw
    have hk := List.mem_range.mp hk
    unfold chW
    split
    · rw [len_tl, tl_lt]
      exact ⟨⟨by simp, by decide, by decide⟩, by decide⟩
    · have ho := nm_ok h (hget (k / 2) (by omega))
      exact ⟨name_free ho, ho.hi⟩
  have hlen : (chainW ns c).length ≤ 5 := by rw [chainW_len]; omega
  refine ⟨words_join hy fun w hw' => ⟨(hw w hw').1.1, (hw w hw').1.2.1⟩, ?_, ?_⟩
  · have h1 := join_len y (chainW ns c)
    have h4 := sum_len_le (L := 8) fun w hw' => (hw w hw').2
    have h5 : y.length ≤ 2 := by rw [len_tl, hy, List.length_replicate]; omega
    have h6 : (chainW ns c).length * y.length ≤ 5 * 2 := Nat.mul_le_mul hlen h5
    omega
  · rw [join_eq, tl_join, hy]
    have key : ∀ ps : List (List Nat), (∀ p ∈ ps, 10 ∉ p) → 10 ∉ joinL (List.replicate (m + 1) 32) ps := by
      intro ps
      induction ps with
      | nil => intro _ hm; cases hm
      | cons p r ih =>
        intro hps
        cases r with
        | nil => exact hps p List.mem_cons_self
        | cons q r =>
          show 10 ∉ p ++ (List.replicate (m + 1) 32 ++ joinL (List.replicate (m + 1) 32) (q :: r))
          rw [List.mem_append, List.mem_append, not_or, not_or]
          exact ⟨hps p List.mem_cons_self, fun z => absurd (List.mem_replicate.mp z).2 (by decide), ih fun z hz => hps z (List.mem_cons_of_mem _ hz)⟩
    exact key _ fun p hp => by
      obtain ⟨w, hw', rfl⟩ := List.mem_map.mp hp
      exact (hw w hw').1.2.2
/-! ### the whole text -/
theorem head_words {ns : List Str} {n : Nat} (h : Nms ns n) : wordsOf (headRow ns) = ("things" : Str) :: ns := by
  unfold headRow
  refine words_join (m := 0) tl_sp1 fun w hw => ?_
  rcases List.mem_cons.mp hw with e | hw
  · rw [e, tl_things]; decide
  · have := name_free (h.ok w hw)
    exact ⟨this.1, this.2.1⟩
theorem head_nl {ns : List Str} {n : Nat} (h : Nms ns n) : 10 ∉ tl (headRow ns) := by
  unfold headRow
  rw [join_eq, tl_join, tl_sp1]
  have key : ∀ ps : List (List Nat), (∀ p ∈ ps, 10 ∉ p) → 10 ∉ joinL [32] ps := by
    intro ps
    induction ps with
    | nil => intro _ hm; cases hm
    | cons p r ih =>
      intro hps
      cases r with
      | nil => exact hps p List.mem_cons_self
      | cons q r =>
        show 10 ∉ p ++ ([32] ++ joinL [32] (q :: r))
        rw [List.mem_append, List.mem_append, not_or, not_or]
        exact ⟨hps p List.mem_cons_self, by decide, ih fun z hz => hps z (List.mem_cons_of_mem _ hz)⟩
  refine key _ fun p hp => ?_
  obtain ⟨w, hw, rfl⟩ := List.mem_map.mp hp
  rcases List.mem_cons.mp hw with e | hw
  · rw [e, tl_things]; decide
  · exact (name_free (h.ok w hw)).2.2
theorem writes_of {ns : List Str} {O : List Nat} (hI : IsOrd O) (hn : O.length ≤ 16) (hns : Nms ns O.length) {rs : List (Str × List Nat)} (hl : rs.length ≤ 400) (hr : ∀ x ∈ rs, RowIs ns x.1 x.2 ∧ ChOk O x.2) (ht : Tells (rs.flatMap fun x => chPairs x.2) O) :
    Writes (Txt.join "\n" (headRow ns :: rs.map (·.1))) ns O := by
  have hh := head_len hns.toOk hn
  have hall : ∀ y ∈ headRow ns :: rs.map (·.1), y.length ≤ 200 ∧ 10 ∉ tl y := fun y hy => by
    rcases List.mem_cons.mp hy with e | hy
    · rw [e]; exact ⟨hh, head_nl hns⟩
    · obtain ⟨x, hx, rfl⟩ := List.mem_map.mp hy
      exact ⟨(hr x hx).1.len, (hr x hx).1.nl⟩
  have hsplit : Txt.split (Txt.join "\n" (headRow ns :: rs.map (·.1))) "\n" = headRow ns :: rs.map (·.1) := split_join tl_nl (by decide +kernel) (by simp) fun p hp => (hall p hp).2
  refine ⟨?_, ?_, rs.map (·.2), ?_, ?_, ?_, ?_⟩
  · have h1 := join_len "\n" (headRow ns :: rs.map (·.1))
    have h2 := sum_len_le (L := 200) fun y hy => (hall y hy).1
    have h3 : (headRow ns :: rs.map (·.1)).length ≤ 401 := by rw [List.length_cons, List.length_map]; omega
    rw [len_nl] at h1
    omega
  · rw [hsplit]
    intro r hr'
    have := (hall r hr').1
    omega
  · rw [hsplit, List.map_cons, head_words hns, List.map_map, List.map_map]
    congr 1
    exact List.map_congr_left fun x hx => (hr x hx).1.ws
  · rw [List.length_map]; omega
  · intro c hc
    obtain ⟨x, hx, rfl⟩ := List.mem_map.mp hc
    have := (hr x hx).2
    exact ⟨this.lo, this.hi, fun i hi => by rw [hns.len]; exact this.lt i hi⟩
  · rw [List.flatMap_map]
    exact ht
theorem text_writes {ns : List Str} {O : List Nat} (hI : IsOrd O) (hn : O.length ≤ 16) (hns : Nms ns O.length) : Writes (textOf ns O) ns O := by
  have h := writes_of (rs := (nexts O).map fun x => (row2 ns x, [x.1, x.2])) hI hn hns (by rw [List.length_map]; have := nexts_len hn; omega) (fun x hx => by
    obtain ⟨⟨a, b⟩, hy, rfl⟩ := List.mem_map.mp hx
    have hm := mem_nexts.mp hy
    have hc := cov_le hm.2.2
    exact ⟨row2_is hns hm.1 hm.2.1, chOk2 hI hc.1 hc.2⟩) ?_
  · rw [List.map_map] at h
    exact h
  · have e : (((nexts O).map fun x => (row2 ns x, [x.1, x.2])).flatMap fun x => chPairs x.2) = nexts O := by
      rw [List.flatMap_map]
      have : ∀ l : List (Nat × Nat), (l.flatMap fun x => chPairs [x.1, x.2]) = l := by
        intro l
        induction l with
        | nil => rfl
        | cons x r ih => rw [List.flatMap_cons, ih]; rfl
      exact this _
    rw [e]
    exact ⟨fun x hx => cov_le (mem_nexts.mp hx).2.2, fun x hx => hx⟩
end SW

/-! ## SwM5 -/
/-! Orders that are built along a row of places. -/
namespace SW
/-- after t places: each mask holds its own thing, things of places up to its own, and whole masks -/
structure Gd (L M : List Nat) (t : Nat) : Prop where
  own : ∀ j x, j < t → L[j]? = some x → (M.getD x 0).testBit x = true
  sub : ∀ j x y, j < t → L[j]? = some x → (M.getD x 0).testBit y = true → ∃ s, s ≤ j ∧ L[s]? = some y
  tr : ∀ j x y z, j < t → L[j]? = some x → (M.getD x 0).testBit y = true → (M.getD y 0).testBit z = true → (M.getD x 0).testBit z = true
structure Plc (L : List Nat) (n : Nat) : Prop where
  perm : L.Perm (List.range n)
theorem Plc.len {L : List Nat} {n : Nat} (h : Plc L n) : L.length = n := by have := h.perm.length_eq; simpa using this
theorem Plc.nodup {L : List Nat} {n : Nat} (h : Plc L n) : L.Nodup := h.perm.nodup_iff.mpr List.nodup_range
theorem Plc.lt {L : List Nat} {n i x : Nat} (h : Plc L n) (hx : L[i]? = some x) : x < n := List.mem_range.mp (h.perm.mem_iff.mp (List.mem_of_getElem? hx))
theorem Plc.at_ {L : List Nat} {n x : Nat} (h : Plc L n) (hx : x < n) : ∃ i, i < n ∧ L[i]? = some x := by
  obtain ⟨i, hi⟩ := List.mem_iff_getElem?.mp (h.perm.mem_iff.mpr (List.mem_range.mpr hx))
  exact ⟨i, by have := (List.getElem?_eq_some_iff.mp hi).1; rw [h.len] at this; exact this, hi⟩
theorem Plc.inj {L : List Nat} {n i j x : Nat} (h : Plc L n) (hi : L[i]? = some x) (hj : L[j]? = some x) : i = j :=
  (List.getElem?_inj (List.getElem?_eq_some_iff.mp hi).1 h.nodup).mp (hi.trans hj.symm)
theorem Plc.ins {L : List Nat} {n r : Nat} (h : Plc L n) : Plc (L.take r ++ [n] ++ L.drop r) (n + 1) := by
  refine ⟨?_⟩
  rw [List.range_succ]
  have h1 : (L.take r ++ [n] ++ L.drop r).Perm (n :: (L.take r ++ L.drop r)) := by
    rw [List.append_assoc]
    exact List.perm_middle
  rw [List.take_append_drop] at h1
  exact h1.trans ((List.Perm.cons n h.perm).trans (List.perm_append_singleton n (List.range n)).symm)
theorem gd_zero (L M : List Nat) : Gd L M 0 := ⟨fun _ _ h => absurd h (Nat.not_lt_zero _), fun _ _ _ h => absurd h (Nat.not_lt_zero _), fun _ _ _ _ h => absurd h (Nat.not_lt_zero _)⟩
theorem gd_new {L M : List Nat} {n t p : Nat} (hL : Plc L n) (hM : M.length = n) (h : Gd L M t) (hp : L[t]? = some p) : Gd L (M.set p (2 ^ p)) (t + 1) := by
  have hpn : p < M.length := by rw [hM]; exact hL.lt hp
  have get : ∀ x, (M.set p (2 ^ p)).getD x 0 = if x = p then 2 ^ p else M.getD x 0 := fun x => getD_set _ _ _ _ hpn
  have old : ∀ j x, j < t → L[j]? = some x → (M.set p (2 ^ p)).getD x 0 = M.getD x 0 := fun j x hj hx => by
    rw [get, if_neg]
    intro e
    subst e
    have := hL.inj hx hp
    omega
  have eqp : ∀ j x, ¬ j < t → j < t + 1 → L[j]? = some x → j = t ∧ x = p := fun j x h1 h2 hx => by
    have : j = t := by omega
    subst this
    exact ⟨rfl, Option.some.inj (hx.symm.trans hp)⟩
  refine ⟨fun j x hj hx => ?_, fun j x y hj hx hb => ?_, fun j x y z hj hx hb hc => ?_⟩
  · by_cases q : j < t
    · rw [old j x q hx]
      exact h.own j x q hx
    · obtain ⟨_, rfl⟩ := eqp j x q hj hx
      rw [get, if_pos rfl, Nat.testBit_two_pow]
      exact decide_eq_true rfl
  · by_cases q : j < t
    · rw [old j x q hx] at hb
      exact h.sub j x y q hx hb
    · obtain ⟨rfl, rfl⟩ := eqp j x q hj hx
      rw [get, if_pos rfl, Nat.testBit_two_pow] at hb
      have := of_decide_eq_true hb
      subst this
      exact ⟨j, Nat.le_refl _, hx⟩
  · by_cases q : j < t
    · rw [old j x q hx] at hb ⊢
      obtain ⟨s, hs, hy⟩ := h.sub j x y q hx hb
      rw [old s y (by omega) hy] at hc
      exact h.tr j x y z q hx hb hc
    · obtain ⟨rfl, rfl⟩ := eqp j x q hj hx
      have hb' := hb
      rw [get, if_pos rfl, Nat.testBit_two_pow] at hb'
      have := of_decide_eq_true hb'
      subst this
      exact hc
theorem gd_or {L M : List Nat} {n t i p r : Nat} (hL : Plc L n) (hM : M.length = n) (h : Gd L M (t + 1)) (hp : L[t]? = some p) (hi : i < t) (hr : L[i]? = some r) : Gd L (M.set p (M.getD p 0 ||| M.getD r 0)) (t + 1) := by
  have hpn : p < M.length := by rw [hM]; exact hL.lt hp
  have get : ∀ x, (M.set p (M.getD p 0 ||| M.getD r 0)).getD x 0 = if x = p then M.getD p 0 ||| M.getD r 0 else M.getD x 0 := fun x => getD_set _ _ _ _ hpn
  have old : ∀ j x, j < t → L[j]? = some x → (M.set p (M.getD p 0 ||| M.getD r 0)).getD x 0 = M.getD x 0 := fun j x hj hx => by
    rw [get, if_neg]
    intro e
    subst e
    have := hL.inj hx hp
    omega
  have eqp : ∀ j x, ¬ j < t → j < t + 1 → L[j]? = some x → j = t ∧ x = p := fun j x h1 h2 hx => by
    have : j = t := by omega
    subst this
    exact ⟨rfl, Option.some.inj (hx.symm.trans hp)⟩
  refine ⟨fun j x hj hx => ?_, fun j x y hj hx hb => ?_, fun j x y z hj hx hb hc => ?_⟩
  · by_cases q : j < t
    · rw [old j x q hx]
      exact h.own j x hj hx
    · obtain ⟨_, rfl⟩ := eqp j x q hj hx
      rw [get, if_pos rfl, Nat.testBit_or, h.own j x hj hx]
      rfl
  · by_cases q : j < t
    · rw [old j x q hx] at hb
      exact h.sub j x y hj hx hb
    · obtain ⟨rfl, rfl⟩ := eqp j x q hj hx
      rw [get, if_pos rfl, Nat.testBit_or, Bool.or_eq_true] at hb
      rcases hb with hb | hb
      · exact h.sub j x y hj hx hb
      · obtain ⟨s, hs, hy⟩ := h.sub i r y (by omega) hr hb
        exact ⟨s, by omega, hy⟩
  · by_cases q : j < t
    · rw [old j x q hx] at hb ⊢
      obtain ⟨s, hs, hy⟩ := h.sub j x y hj hx hb
      rw [old s y (by omega) hy] at hc
      exact h.tr j x y z hj hx hb hc
    · obtain ⟨rfl, rfl⟩ := eqp j x q hj hx
      by_cases e : y = x
      · subst e
        exact hc
      · rw [get, if_neg e] at hc
        rw [get, if_pos rfl, Nat.testBit_or, Bool.or_eq_true] at hb ⊢
        rcases hb with hb | hb
        · exact .inl (h.tr j x y z hj hx hb hc)
        · exact .inr (h.tr i r y z (by omega) hr hb hc)
theorem gd_ord {L M : List Nat} {n : Nat} (hL : Plc L n) (hM : M.length = n) (h : Gd L M n) : IsOrd M := by
  have out : ∀ x, ¬ x < n → M.getD x 0 = 0 := fun x hx => by
    rw [List.getD_eq_getElem?_getD, List.getElem?_eq_none (by omega)]; rfl
  have inn : ∀ a b, le M a b = true → b < n := fun a b hl => by
    rcases Nat.lt_or_ge b n with q | q
    · exact q
    · unfold le at hl
      rw [out b (by omega), Nat.zero_testBit] at hl
      cases hl
  refine ⟨fun b => ?_, fun b hb => ?_, fun a b h1 h2 => ?_, fun a b c h1 h2 => ?_⟩
  · rw [hM]
    apply Nat.lt_pow_two_of_testBit
    intro i hi
    cases q : (M.getD b 0).testBit i with
    | false => rfl
    | true =>
      obtain ⟨j, hj, hb⟩ := hL.at_ (inn i b q)
      obtain ⟨s, _, hs⟩ := h.sub j b i hj hb q
      have := hL.lt hs
      omega
  · obtain ⟨j, hj, hx⟩ := hL.at_ (by rw [← hM]; exact hb)
    exact h.own j b hj hx
  · obtain ⟨j, hj, hb⟩ := hL.at_ (inn a b h1)
    obtain ⟨k, hk, ha⟩ := hL.at_ (inn b a h2)
    obtain ⟨s, hs, hsa⟩ := h.sub j b a hj hb h1
    obtain ⟨u, hu, hub⟩ := h.sub k a b hk ha h2
    have e1 := hL.inj hsa ha
    have e2 := hL.inj hub hb
    have : j = k := by omega
    subst this
    exact Option.some.inj (ha.symm.trans hb)
  · obtain ⟨j, hj, hc⟩ := hL.at_ (inn b c h2)
    exact h.tr j c b a hj hc h2 h1
end SW

/-! ## SwAA -/
/-! The law's numbers and orders. -/
namespace SW
open PySem PySem.Spec PyProof.Rows L2 Bits TL
/-! ### _law_turn -/
abbrev M1 : Int := 618970019642690137449562111
abbrev M2 : Int := 2305843009213693951
def near1 (s k : Int) : Int := (s + 99991 * k * k + 31 * k + 1) % M1
def turnI (s k : Int) : Int := ((near1 s k * near1 s k % M1 + 40692 * k) * 48271 % M2) / 8
def turnN (s k : Nat) : Nat := (turnI s k).toNat
theorem turn_iv (s k : Nat) : V.int (turnI s k) = iv (turnN s k) := by
  have h : 0 ≤ turnI s k := Int.ediv_nonneg (Int.emod_nonneg _ (by decide)) (by decide)
  unfold turnN
  show _ = V.int ((turnI s k).toNat : Int)
  rw [Int.toNat_of_nonneg h]
theorem natAbs_mod (a : Int) : (a % M1).natAbs < 2 ^ 90 := by
  have h1 := Int.emod_nonneg a (b := M1) (by decide)
  have h2 : a % M1 < 618970019642690137449562111 := Int.emod_lt_of_pos a (by decide)
  have : (2 : Nat) ^ 90 = 1237940039285380274899124224 := by decide
  omega
section
variable {P : Program} {w : World} {K : PySem.W.Frag} {mg : Str → Option Value} {base : Heap} {T : Tbs}
abbrev s__law_turn : Stmt := top 109
abbrev N__law_turn : List Str := ["_law_stir", "_law_k", "_law_near"]
theorem sc__law_turn : FnScope N__law_turn ["_law_stir", "_law_k"] (defScope s__law_turn) := ⟨rfl, rfl, rfl, by decide +kernel, rfl, by decide +kernel, by decide +kernel⟩
-- slots: 0 _law_stir, 1 _law_k, 2 _law_near
def spTurn : Sp := fun vs H Q _ => ∃ s k : Nat, vs = [iv s, iv k] ∧ k < 2 ^ 20 ∧ Q (iv (turnN s k)) H
theorem ok__law_turn (D : DefAt K mg "_law_turn" s__law_turn) : Calls P w K mg base 1 "_law_turn" ["_law_stir", "_law_k"] spTurn := by
  refine D.ok sc__law_turn (fun vs H Q E h => ?_) (fun _ _ _ _ _ _ us hl => match us, hl with | [_, _], _ => rfl) (fun f cdv A outer s H vs Q E hr h => ?_)
  · obtain ⟨s, k, rfl, hk, q⟩ := h; rfl
  obtain ⟨s, k, rfl, hk, q⟩ := h
  have nd := sc__law_turn.nd
  have hu := hu_of hr
  refine ⟨_, (pss_cons (ps_set (i := 2) nd rfl (Or.inl rfl) (pe_op op_mod (pe_op op_add (pe_op op_add (pe_op op_add (pv 0) (pe_op op_mulW (pe_op op_mulW pe_int (pv 1)) (pv 1))) (pe_op op_mulW pe_int (pv 1))) pe_int) pe_int))
      (pss_cons (ps_set (i := 2) nd rfl (Or.inl rfl) (pe_op op_mod (pe_op op_mulW (pv 2) (pv 2)) pe_int))
      (pss_one (ps_ret (pe_op op_fdiv (pe_op op_mod (pe_op op_mulW (pe_op op_add (pv 2) (pe_op op_mulW pe_int (pv 1))) pe_int) pe_int) pe_int))))), ?_⟩
  have p20 : (2 : Nat) ^ 20 = 1048576 := by decide
  have p37 : (2 : Nat) ^ 37 = 137438953472 := by decide
  have p90 : (2 : Nat) ^ 90 = 1237940039285380274899124224 := by decide
  have p91 : (2 : Nat) ^ 91 = 2475880078570760549798248448 := by decide
  have hka : ((k : Nat) : Int).natAbs < 2 ^ 20 := by rw [Int.natAbs_natCast]; exact hk
  have c1 : CMulW 99991 (k : Int) := wide_mul (a := 17) (b := 20) (by decide) hka (by decide) (by decide) (by decide)
  have c2 : CMulW (99991 * (k : Int)) (k : Int) := wide_mul (a := 37) (b := 20) (by omega) hka (by decide) (by decide) (by decide)
  have c3 : CMulW 31 (k : Int) := wide_mul (a := 5) (b := 20) (by decide) hka (by decide) (by decide) (by decide)
  have c4 : CMulW (near1 s k) (near1 s k) := wide_mul (a := 90) (b := 90) (natAbs_mod _) (natAbs_mod _) (by decide) (by decide) (by decide)
  have c5 : CMulW 40692 (k : Int) := wide_mul (a := 16) (b := 20) (by decide) hka (by decide) (by decide) (by decide)
  have c6 : CMulW (near1 s k * near1 s k % M1 + 40692 * (k : Int)) 48271 := by
    refine wide_mul (a := 91) (b := 16) ?_ (by decide) (by decide) (by decide) (by decide)
    have h1 := natAbs_mod (near1 s k * near1 s k)
    omega
  refine e_seq (s_set (i := 2) (v := .int (near1 s k)) (vv_I (by decide) (vv_I0 (vv_I0 (vv_I0 (vv_var rfl) (vv_I c2 (vv_I c1 vv_c (vv_var rfl)) (vv_var rfl))) (vv_I c3 vv_c (vv_var rfl))) vv_c) vv_c) ?_)
  try dsimp only
  refine e_seq (s_set (i := 2) (v := .int (near1 s k * near1 s k % M1)) (vv_I (by decide) (vv_I c4 (vv_var rfl) (vv_var rfl)) vv_c) ?_)
  try dsimp only
  refine e_ret ((vv_I (C := CDiv) ⟨by decide, by decide⟩ (vv_I (by decide) (vv_I c6 (vv_I0 (vv_var rfl) (vv_I c5 vv_c (vv_var rfl))) vv_c) vv_c) vv_c : Vv _ _ H (.int (turnI s k))) _ ?_)
  rw [turn_iv]
  exact q
abbrev s__law_stirred : Stmt := top 108
abbrev N__law_stirred : List Str := ["_law_script", "_law_stir", "_law_cell"]
theorem sc__law_stirred : FnScope N__law_stirred ["_law_script"] (defScope s__law_stirred) := ⟨rfl, rfl, rfl, by decide +kernel, rfl, by decide +kernel, by decide +kernel⟩
-- slots: 0 _law_script, 1 _law_stir, 2 _law_cell
def spStirred (K : PySem.W.Frag) : Sp := fun vs H Q _ => ∃ (p : Addr) (cs : List Int), vs = [.ref p] ∧ SqL K H p (intsV cs) ∧ ∀ s : Nat, Q (iv s) H
theorem ints_getD {R : List Int} {i : Nat} {v : V} (h : (intsV R)[i]? = some v) : ∃ x, R[i]? = some x ∧ v = .int x := by
  rw [List.getElem?_map] at h
  cases e : R[i]? with
  | none => rw [e] at h; cases h
  | some x => rw [e] at h; exact ⟨x, rfl, (Option.some.inj h).symm⟩
theorem ok__law_stirred (D : DefAt K mg "_law_stirred" s__law_stirred) : Calls P w K mg base 1 "_law_stirred" ["_law_script"] (spStirred K) := by
  refine D.ok sc__law_stirred (fun vs H Q E h => ?_) (fun _ _ _ _ _ _ us hl => match us, hl with | [_], _ => rfl) (fun f cdv A outer s H vs Q E hr h => ?_)
  · obtain ⟨p, cs, rfl, hp, q⟩ := h; rfl
  obtain ⟨p, cs, rfl, hp, q⟩ := h
  have nd := sc__law_stirred.nd
  have hu := hu_of hr
  refine ⟨_, (pss_cons (ps_set (i := 1) nd rfl (Or.inl rfl) pe_int)
      (pss_cons (ps_for PassesOwn.never rfl (pi_list (pv 0)) (pg_name (i := 2) nd rfl (Or.inl rfl))
        (pss_one (ps_set (i := 1) nd rfl (Or.inl rfl) (pe_op op_mod (pe_op op_add (pe_op op_add (pe_op op_mulW (pv 1) (pv 1)) (pe_op op_mod (pv 2) (pe_op op_pow pe_int pe_int))) pe_int) pe_int))))
      (pss_one (ps_ret (pv 1))))), ?_⟩
  refine e_seq (s_set vv_c ?_)
  try dsimp only
  refine e_seq (e_for ⟨_, rfl, p, rfl, ⟨_, hp⟩, for_list (xs := intsV cs) (fun i σ H' => ∃ (x : Option V) (s : Int), σ = [some (.ref p), some (.int s), x] ∧ H' = H ∧ 0 ≤ s ∧ s.natAbs < 2 ^ 90) ⟨none, 5, rfl, rfl, by decide, by decide⟩ (fun i σ H' _ ⟨_, _, _, h, _⟩ => by rw [h]; exact hp) ?_ ?_⟩)
  · rintro i v σ H1 hi ⟨x, s, rfl, rfl, h0, h1⟩
    obtain ⟨c, hc, rfl⟩ := ints_getD hi
    have c1 : CMulW s s := wide_mul h1 h1 (by decide) (by decide) (by decide)
    refine s_set (v := .int ((s * s + c % (10 ^ (40 : Int).toNat) + 977) % M1)) (vv_I (by decide) (vv_I0 (vv_I0 (vv_I c1 (vv_var rfl) (vv_var rfl)) (vv_I (by decide) (vv_var rfl) (vv_I ⟨by decide, by decide, by decide⟩ vv_c vv_c))) vv_c) vv_c) ⟨_, _, rfl, rfl, Int.emod_nonneg _ (by decide), natAbs_mod _⟩
  · rintro σ H1 ⟨x, s, rfl, rfl, h0, h1⟩
    refine ⟨_, rfl, ?_⟩
    have := q s.toNat
    rw [show iv s.toNat = V.int s by show V.int (s.toNat : Int) = _; rw [Int.toNat_of_nonneg h0]] at this
    exact this
/-! ### orders -/
theorem plc_zero : Plc [] 0 := ⟨List.Perm.refl _⟩
theorem ins_nats (L : List Nat) (r k : Nat) : (nats L).take ((r : Int)).toNat ++ [iv k] ++ (nats L).drop ((r : Int)).toNat = nats (L.take r ++ [k] ++ L.drop r) := by
  rw [toNat_nat]
  unfold nats
  rw [List.map_append, List.map_append, List.map_take, List.map_drop]
  rfl
def RetOrd (T : Tbs) (H : Hp) (Q : VK) (most : Nat) : Prop := ∀ t H' O, Ext T H H' → H t = none → H' t = some (.tup (nats O)) → IsOrd O → O.length ≤ most → Q (.ref t) H'
theorem emodN (a b : Nat) : ((a : Int) % (b : Int)) = ((a % b : Nat) : Int) := (Int.natCast_emod a b).symm
theorem edivN (a b : Nat) : ((a : Int) / (b : Int)) = ((a / b : Nat) : Int) := (Int.natCast_ediv a b).symm
section
variable {σ : L2.St} {H : Hp} {ta tb : TE}
theorem vv_addN {a b : Nat} (ha : Vv ta σ H (iv a)) (hb : Vv tb σ H (iv b)) : Vv (tOp (rI0 fun i j => .int (i + j)) ta tb) σ H (iv (a + b)) := vv_is (vv_I0 ha hb) (by show V.int ((a : Int) + b) = V.int ((a + b : Nat) : Int); congr 1)
theorem vv_modN {a b : Nat} (h : 0 < b) (ha : Vv ta σ H (iv a)) (hb : Vv tb σ H (iv b)) : Vv (tOp (rI (fun _ j => 0 < j) fun i j => .int (i % j)) ta tb) σ H (iv (a % b)) :=
  vv_is (vv_I (C := fun _ j => 0 < j) (by show (0 : Int) < (b : Int); omega) ha hb) (by rw [emodN])
theorem vv_divN {a b : Nat} (h : 0 < b) (h2 : b < 1000000) (ha : Vv ta σ H (iv a)) (hb : Vv tb σ H (iv b)) : Vv (tOp (rI CDiv fun i j => .int (i / j)) ta tb) σ H (iv (a / b)) :=
  vv_is (vv_I (C := CDiv) ⟨by omega, by omega⟩ ha hb) (by rw [edivN])
theorem vv_nat {n : Nat} (h : Vv ta σ H (.int (n : Int))) : Vv ta σ H (iv n) := h
theorem vv_shl1 {a : Nat} (h : a ≤ 1000) (ha : Vv ta σ H (iv a)) : Vv (tOp (rI CPow fun i j => .int (i * 2 ^ j.toNat)) (tC (.int 1)) ta) σ H (iv (2 ^ a)) :=
  vv_is (vv_I (cpow1 (by omega)) vv_c ha) (by rw [shl_one])
theorem vv_or {a b : Nat} (ha : Vv ta σ H (iv a)) (hb : Vv tb σ H (iv b)) : Vv (tOp (rI0 fun i j => .int (Builtin.bitOr i j)) ta tb) σ H (iv (a ||| b)) := vv_is (vv_I0 ha hb) (by rw [or_nat])
theorem vv_ixN {l : Addr} {L : List Nat} {i x : Nat} (ha : Vv ta σ H (.ref l)) (hb : Vv tb σ H (iv i)) (hL : H l = some (.lst (nats L))) (h : L[i]? = some x) : Vv (tOp (rIxL K) ta tb) σ H (iv x) :=
  vv_ixL ha hb (SqL.of hL) (by rw [List.getElem?_map, h]; rfl)
theorem vv_turn {s k : Nat} (hk : k < 2 ^ 20) (ha : Vv ta σ H (iv s)) (hb : Vv tb σ H (iv k)) : Vv (tCall spTurn [] E0 (tCons ta (tCons tb tNil))) σ H (iv (turnN s k)) := fun Q q =>
  e_call (e_cons (ha _ (e_cons (hb _ (e_nil ⟨s, k, rfl, hk, q⟩)))))
end
abbrev s__law_digit_order : Stmt := top 110
abbrev N__law_digit_order : List Str := ["_law_own", "_law_most", "_law_many", "_law_places", "_law_k", "_law_masks", "_law_j", "_law_i"]
theorem sc__law_digit_order : FnScope N__law_digit_order ["_law_own", "_law_most"] (defScope s__law_digit_order) := ⟨rfl, rfl, rfl, by decide +kernel, rfl, by decide +kernel, by decide +kernel⟩
-- slots: 0 _law_own, 1 _law_most, 2 _law_many, 3 _law_places, 4 _law_k, 5 _law_masks, 6 _law_j, 7 _law_i
def spDigit (T : Tbs) : Sp := fun vs H Q _ => ∃ x most : Nat, vs = [iv x, iv most] ∧ most ≤ 16 ∧ RetOrd T H Q most
theorem ok__law_digit_order (B : Blt mg) (D : DefAt K mg "_law_digit_order" s__law_digit_order) : Calls P w K mg base 1 "_law_digit_order" ["_law_own", "_law_most"] (spDigit T) := by
  refine D.ok sc__law_digit_order (fun vs H Q E h => ?_) (fun _ _ _ _ _ _ us hl => match us, hl with | [_, _], _ => rfl) (fun f cdv A outer s H vs Q E hr h => ?_)
  · obtain ⟨x, most, rfl, hm, q⟩ := h; rfl
  obtain ⟨x, most, rfl, hm, q⟩ := h
  have nd := sc__law_digit_order.nd
  have hu := hu_of hr
  refine ⟨_, (pss_cons (ps_set (i := 2) nd rfl (Or.inl rfl) (pe_op op_mod (pv 0) (pe_op op_add (pv 1) pe_int)))
      (pss_cons (ps_set (i := 0) nd rfl (Or.inl rfl) (pe_op op_fdiv (pv 0) (pe_op op_add (pv 1) pe_int)))
      (pss_cons (ps_set (i := 3) nd rfl (Or.inl rfl) (pe_lst pa_nil))
      (pss_cons (ps_for PassesOwn.never rfl (pi_range1 (by rfl) B.range (pa_cons (pv 2) pa_nil)) (pg_name (i := 4) nd rfl (Or.inl rfl))
        (pss_cons (ps_expr (pe_bm PySem.F.plainAttrs_list PySem.F.slot_list_insert PySem.F.type_list_insert mt_insert (pv 3) (pa_cons (pe_op op_mod (pv 0) (pe_op op_add (pv 4) pe_int)) (pa_cons (pv 4) pa_nil))))
        (pss_one (ps_set (i := 0) nd rfl (Or.inl rfl) (pe_op op_fdiv (pv 0) (pe_op op_add (pv 4) pe_int))))))
      (pss_cons (ps_set (i := 5) nd rfl (Or.inl rfl) (pe_op op_rep (pe_lst (pa_cons pe_int pa_nil)) (pv 2)))
      (pss_cons (ps_for PassesOwn.never rfl (pi_range1 (by rfl) B.range (pa_cons (pv 2) pa_nil)) (pg_name (i := 6) nd rfl (Or.inl rfl))
        (pss_cons (ps_asg (pe_op op_shl pe_int (pe_ix (r := rIxL K) ix_list (pv 3) (pv 6) (fun _ _ => rfl))) (pg_sub (pv 5) (pe_ix (r := rIxL K) ix_list (pv 3) (pv 6) (fun _ _ => rfl)) set_list))
        (pss_one (ps_for PassesOwn.never rfl (pi_range1 (by rfl) B.range (pa_cons (pv 6) pa_nil)) (pg_name (i := 7) nd rfl (Or.inl rfl))
          (pss_cons (ps_if (pt_cmpR op_eq (pe_op op_mod (pv 0) pe_int) pe_int (nomark _))
            (pss_one (ps_asg (pe_op op_or (pe_ix (r := rIxL K) ix_list (pv 5) (pe_ix (r := rIxL K) ix_list (pv 3) (pv 6) (fun _ _ => rfl)) (fun _ _ => rfl)) (pe_ix (r := rIxL K) ix_list (pv 5) (pe_ix (r := rIxL K) ix_list (pv 3) (pv 7) (fun _ _ => rfl)) (fun _ _ => rfl))) (pg_sub (pv 5) (pe_ix (r := rIxL K) ix_list (pv 3) (pv 6) (fun _ _ => rfl)) set_list)))
            pss_nil)
          (pss_one (ps_set (i := 0) nd rfl (Or.inl rfl) (pe_op op_fdiv (pv 0) pe_int))))))))
      (pss_one (ps_ret (pe_callTy call_tuple_of (by rfl) B.tuple (by decide +kernel) (pa_cons (pv 5) pa_nil)))))))))), ?_⟩
  refine e_seq (s_set (v := iv (x % (most + 1))) (vv_modN (by omega) (vv_var rfl) (vv_addN (vv_var rfl) (b := 1) vv_c)) ?_)
  try dsimp only
  have hn : x % (most + 1) ≤ most := by have := Nat.mod_lt x (show 0 < most + 1 by omega); omega
  generalize x % (most + 1) = n at hn ⊢
  refine e_seq (s_set (v := iv (x / (most + 1))) (vv_divN (by omega) (by omega) (vv_var rfl) (vv_addN (vv_var rfl) (b := 1) vv_c)) ?_)
  try dsimp only
  refine e_seq (s_newL fun l hl => ?_)
  have e1 : Ext T H (upd H l (.lst [])) := .new hl
  try dsimp only
  refine e_seq (for_rng (T := T) n (by omega) (al_var rfl) (fun k σ H' => ∃ (own : Nat) (y : Option V) (L : List Nat), σ = [some (iv own), some (iv most), some (iv n), some (.ref l), y, none, none, none] ∧ Ext T H H' ∧ H' l = some (.lst (nats L)) ∧ Plc L k) ?_ ?_ ?_)
  · intro H1 e2
    exact ⟨_, none, [], rfl, e1.trans e2, e2.lst upd_same, plc_zero⟩
  · rintro k σ H1 hk ⟨own, y, L, rfl, e2, hL, hP⟩
    try dsimp only
    refine e_seq (e_drop (e_bm (vv_var rfl) hL (e_cons (vv_modN (b := k + 1) (by omega) (vv_var rfl) (vv_addN (vv_var rfl) (b := 1) vv_c) _ (e_cons (e_var rfl (e_nil ⟨l, _, _, _, rfl, rfl, hL, ?_, Int.natCast_nonneg _, ?_, ?_⟩)))))))
    · rw [nats_len, hP.len]; exact smallt (by omega)
    · have := Nat.mod_lt own (show 0 < k + 1 by omega)
      omega
    · rw [ins_nats]
      try dsimp only
      refine s_set (v := iv (own / (k + 1))) (vv_divN (by omega) (by omega) (vv_var rfl) (vv_addN (vv_var rfl) (b := 1) vv_c)) ⟨_, _, _, rfl, e2.mutL hl hL, upd_same, hP.ins⟩
  rintro σ H1 ⟨own, y, L, rfl, e2, hL, hP⟩
  try dsimp only
  refine e_seq (e_set (newI_rep (T := T) (n := n) (by omega) rfl _ fun ms H2 e3 hms hM => ?_))
  have hmsH : H ms = none := e2.back hms
  have nlm : l ≠ ms := fun z => by rw [z, hms] at hL; cases hL
  have hM : H2 ms = some (.lst (nats (List.replicate n 0))) := by
    rw [hM]
    unfold intsV nats
    rw [List.map_replicate, List.map_replicate]
    rfl
  try dsimp only
  refine e_seq (for_rng (T := T) n (by omega) (al_var rfl) (fun j σ H' => ∃ (own : Nat) (y z u : Option V) (M : List Nat), σ = [some (iv own), some (iv most), some (iv n), some (.ref l), y, some (.ref ms), z, u] ∧ Ext T H H' ∧ H' l = some (.lst (nats L)) ∧ H' ms = some (.lst (nats M)) ∧ M.length = n ∧ Gd L M j) ?_ ?_ ?_)
  · intro H3 e4
    exact ⟨_, _, _, _, _, rfl, (e2.trans e3).trans e4, e4.lst (e3.lst hL), e4.lst hM, List.length_replicate, gd_zero _ _⟩
  · rintro j σ H3 hj ⟨own, y, z, u, M, rfl, e4, hL4, hM4, hMl, hG⟩
    obtain ⟨p, hp⟩ : ∃ p, L[j]? = some p := ⟨_, List.getElem?_eq_getElem (by rw [hP.len]; exact hj)⟩
    have hpn := hP.lt hp
    try dsimp only
    refine e_seq (e_asg (vv_shl1 (a := p) (by omega) (vv_ixN (vv_var rfl) (vv_var rfl) hL4 hp) _ (g_setL hM4 (vv_var rfl) (vv_ixN (vv_var rfl) (vv_var rfl) hL4 hp) (by rw [nats_len, hMl]; exact hpn) ?_)))
    rw [nats_set]
    have e5 := e4.mutL (o := .lst (nats (M.set p (2 ^ p)))) hmsH hM4
    have hL5 : upd H3 ms (.lst (nats (M.set p (2 ^ p)))) l = some (.lst (nats L)) := by rw [upd_ne nlm]; exact hL4
    try dsimp only
    refine for_rng (T := T) j (by omega) (al_var rfl) (fun i σ H' => ∃ (own : Nat) (u : Option V) (M : List Nat), σ = [some (iv own), some (iv most), some (iv n), some (.ref l), y, some (.ref ms), some (iv j), u] ∧ Ext T H H' ∧ H' l = some (.lst (nats L)) ∧ H' ms = some (.lst (nats M)) ∧ M.length = n ∧ Gd L M (j + 1)) ?_ ?_ ?_
    · intro H4 e6
      exact ⟨own, u, M.set p (2 ^ p), rfl, e5.trans e6, e6.lst hL5, e6.lst upd_same, by rw [List.length_set]; exact hMl, gd_new hP hMl hG hp⟩
    · rintro i σ H4 hi ⟨own, u, M, rfl, e6, hL6, hM6, hMl6, hG6⟩
      obtain ⟨r, hr⟩ : ∃ r, L[i]? = some r := ⟨_, List.getElem?_eq_getElem (by rw [hP.len]; omega)⟩
      have hrn := hP.lt hr
      have gM : ∀ x, x < n → M[x]? = some (M.getD x 0) := fun x hx => by
        rw [List.getD_eq_getElem?_getD, List.getElem?_eq_getElem (by rw [hMl6]; exact hx)]; rfl
      try dsimp only
      refine e_seq (s_if (tt_eq (b := 1) (vv_mod2 (vv_var rfl)) (vv_is vv_c rfl)) (fun _ => ?_) (fun _ => ?_))
      · refine e_asg (vv_or (vv_ixN (vv_var rfl) (vv_ixN (vv_var rfl) (vv_var rfl) hL6 hp) hM6 (gM p hpn)) (vv_ixN (vv_var rfl) (vv_ixN (vv_var rfl) (vv_var rfl) hL6 hr) hM6 (gM r hrn)) _ (g_setL hM6 (vv_var rfl) (vv_ixN (vv_var rfl) (vv_var rfl) hL6 hp) (by rw [nats_len, hMl6]; exact hpn) ?_))
        rw [nats_set]
        try dsimp only
        refine s_set (v := iv (own / 2)) (vv_divN (b := 2) (by decide) (by decide) (vv_var rfl) vv_c) ⟨_, _, _, rfl, e6.mutL hmsH hM6, ?_, upd_same, by rw [List.length_set]; exact hMl6, gd_or hP hMl6 hG6 hp hi hr⟩
        rw [upd_ne nlm]; exact hL6
      · try unfold tNext
        try dsimp only
        exact s_set (v := iv (own / 2)) (vv_divN (b := 2) (by decide) (by decide) (vv_var rfl) vv_c) ⟨_, _, _, rfl, e6, hL6, hM6, hMl6, hG6⟩
    · rintro σ H4 ⟨own, u, M, rfl, e6, hL6, hM6, hMl6, hG6⟩
      exact ⟨_, _, _, _, _, rfl, e6, hL6, hM6, hMl6, hG6⟩
  · rintro σ H3 ⟨own, y, z, u, M, rfl, e4, hL4, hM4, hMl, hG⟩
    exact ⟨_, rfl, ms, _, rfl, .inl ⟨SqL.of hM4, fun t ht => q t _ M (e4.newer ht) (e4.back ht) upd_same (gd_ord hP hMl hG) (by omega)⟩⟩
end
end SW

/-! ## SwAB -/
/-! The law's orders and names. -/
namespace SW
open PySem PySem.Spec PyProof.Rows L2 Bits TL
section
variable {σ : L2.St} {H : Hp} {D : Ends} {ta tb : TE} {c : TT} {t u : TS} {b1 : Bool}
/-- both branches go on, in one form -/
theorem s_ifV {X : Type} (f : X → L2.St) (hc : Tt c σ H b1) (h1 : b1 = true → ∃ x, ∀ N : L2.St → Hp → Prop, N (f x) H → t { D with nx := N } σ H) (h2 : b1 = false → ∃ x, ∀ N : L2.St → Hp → Prop, N (f x) H → u { D with nx := N } σ H) (key : ∀ x, D.nx (f x) H) : tIfS c t u D σ H :=
  s_if hc (fun e => by
    obtain ⟨x, h⟩ := h1 e
    exact h D.nx (key x)) (fun e => by
    obtain ⟨x, h⟩ := h2 e
    exact h D.nx (key x))
theorem vv_mulN {a b : Nat} (h : a ≤ 1000) (ha : Vv ta σ H (iv a)) (hb : Vv tb σ H (iv b)) : Vv (tOp (rI CMul fun i j => .int (i * j)) ta tb) σ H (iv (a * b)) :=
  vv_is (vv_I (C := CMul) (.inl ⟨by omega, by omega⟩) ha hb) (by rw [← Int.natCast_mul])
theorem vv_mulN2 {a b : Nat} (h : b ≤ 1000) (ha : Vv ta σ H (iv a)) (hb : Vv tb σ H (iv b)) : Vv (tOp (rI CMul fun i j => .int (i * j)) ta tb) σ H (iv (a * b)) :=
  vv_is (vv_I (C := CMul) (.inr ⟨by omega, by omega⟩) ha hb) (by rw [← Int.natCast_mul])
end
section
variable {P : Program} {w : World} {K : PySem.W.Frag} {mg : Str → Option Value} {base : Heap} {T : Tbs}
abbrev s__law_order : Stmt := top 111
abbrev N__law_order : List Str := ["_law_script", "_law_stir", "_law_most", "_law_own", "_law_many", "_law_places", "_law_k", "_law_some", "_law_masks", "_law_j", "_law_i"]
theorem sc__law_order : FnScope N__law_order ["_law_script", "_law_stir", "_law_most"] (defScope s__law_order) := ⟨rfl, rfl, rfl, by decide +kernel, rfl, by decide +kernel, by decide +kernel⟩
-- slots: 0 _law_script, 1 _law_stir, 2 _law_most, 3 _law_own, 4 _law_many, 5 _law_places, 6 _law_k, 7 _law_some, 8 _law_masks, 9 _law_j, 10 _law_i
def spOrderL (T : Tbs) (K : PySem.W.Frag) : Sp := fun vs H Q _ => ∃ (p : Addr) (cs : List Int) (s most : Nat), vs = [.ref p, iv s, iv most] ∧ SqL K H p (intsV cs) ∧ cs.length ≤ 1000 ∧ most ≤ 16 ∧ RetOrd T H Q most
theorem ok__law_order (B : Blt mg) (D : DefAt K mg "_law_order" s__law_order) (g__law_turn : Calls P w K mg base 1 "_law_turn" ["_law_stir", "_law_k"] spTurn) (g__law_digit_order : Calls P w K mg base 1 "_law_digit_order" ["_law_own", "_law_most"] (spDigit T)) :
    Calls P w K mg base 2 "_law_order" ["_law_script", "_law_stir", "_law_most"] (spOrderL T K) := by
  refine D.ok sc__law_order (fun vs H Q E h => ?_) (fun _ _ _ _ _ _ us hl => match us, hl with | [_, _, _], _ => rfl) (fun f cdv A outer s H vs Q E hr h => ?_)
  · obtain ⟨p0, cs, s, most, rfl, hp0, hcs, hm, q⟩ := h; rfl
  obtain ⟨p0, cs, s, most, rfl, hp0, hcs, hm, q⟩ := h
  have nd := sc__law_order.nd
  have hu := hu_of hr
  refine ⟨_, (pss_cons (ps_set (i := 3) nd rfl (Or.inl rfl) pe_int)
      (pss_cons (ps_if (pt_cmpR op_gt (pe_callB (r := rLenK K) call_lenK (by rfl) B.len PySem.boot_len (pa_cons (pv 0) pa_nil)) pe_int (nomark _))
        (pss_one (ps_set (i := 3) nd rfl (Or.inl rfl) (pe_op op_mod (pe_ix (r := rIxL K) ix_list (pv 0) pe_int (fun _ _ => rfl)) (pe_op op_pow pe_int pe_int))))
        pss_nil)
      (pss_cons (ps_if (pt_cmpR op_eq (pe_op op_mod (pv 3) pe_int) pe_int (nomark _))
        (pss_one (ps_ret (pe_callD g__law_digit_order (hr.mono (by decide)) rfl (pa_cons (pe_op op_fdiv (pv 3) pe_int) (pa_cons (pv 2) pa_nil)))))
        pss_nil)
      (pss_cons (ps_set (i := 4) nd rfl (Or.inl rfl) (pe_op op_mod (pe_callD g__law_turn (hr.mono (by decide)) rfl (pa_cons (pv 1) (pa_cons pe_int pa_nil))) (pe_op op_add (pv 2) pe_int)))
      (pss_cons (ps_set (i := 5) nd rfl (Or.inl rfl) (pe_lst pa_nil))
      (pss_cons (ps_for PassesOwn.never rfl (pi_range1 (by rfl) B.range (pa_cons (pv 4) pa_nil)) (pg_name (i := 6) nd rfl (Or.inl rfl))
        (pss_one (ps_expr (pe_bm PySem.F.plainAttrs_list PySem.F.slot_list_insert PySem.F.type_list_insert mt_insert (pv 5) (pa_cons (pe_op op_mod (pe_callD g__law_turn (hr.mono (by decide)) rfl (pa_cons (pv 1) (pa_cons (pe_op op_add pe_int (pv 6)) pa_nil))) (pe_op op_add (pv 6) pe_int)) (pa_cons (pv 6) pa_nil))))))
      (pss_cons (ps_set (i := 7) nd rfl (Or.inl rfl) (pe_op op_add pe_int (pe_op op_mod (pe_callD g__law_turn (hr.mono (by decide)) rfl (pa_cons (pv 1) (pa_cons pe_int pa_nil))) pe_int)))
      (pss_cons (ps_set (i := 8) nd rfl (Or.inl rfl) (pe_op op_rep (pe_lst (pa_cons pe_int pa_nil)) (pv 4)))
      (pss_cons (ps_for PassesOwn.never rfl (pi_range1 (by rfl) B.range (pa_cons (pv 4) pa_nil)) (pg_name (i := 9) nd rfl (Or.inl rfl))
        (pss_cons (ps_asg (pe_op op_shl pe_int (pe_ix (r := rIxL K) ix_list (pv 5) (pv 9) (fun _ _ => rfl))) (pg_sub (pv 8) (pe_ix (r := rIxL K) ix_list (pv 5) (pv 9) (fun _ _ => rfl)) set_list))
        (pss_one (ps_for PassesOwn.never rfl (pi_range1 (by rfl) B.range (pa_cons (pv 9) pa_nil)) (pg_name (i := 10) nd rfl (Or.inl rfl))
          (pss_one (ps_if (pt_cmpR op_lt (pe_op op_mod (pe_callD g__law_turn (hr.mono (by decide)) rfl (pa_cons (pv 1) (pa_cons (pe_op op_add (pe_op op_add pe_int (pe_op op_mul pe_int (pv 9))) (pv 10)) pa_nil))) pe_int) (pv 7) (nomark _))
            (pss_one (ps_asg (pe_op op_or (pe_ix (r := rIxL K) ix_list (pv 8) (pe_ix (r := rIxL K) ix_list (pv 5) (pv 9) (fun _ _ => rfl)) (fun _ _ => rfl)) (pe_ix (r := rIxL K) ix_list (pv 8) (pe_ix (r := rIxL K) ix_list (pv 5) (pv 10) (fun _ _ => rfl)) (fun _ _ => rfl))) (pg_sub (pv 8) (pe_ix (r := rIxL K) ix_list (pv 5) (pv 9) (fun _ _ => rfl)) set_list)))
            pss_nil))))))
      (pss_one (ps_ret (pe_callTy call_tuple_of (by rfl) B.tuple (by decide +kernel) (pa_cons (pv 8) pa_nil))))))))))))), ?_⟩
  refine e_seq (s_set vv_c ?_)
  try dsimp only
  refine e_seq (s_ifV (X := Nat) (fun own => [some (.ref p0), some (iv s), some (iv most), some (iv own), none, none, none, none, none, none, none]) (b1 := decide (0 < cs.length)) ?_ (fun hc => ?_) (fun hc => ⟨0, fun N h => h⟩) fun own => ?_)
  · refine tt_is (tt_test (vv_I0 (i := (((intsV cs).length : Nat) : Int)) (vv_lenL rfl hp0) vv_c)) ?_
    rw [ints_len]
    exact decide_eq_decide.mpr (by omega)
  · have hpos : 0 < cs.length := of_decide_eq_true hc
    have h0 : 0 ≤ cs.getD 0 0 % (10 : Int) ^ (60 : Int).toNat := Int.emod_nonneg _ (by decide)
    refine ⟨(cs.getD 0 0 % (10 : Int) ^ (60 : Int).toNat).toNat, fun N h => ?_⟩
    refine s_set (v := .int (cs.getD 0 0 % (10 : Int) ^ (60 : Int).toNat)) (vv_I (by decide) (vv_ixL (i := 0) (vv_var rfl) (vv_is vv_c rfl) hp0 (at_ints hpos)) (vv_I ⟨by decide, by decide, by decide⟩ vv_c vv_c)) ?_
    have e : V.int (cs.getD 0 0 % (10 : Int) ^ (60 : Int).toNat) = iv (cs.getD 0 0 % (10 : Int) ^ (60 : Int).toNat).toNat := by
      show _ = V.int (((cs.getD 0 0 % (10 : Int) ^ (60 : Int).toNat).toNat : Nat) : Int)
      rw [Int.toNat_of_nonneg h0]
    rw [e]
    exact h
  try dsimp only
  refine e_seq (s_if (tt_eq (b := 1) (vv_mod2 (vv_var rfl)) (vv_is vv_c rfl)) (fun _ => ?_) (fun _ => ?_))
  · exact e_ret (e_call (e_cons (vv_divN (b := 2) (by decide) (by decide) (vv_var rfl) vv_c _ (e_cons (e_var rfl (e_nil ⟨_, most, rfl, hm, q⟩))))))
  try unfold tNext
  try dsimp only
  refine e_seq (s_set (v := iv (turnN s 1 % (most + 1))) (vv_modN (by omega) (vv_turn (k := 1) (by decide) (vv_var rfl) (vv_is vv_c rfl)) (vv_addN (vv_var rfl) (b := 1) vv_c)) ?_)
  try dsimp only
  have hn : turnN s 1 % (most + 1) ≤ most := by have := Nat.mod_lt (turnN s 1) (show 0 < most + 1 by omega); omega
  generalize turnN s 1 % (most + 1) = n at hn ⊢
  refine e_seq (s_newL fun l hl => ?_)
  have e1 : Ext T H (upd H l (.lst [])) := .new hl
  try dsimp only
  refine e_seq (for_rng (T := T) n (by omega) (al_var rfl) (fun k σ H' => ∃ (y : Option V) (L : List Nat), σ = [some (.ref p0), some (iv s), some (iv most), some (iv own), some (iv n), some (.ref l), y, none, none, none, none] ∧ Ext T H H' ∧ H' l = some (.lst (nats L)) ∧ Plc L k) ?_ ?_ ?_)
  · intro H1 e2
    exact ⟨none, [], rfl, e1.trans e2, e2.lst upd_same, plc_zero⟩
  · rintro k σ H1 hk ⟨y, L, rfl, e2, hL, hP⟩
    try dsimp only
    refine e_drop (e_bm (vv_var rfl) hL (e_cons (vv_modN (b := k + 1) (by omega) (vv_turn (k := 2 + k) (by omega) (vv_var rfl) (vv_addN (a := 2) vv_c (vv_var rfl))) (vv_addN (vv_var rfl) (b := 1) vv_c) _ (e_cons (e_var rfl (e_nil ⟨l, _, _, _, rfl, rfl, hL, ?_, Int.natCast_nonneg _, ?_, ?_⟩))))))
    · rw [nats_len, hP.len]; exact smallt (by omega)
    · have := Nat.mod_lt (turnN s (2 + k)) (show 0 < k + 1 by omega)
      omega
    · rw [ins_nats]
      exact ⟨_, _, rfl, e2.mutL hl hL, upd_same, hP.ins⟩
  rintro σ H1 ⟨y, L, rfl, e2, hL, hP⟩
  try dsimp only
  refine e_seq (s_set (v := iv (1 + turnN s 30 % 6)) (vv_addN (a := 1) vv_c (vv_modN (b := 6) (by decide) (vv_turn (k := 30) (by decide) (vv_var rfl) (vv_is vv_c rfl)) vv_c)) ?_)
  try dsimp only
  generalize 1 + turnN s 30 % 6 = some_
  refine e_seq (e_set (newI_rep (T := T) (n := n) (by omega) rfl _ fun ms H2 e3 hms hM => ?_))
  have hmsH : H ms = none := e2.back hms
  have nlm : l ≠ ms := fun z => by rw [z, hms] at hL; cases hL
  have hM : H2 ms = some (.lst (nats (List.replicate n 0))) := by
    rw [hM]
    unfold intsV nats
    rw [List.map_replicate, List.map_replicate]
    rfl
  try dsimp only
  refine e_seq (for_rng (T := T) n (by omega) (al_var rfl) (fun j σ H' => ∃ (y z u : Option V) (M : List Nat), σ = [some (.ref p0), some (iv s), some (iv most), some (iv own), some (iv n), some (.ref l), y, some (iv some_), some (.ref ms), z, u] ∧ Ext T H H' ∧ H' l = some (.lst (nats L)) ∧ H' ms = some (.lst (nats M)) ∧ M.length = n ∧ Gd L M j) ?_ ?_ ?_)
  · intro H3 e4
    exact ⟨_, _, _, _, rfl, (e2.trans e3).trans e4, e4.lst (e3.lst hL), e4.lst hM, List.length_replicate, gd_zero _ _⟩
  · rintro j σ H3 hj ⟨y, z, u, M, rfl, e4, hL4, hM4, hMl, hG⟩
    obtain ⟨p, hp⟩ : ∃ p, L[j]? = some p := ⟨_, List.getElem?_eq_getElem (by rw [hP.len]; exact hj)⟩
    have hpn := hP.lt hp
    try dsimp only
    refine e_seq (e_asg (vv_shl1 (a := p) (by omega) (vv_ixN (vv_var rfl) (vv_var rfl) hL4 hp) _ (g_setL hM4 (vv_var rfl) (vv_ixN (vv_var rfl) (vv_var rfl) hL4 hp) (by rw [nats_len, hMl]; exact hpn) ?_)))
    rw [nats_set]
    have e5 := e4.mutL (o := .lst (nats (M.set p (2 ^ p)))) hmsH hM4
    have hL5 : upd H3 ms (.lst (nats (M.set p (2 ^ p)))) l = some (.lst (nats L)) := by rw [upd_ne nlm]; exact hL4
    try dsimp only
    refine for_rng (T := T) j (by omega) (al_var rfl) (fun i σ H' => ∃ (u : Option V) (M : List Nat), σ = [some (.ref p0), some (iv s), some (iv most), some (iv own), some (iv n), some (.ref l), y, some (iv some_), some (.ref ms), some (iv j), u] ∧ Ext T H H' ∧ H' l = some (.lst (nats L)) ∧ H' ms = some (.lst (nats M)) ∧ M.length = n ∧ Gd L M (j + 1)) ?_ ?_ ?_
    · intro H4 e6
      exact ⟨u, M.set p (2 ^ p), rfl, e5.trans e6, e6.lst hL5, e6.lst upd_same, by rw [List.length_set]; exact hMl, gd_new hP hMl hG hp⟩
    · rintro i σ H4 hi ⟨u, M, rfl, e6, hL6, hM6, hMl6, hG6⟩
      obtain ⟨r, hr⟩ : ∃ r, L[i]? = some r := ⟨_, List.getElem?_eq_getElem (by rw [hP.len]; omega)⟩
      have hrn := hP.lt hr
      have gM : ∀ x, x < n → M[x]? = some (M.getD x 0) := fun x hx => by
        rw [List.getD_eq_getElem?_getD, List.getElem?_eq_getElem (by rw [hMl6]; exact hx)]; rfl
      try dsimp only
      refine s_if (tt_test (vv_I0 (vv_modN (b := 7) (by decide) (vv_turn (k := 40 + 20 * j + i) (by omega) (vv_var rfl) (vv_addN (vv_addN (a := 40) vv_c (vv_mulN (a := 20) (by decide) vv_c (vv_var rfl))) (vv_var rfl))) vv_c) (vv_var rfl))) (fun _ => ?_) (fun _ => ?_)
      · refine e_asg (vv_or (vv_ixN (vv_var rfl) (vv_ixN (vv_var rfl) (vv_var rfl) hL6 hp) hM6 (gM p hpn)) (vv_ixN (vv_var rfl) (vv_ixN (vv_var rfl) (vv_var rfl) hL6 hr) hM6 (gM r hrn)) _ (g_setL hM6 (vv_var rfl) (vv_ixN (vv_var rfl) (vv_var rfl) hL6 hp) (by rw [nats_len, hMl6]; exact hpn) ?_))
        rw [nats_set]
        refine ⟨_, _, rfl, e6.mutL hmsH hM6, ?_, upd_same, by rw [List.length_set]; exact hMl6, gd_or hP hMl6 hG6 hp hi hr⟩
        rw [upd_ne nlm]; exact hL6
      · exact ⟨_, _, rfl, e6, hL6, hM6, hMl6, hG6⟩
    · rintro σ H4 ⟨u, M, rfl, e6, hL6, hM6, hMl6, hG6⟩
      exact ⟨_, _, _, _, rfl, e6, hL6, hM6, hMl6, hG6⟩
  · rintro σ H3 ⟨y, z, u, M, rfl, e4, hL4, hM4, hMl, hG⟩
    exact ⟨_, rfl, ms, _, rfl, .inl ⟨SqL.of hM4, fun t ht => q t _ M (e4.newer ht) (e4.back ht) upd_same (gd_ord hP hMl hG) (by omega)⟩⟩
/-! ### names -/
def sgn (c : Nat) : Str := ⟨#[c]⟩
theorem sgn_tl (c : Nat) : tl (sgn c) = [c] := rfl
theorem sgn_len (c : Nat) : (sgn c).length = 1 := rfl
theorem every_at {i : Nat} (h : i < 26) : atI (tl ("abcdefghijklmnopqrstuvwxyz" : Str)) (i : Int) = some (97 + i) := by
  rw [lets_tl]
  refine atI_nat ?_
  rw [List.getElem?_range' h]
  simp
theorem vv_every {σ : L2.St} {H : Hp} {ta tb : TE} {i : Nat} (h : i < 26) (ha : Vv ta σ H (.str "abcdefghijklmnopqrstuvwxyz")) (hb : Vv tb σ H (iv i)) : Vv (tOp rIxS ta tb) σ H (.str (sgn (97 + i))) :=
  vv_op ha hb fun _ q => ⟨_, _, _, rfl, rfl, (by decide +kernel), every_at h, q⟩
/-- letter first or last -/
def nmL (front : Bool) (stem : Str) (t k : Nat) : Str := if front = true then sgn (97 + (t + k * 5) % 26) ++ stem else stem ++ sgn (97 + (t + k * 5) % 26)
theorem nmL_inj {front : Bool} {stem : Str} {t i j : Nat} (hi : i < 26) (hj : j < 26) (e : nmL front stem t i = nmL front stem t j) : i = j := by
  have e2 := congrArg tl e
  unfold nmL at e2
  have key : (t + i * 5) % 26 = (t + j * 5) % 26 → i = j := fun h => by omega
  refine key ?_
  cases front with
  | true =>
    rw [if_pos rfl, if_pos rfl, tl_append, tl_append, sgn_tl, sgn_tl] at e2
    have := (List.cons.inj e2).1
    omega
  | false =>
    rw [if_neg (by decide), if_neg (by decide), tl_append, tl_append, sgn_tl, sgn_tl] at e2
    have := List.append_cancel_left e2
    have := (List.cons.inj this).1
    omega
theorem nmL_ok {front : Bool} {stem : Str} {t k : Nat} (hs : ∀ c ∈ tl stem, 97 ≤ c ∧ c ≤ 122) (hl : stem.length ≤ 7) : NameOk (nmL front stem t k) := by
  have hm := Nat.mod_lt (t + k * 5) (show 0 < 26 by decide)
  have hc : ∀ c ∈ tl (nmL front stem t k), 97 ≤ c ∧ c ≤ 122 := fun c hc => by
    unfold nmL at hc
    split at hc
    · rw [tl_append, List.mem_append, sgn_tl, List.mem_singleton] at hc
      rcases hc with e | h
      · omega
      · exact hs c h
    · rw [tl_append, List.mem_append, sgn_tl, List.mem_singleton] at hc
      rcases hc with h | e
      · exact hs c h
      · omega
  have hlen : (nmL front stem t k).length = stem.length + 1 := by
    unfold nmL
    split
    · rw [Str.length_append, sgn_len]; omega
    · rw [Str.length_append, sgn_len]
  exact ⟨hc, by omega, by omega⟩
theorem nmL_nms {front : Bool} {stem : Str} {t n : Nat} (hs : ∀ c ∈ tl stem, 97 ≤ c ∧ c ≤ 122) (hl : stem.length ≤ 7) (hn : n ≤ 26) : Nms ((List.range n).map (nmL front stem t)) n := by
  refine ⟨by simp, fun s hs' => ?_, ?_⟩
  · obtain ⟨k, _, rfl⟩ := List.mem_map.mp hs'
    exact nmL_ok hs hl
  · refine List.pairwise_map.mpr (List.Pairwise.imp_of_mem ?_ (List.nodup_range (n := n)))
    intro a b ha hb hab e
    have ha := List.mem_range.mp ha
    have hb := List.mem_range.mp hb
    exact hab (nmL_inj (by omega) (by omega) e)
abbrev s__law_names : Stmt := top 112
abbrev N__law_names : List Str := ["_law_stir", "_law_many", "_law_every", "_law_stem", "_law_k", "_law_names_here", "_law_letter"]
theorem sc__law_names : FnScope N__law_names ["_law_stir", "_law_many"] (defScope s__law_names) := ⟨rfl, rfl, rfl, by decide +kernel, rfl, by decide +kernel, by decide +kernel⟩
-- slots: 0 _law_stir, 1 _law_many, 2 _law_every, 3 _law_stem, 4 _law_k, 5 _law_names_here, 6 _law_letter
def spNamesL (T : Tbs) : Sp := fun vs H Q _ => ∃ s n : Nat, vs = [iv s, iv n] ∧ n ≤ 16 ∧ ∀ p H' ns, Ext T H H' → H p = none → H' p = some (.lst (txts ns)) → Nms ns n → Q (.ref p) H'
theorem ok__law_names (B : Blt mg) (D : DefAt K mg "_law_names" s__law_names) (g__law_turn : Calls P w K mg base 1 "_law_turn" ["_law_stir", "_law_k"] spTurn) : Calls P w K mg base 2 "_law_names" ["_law_stir", "_law_many"] (spNamesL T) := by
  refine D.ok sc__law_names (fun vs H Q E h => ?_) (fun _ _ _ _ _ _ us hl => match us, hl with | [_, _], _ => rfl) (fun f cdv A outer s H vs Q E hr h => ?_)
  · obtain ⟨s, n, rfl, hn, q⟩ := h; rfl
  obtain ⟨s, n, rfl, hn, q⟩ := h
  have nd := sc__law_names.nd
  have hu := hu_of hr
  refine ⟨_, (pss_cons (ps_set (i := 2) nd rfl (Or.inl rfl) pe_str)
      (pss_cons (ps_set (i := 3) nd rfl (Or.inl rfl) pe_str)
      (pss_cons (ps_for PassesOwn.never rfl (pi_range1 (by rfl) B.range (pa_cons (pe_op op_mod (pe_callD g__law_turn (hr.mono (by decide)) rfl (pa_cons (pv 0) (pa_cons pe_int pa_nil))) pe_int) pa_nil)) (pg_name (i := 4) nd rfl (Or.inl rfl))
        (pss_one (ps_set (i := 3) nd rfl (Or.inl rfl) (pe_op op_add_str (pv 3) (pe_ix ix_str (pv 2) (pe_op op_mod (pe_callD g__law_turn (hr.mono (by decide)) rfl (pa_cons (pv 0) (pa_cons (pe_op op_add pe_int (pv 4)) pa_nil))) pe_int) (fun _ _ => rfl))))))
      (pss_cons (ps_set (i := 5) nd rfl (Or.inl rfl) (pe_lst pa_nil))
      (pss_cons (ps_for PassesOwn.never rfl (pi_range1 (by rfl) B.range (pa_cons (pv 1) pa_nil)) (pg_name (i := 4) nd rfl (Or.inl rfl))
        (pss_cons (ps_set (i := 6) nd rfl (Or.inl rfl) (pe_ix ix_str (pv 2) (pe_op op_mod (pe_op op_add (pe_callD g__law_turn (hr.mono (by decide)) rfl (pa_cons (pv 0) (pa_cons pe_int pa_nil))) (pe_op op_mul (pv 4) pe_int)) pe_int) (fun _ _ => rfl)))
        (pss_one (ps_if (pt_cmpR op_eq (pe_op op_mod (pe_callD g__law_turn (hr.mono (by decide)) rfl (pa_cons (pv 0) (pa_cons pe_int pa_nil))) pe_int) pe_int (nomark _))
          (pss_one (ps_expr (pe_bm PySem.F.plainAttrs_list PySem.F.slot_list_append PySem.F.type_list_append mt_append (pv 5) (pa_cons (pe_op op_add_str (pv 6) (pv 3)) pa_nil))))
          (pss_one (ps_expr (pe_bm PySem.F.plainAttrs_list PySem.F.slot_list_append PySem.F.type_list_append mt_append (pv 5) (pa_cons (pe_op op_add_str (pv 3) (pv 6)) pa_nil))))))))
      (pss_one (ps_ret (pv 5)))))))), ?_⟩
  refine e_seq (s_set vv_c ?_)
  try dsimp only
  refine e_seq (s_set vv_c ?_)
  try dsimp only
  refine e_seq (for_rng (T := T) (turnN s 17 % 8) (by have := Nat.mod_lt (turnN s 17) (show 0 < 8 by decide); omega) (fun Q' q' => e_cons (vv_modN (b := 8) (by decide) (vv_turn (k := 17) (by decide) (vv_var rfl) (vv_is vv_c rfl)) vv_c _ (e_nil (q' _ .refl)))) (fun k σ H' => ∃ (x : Option V) (stem : Str), σ = [some (iv s), some (iv n), some (.str "abcdefghijklmnopqrstuvwxyz"), some (.str stem), x, none, none] ∧ Ext T H H' ∧ stem.length = k ∧ ∀ c ∈ tl stem, 97 ≤ c ∧ c ≤ 122) ?_ ?_ ?_)
  · intro H1 e1
    refine ⟨none, "", rfl, e1, rfl, fun c hc => ?_⟩
    have : tl ("" : Str) = [] := by decide +kernel
    rw [this] at hc
    cases hc
  · rintro k σ H1 hk ⟨x, stem, rfl, e1, hl, hc⟩
    have hk8 : k < 8 := by have := Nat.mod_lt (turnN s 17) (show 0 < 8 by decide); omega
    have hm := Nat.mod_lt (turnN s (18 + k)) (show 0 < 26 by decide)
    refine s_set (v := .str (stem ++ sgn (97 + turnN s (18 + k) % 26))) (vv_addS (vv_var rfl) (vv_every hm (vv_var rfl) (vv_modN (b := 26) (by decide) (vv_turn (k := 18 + k) (by omega) (vv_var rfl) (vv_addN (a := 18) vv_c (vv_var rfl))) vv_c)) (by rw [sgn_len]; omega)) ⟨_, _, rfl, e1, by rw [Str.length_append, sgn_len, hl], fun c hc' => ?_⟩
    rw [tl_append, List.mem_append, sgn_tl, List.mem_singleton] at hc'
    rcases hc' with h | e
    · exact hc c h
    · omega
  rintro σ H1 ⟨x, stem, rfl, e1, hl, hc⟩
  have hl7 : stem.length ≤ 7 := by have := Nat.mod_lt (turnN s 17) (show 0 < 8 by decide); omega
  try dsimp only
  refine e_seq (s_newL fun l hl => ?_)
  have hlH : H l = none := e1.back hl
  have e2 := e1.newer (o := .lst []) hl
  try dsimp only
  refine e_seq (for_rng (T := T) n (by omega) (al_var rfl) (fun k σ H' => ∃ (x y : Option V), σ = [some (iv s), some (iv n), some (.str "abcdefghijklmnopqrstuvwxyz"), some (.str stem), x, some (.ref l), y] ∧ Ext T H H' ∧ H' l = some (.lst (txts ((List.range k).map (nmL (decide (turnN s 15 % 2 = 0)) stem (turnN s 16)))))) ?_ ?_ ?_)
  · intro H2 e3
    exact ⟨_, _, rfl, e2.trans e3, e3.lst upd_same⟩
  · rintro k σ H2 hk ⟨x, y, rfl, e3, hL⟩
    have hm := Nat.mod_lt (turnN s 16 + k * 5) (show 0 < 26 by decide)
    have hstep : (List.range (k + 1)).map (nmL (decide (turnN s 15 % 2 = 0)) stem (turnN s 16)) = (List.range k).map (nmL (decide (turnN s 15 % 2 = 0)) stem (turnN s 16)) ++ [nmL (decide (turnN s 15 % 2 = 0)) stem (turnN s 16) k] := by
      rw [List.range_succ, List.map_append]; rfl
    try dsimp only
    refine e_seq (s_set (v := .str (sgn (97 + (turnN s 16 + k * 5) % 26))) (vv_every hm (vv_var rfl) (vv_modN (b := 26) (by decide) (vv_addN (vv_turn (k := 16) (by decide) (vv_var rfl) (vv_is vv_c rfl)) (vv_mulN2 (b := 5) (by decide) (vv_var rfl) vv_c)) vv_c)) ?_)
    try dsimp only
    refine s_if (tt_eq (b := 0) (vv_mod2 (vv_turn (k := 15) (by decide) (vv_var rfl) (vv_is vv_c rfl))) (vv_is vv_c rfl)) (fun hc => ?_) (fun hc => ?_)
    · refine s_app hL (vv_var rfl) (vv_addS (vv_var rfl) (vv_var rfl) (by rw [sgn_len]; omega)) (by simp; omega) ⟨_, _, rfl, e3.mutL hlH hL, ?_⟩
      rw [upd_same, strs_app, hstep, hc]
      rfl
    · refine s_app hL (vv_var rfl) (vv_addS (vv_var rfl) (vv_var rfl) (by rw [sgn_len]; omega)) (by simp; omega) ⟨_, _, rfl, e3.mutL hlH hL, ?_⟩
      rw [upd_same, strs_app, hstep, hc]
      rfl
  · rintro σ H2 ⟨x, y, rfl, e3, hL⟩
    exact ⟨_, rfl, q l H2 _ e3 hlH hL (nmL_nms hc hl7 (by omega))⟩
end
end SW

/-! ## SwS4 -/
/-! The rule for a text taken a number of times. -/
namespace SW
open PySem PySem.Spec PyProof.Rows L2 Bits
def rMulS : R2 := fun x y H Q => ∃ (a : Str) (n : Int), x = .str a ∧ y = .int n ∧ MulOk a n ∧ Q (.str (Txt.mul a n)) H
theorem op_mul_str {X : Cx} : OpR X (binaryOp .Mult) rMulS := by
  intro pins s σ H x y v u Q I rx ry h
  obtain ⟨a, n, rfl, rfl, hk, q⟩ := h
  obtain ⟨t, rfl⟩ := rx
  obtain ⟨t', rfl⟩ := ry
  exact SB.mul hk fun t'' k => ⟨.str _, H, I.tok _, ⟨_, rfl⟩, q⟩
theorem mulOk1 : MulOk (" " : Str) 1 := by
  refine ⟨by decide, fun _ h => ?_, fun _ h => ?_⟩
  · exact absurd h (by decide +kernel)
  · exact absurd h (by decide +kernel)
theorem mulOk2 : MulOk (" " : Str) 2 := by
  refine ⟨by decide, fun _ _ => by decide +kernel, fun _ _ => by decide +kernel⟩
theorem mul1 : Txt.mul (" " : Str) 1 = " " := by decide +kernel
theorem mul2 : Txt.mul (" " : Str) 2 = "  " := by decide +kernel
end SW

/-! ## SwAC -/
/-! The law's other text. -/
namespace SW
open PySem PySem.Spec PyProof.Rows L2 Bits TL
section
variable {P : Program} {w : World} {K : PySem.W.Frag} {mg : Str → Option Value} {base : Heap} {T : Tbs}
abbrev Rs := List (Str × List Nat)
structure RsOk (ns : List Str) (O : List Nat) (rs : Rs) : Prop where
  row : ∀ x ∈ rs, RowIs ns x.1 x.2 ∧ ChOk O x.2
theorem RsOk.snoc {ns : List Str} {O : List Nat} {rs : Rs} (h : RsOk ns O rs) {r : Str} {c : List Nat} (h1 : RowIs ns r c) (h2 : ChOk O c) : RsOk ns O (rs ++ [(r, c)]) := ⟨fun x hx => by
  rcases List.mem_append.mp hx with k | k
  · exact h.row x k
  · rw [List.mem_singleton.mp k]; exact ⟨h1, h2⟩⟩
theorem RsOk.ins {ns : List Str} {O : List Nat} {rs : Rs} (h : RsOk ns O rs) {r : Str} {c : List Nat} (i : Nat) (h1 : RowIs ns r c) (h2 : ChOk O c) : RsOk ns O (rs.take i ++ [(r, c)] ++ rs.drop i) := ⟨fun x hx => by
  rcases List.mem_append.mp hx with k | k
  · rcases List.mem_append.mp k with k | k
    · exact h.row x (List.mem_of_mem_take k)
    · rw [List.mem_singleton.mp k]; exact ⟨h1, h2⟩
  · exact h.row x (List.mem_of_mem_drop k)⟩
def Has (rs : Rs) (y : Nat × Nat) : Prop := ∃ x ∈ rs, y ∈ chPairs x.2
theorem has_ins {rs : Rs} {y : Nat × Nat} {r : Str × List Nat} (i : Nat) (h : Has rs y) : Has (rs.take i ++ [r] ++ rs.drop i) y := by
  obtain ⟨x, hx, hy⟩ := h
  rw [← List.take_append_drop i rs] at hx
  refine ⟨x, ?_, hy⟩
  rcases List.mem_append.mp hx with k | k
  · exact List.mem_append_left _ (List.mem_append_left _ k)
  · exact List.mem_append_right _ k
theorem has_new {rs : Rs} {y : Nat × Nat} {r : Str × List Nat} (i : Nat) (h : y ∈ chPairs r.2) : Has (rs.take i ++ [r] ++ rs.drop i) y :=
  ⟨r, List.mem_append_left _ (List.mem_append_right _ (List.mem_singleton.mpr rfl)), h⟩
theorem has_snoc {rs : Rs} {y : Nat × Nat} {r : Str × List Nat} (h : Has rs y) : Has (rs ++ [r]) y := by
  obtain ⟨x, hx, hy⟩ := h
  exact ⟨x, List.mem_append_left _ hx, hy⟩
theorem rs_tells {ns : List Str} {O : List Nat} {rs : Rs} (h : RsOk ns O rs) (hc : ∀ y ∈ nexts O, Has rs y) : Tells (rs.flatMap fun x => chPairs x.2) O :=
  ⟨fun x hx => by
    obtain ⟨y, hy, hx⟩ := List.mem_flatMap.mp hx
    exact (h.row y hy).2.up x hx, fun y hy => by
    obtain ⟨x, hx, h⟩ := hc y hy
    exact List.mem_flatMap.mpr ⟨x, hx, h⟩⟩
theorem ins_strs (rs : Rs) (r : Str × List Nat) (i : Nat) : (txts (rs.map (·.1))).take ((i : Int)).toNat ++ [V.str r.1] ++ (txts (rs.map (·.1))).drop ((i : Int)).toNat = txts ((rs.take i ++ [r] ++ rs.drop i).map (·.1)) := by
  rw [toNat_nat]
  unfold txts
  rw [List.map_append, List.map_append, List.map_append, List.map_append, List.map_take, List.map_drop, List.map_take, List.map_drop]
  rfl
theorem nexts36 {O : List Nat} (h : O.length ≤ 6) : (nexts O).length ≤ 36 := by
  have h1 := nextsTo_len O O.length 0 (Nat.zero_le _)
  rw [nextsTo_all] at h1
  have : O.length * O.length ≤ 6 * 6 := Nat.mul_le_mul h h
  omega
theorem tt_eqM {σ : L2.St} {H : Hp} {s k m r : Nat} {ta tb : TE} (hk : k < 2 ^ 20) (hm : 0 < m) (ha : Vv ta σ H (iv s)) (hb : Vv tb σ H (iv k)) (e1 : (m : Int) = mI) (e2 : (r : Int) = rI_) :
    Tt (tTest (tOp rEq (tOp (rI (fun _ j => 0 < j) fun i j => .int (i % j)) (tCall spTurn [] E0 (tCons ta (tCons tb tNil))) (tC (.int mI))) (tC (.int rI_)))) σ H (decide (turnN s k % m = r)) := by
  subst e1 e2
  exact tt_eq (vv_modN hm (vv_turn hk ha hb) vv_c) vv_c
abbrev s__law_other_text : Stmt := top 115
abbrev N__law_other_text : List Str := ["_law_names_here", "_law_order_here", "_law_stir", "_law_rows", "_law_pairs", "_law_k", "_law_a", "_law_b", "_law_words", "_law_c", "_law_d", "_law_row"]
theorem sc__law_other_text : FnScope N__law_other_text ["_law_names_here", "_law_order_here", "_law_stir"] (defScope s__law_other_text) := ⟨rfl, rfl, rfl, by decide +kernel, rfl, by decide +kernel, by decide +kernel⟩
-- slots: 0 _law_names_here, 1 _law_order_here, 2 _law_stir, 3 _law_rows, 4 _law_pairs, 5 _law_k, 6 _law_a, 7 _law_b, 8 _law_words, 9 _law_c, 10 _law_d, 11 _law_row
def spOther (T : Tbs) (K : PySem.W.Frag) : Sp := fun vs H Q _ => ∃ (nm : Addr) (ns : List Str) (p : Addr) (O : List Nat) (s : Nat), vs = [.ref nm, .ref p, iv s] ∧ H nm = some (.lst (txts ns)) ∧ OrdAt K H p O ∧ IsOrd O ∧ O.length ≤ 6 ∧ Nms ns O.length ∧
  ∀ H' t, Ext T H H' → Writes t ns O → Q (.str t) H'
theorem ok__law_other_text (B : Blt mg) (D : DefAt K mg "_law_other_text" s__law_other_text) (g__law_turn : Calls P w K mg base 1 "_law_turn" ["_law_stir", "_law_k"] spTurn) (g__law_nexts : Calls P w K mg base 1 "_law_nexts" ["_law_order_here"] (spNextsL T K)) :
    Calls P w K mg base 2 "_law_other_text" ["_law_names_here", "_law_order_here", "_law_stir"] (spOther T K) := by
  refine D.ok sc__law_other_text (fun vs H Q E h => ?_) (fun _ _ _ _ _ _ us hl => match us, hl with | [_, _, _], _ => rfl) (fun f cdv A outer s H vs Q E hr h => ?_)
  · obtain ⟨nm, ns, p, O, s, rfl, hN, hO, hI, h6, hns, q⟩ := h; rfl
  obtain ⟨nm, ns, p, O, s, rfl, hN, hO, hI, h6, hns, q⟩ := h
  have nd := sc__law_other_text.nd
  have hu := hu_of hr
  refine ⟨_, (pss_cons (ps_set (i := 3) nd rfl (Or.inl rfl) (pe_lst pa_nil))
      (pss_cons (ps_set (i := 4) nd rfl (Or.inl rfl) (pe_callD g__law_nexts (hr.mono (by decide)) rfl (pa_cons (pv 1) pa_nil)))
      (pss_cons (ps_for PassesOwn.never rfl (pi_range1 (by rfl) B.range (pa_cons (pe_callB (r := rLenK K) call_lenK (by rfl) B.len PySem.boot_len (pa_cons (pv 4) pa_nil)) pa_nil)) (pg_name (i := 5) nd rfl (Or.inl rfl))
        (pss_cons (ps_asg (pe_ix (r := rIxL K) ix_list (pv 4) (pv 5) (fun _ _ => rfl)) (pg_tup rfl (pgs_cons (pg_name (i := 6) nd rfl (Or.inl rfl)) (pgs_cons (pg_name (i := 7) nd rfl (Or.inl rfl)) pgs_nil))))
        (pss_cons (ps_set (i := 8) nd rfl (Or.inl rfl) (pe_lst (pa_cons (pe_ix (r := rIxL K) ix_list (pv 0) (pv 6) (fun _ _ => rfl)) (pa_cons pe_str (pa_cons (pe_ix (r := rIxL K) ix_list (pv 0) (pv 7) (fun _ _ => rfl)) pa_nil)))))
        (pss_cons (ps_for PassesOwn.never rfl (pi_list (pv 4)) (pg_tup rfl (pgs_cons (pg_name (i := 9) nd rfl (Or.inl rfl)) (pgs_cons (pg_name (i := 10) nd rfl (Or.inl rfl)) pgs_nil)))
          (pss_one (ps_if (PW.pt (pw_and (pt_cmpR op_eq (pv 9) (pv 7) (nomark _)) (pw_and (pt_cmpR op_eq (pe_op op_mod (pe_callD g__law_turn (hr.mono (by decide)) rfl (pa_cons (pv 2) (pa_cons (pe_op op_add pe_int (pv 5)) pa_nil))) pe_int) pe_int (nomark _)) (pw_and1 (pt_cmpR op_eq (pe_callB (r := rLenK K) call_lenK (by rfl) B.len PySem.boot_len (pa_cons (pv 8) pa_nil)) pe_int (nomark _))))))
            (pss_one (ps_set (i := 8) nd rfl (Or.inl rfl) (pe_op op_cat (pv 8) (pe_lst (pa_cons pe_str (pa_cons (pe_ix (r := rIxL K) ix_list (pv 0) (pv 10) (fun _ _ => rfl)) pa_nil))))))
            pss_nil)))
        (pss_cons (ps_set (i := 11) nd rfl (Or.inl rfl) (pe_join (pe_op op_mul_str pe_str (pe_op op_add pe_int (pe_op op_mod (pe_callD g__law_turn (hr.mono (by decide)) rfl (pa_cons (pv 2) (pa_cons (pe_op op_add pe_int (pv 5)) pa_nil))) pe_int))) (pv 8)))
        (pss_one (ps_expr (pe_bm PySem.F.plainAttrs_list PySem.F.slot_list_insert PySem.F.type_list_insert mt_insert (pv 3) (pa_cons (pe_op op_mod (pe_callD g__law_turn (hr.mono (by decide)) rfl (pa_cons (pv 2) (pa_cons (pe_op op_add pe_int (pv 5)) pa_nil))) (pe_op op_add (pe_callB (r := rLenK K) call_lenK (by rfl) B.len PySem.boot_len (pa_cons (pv 3) pa_nil)) pe_int)) (pa_cons (pv 11) pa_nil))))))))))
      (pss_cons (ps_for PassesOwn.never rfl (pi_range1 (by rfl) B.range (pa_cons (pe_callB (r := rLenK K) call_lenK (by rfl) B.len PySem.boot_len (pa_cons (pv 1) pa_nil)) pa_nil)) (pg_name (i := 7) nd rfl (Or.inl rfl))
        (pss_one (ps_for PassesOwn.never rfl (pi_range1 (by rfl) B.range (pa_cons (pe_callB (r := rLenK K) call_lenK (by rfl) B.len PySem.boot_len (pa_cons (pv 1) pa_nil)) pa_nil)) (pg_name (i := 6) nd rfl (Or.inl rfl))
          (pss_one (ps_if (PW.pt (pw_and (pt_cmpR op_ne (pv 6) (pv 7) (nomark _)) (pw_and (pt_cmpR op_eq (pe_op op_and (pe_op op_shr (pe_ix (r := rIxT K) ix_tup (pv 1) (pv 7) (fun _ _ => rfl)) (pv 6)) pe_int) pe_int (nomark _)) (pw_and1 (pt_cmpR op_eq (pe_op op_mod (pe_callD g__law_turn (hr.mono (by decide)) rfl (pa_cons (pv 2) (pa_cons (pe_op op_add (pe_op op_add pe_int (pe_op op_mul pe_int (pv 6))) (pv 7)) pa_nil))) pe_int) pe_int (nomark _))))))
            (pss_one (ps_expr (pe_bm PySem.F.plainAttrs_list PySem.F.slot_list_append PySem.F.type_list_append mt_append (pv 3) (pa_cons (pe_op op_add_str (pe_op op_add_str (pe_op op_add_str (pe_op op_add_str pe_str (pe_ix (r := rIxL K) ix_list (pv 0) (pv 6) (fun _ _ => rfl))) pe_str) (pe_ix (r := rIxL K) ix_list (pv 0) (pv 7) (fun _ _ => rfl))) pe_str) pa_nil))))
            pss_nil)))))
      (pss_one (ps_ret (pe_join pe_str (pe_op op_cat (pe_lst (pa_cons (pe_join pe_str (pe_op op_cat (pe_lst (pa_cons pe_str pa_nil)) (pv 0))) pa_nil)) (pv 3))))))))), ?_⟩
  have hlen := hO.len
  have hnx := nexts36 h6
  refine e_seq (s_newL fun l hl => ?_)
  have e1 : Ext T H (upd H l (.lst [])) := .new hl
  try dsimp only
  refine e_seq (e_set (e_call ⟨_, rfl, p, O, rfl, hO.ext e1, fun pr H1 e2 hpr hPr => ?_⟩))
  obtain ⟨us, hus, hpu⟩ := hPr
  have hul := Pd.len hpu
  have e12 := e1.trans e2
  have npl : pr ≠ l := fun z => by rw [z, upd_same] at hpr; cases hpr
  have hL1 := e2.lst (upd_same (H := H) (a := l) (o := .lst []))
  -- what stands at the second list's heap stays
  try dsimp only
  refine e_seq (for_rng (T := T) (nexts O).length (by omega) (by rw [← hul]; exact al_lenL rfl (SqL.of hus)) (fun k σ H' => ∃ (x1 x2 x3 x4 x5 x6 x7 : Option V) (rs : Rs), σ = [some (.ref nm), some (.ref p), some (iv s), some (.ref l), some (.ref pr), x1, x2, x3, x4, x5, x6, x7] ∧ Ext T H H' ∧ H' pr = some (.lst us) ∧ Paired (IsPr H') us (nexts O) ∧ H' l = some (.lst (txts (rs.map (·.1)))) ∧ RsOk ns O rs ∧ rs.length = k ∧
    ∀ y ∈ (nexts O).take k, Has rs y) ?_ ?_ ?_)
  · intro H2 e3
    exact ⟨_, _, _, _, _, _, _, [], rfl, e12.trans e3, e3.lst hus, Pd.imp hpu fun _ _ h => h.ext e3, e3.lst hL1, ⟨fun _ h => nomatch h⟩, rfl, fun y hy => by simp at hy⟩
  · rintro k σ H2 hk ⟨x1, x2, x3, x4, x5, x6, x7, rs, rfl, e3, hus3, hpu3, hL3, hrs, hrl, hcv⟩
    obtain ⟨⟨a, b⟩, hab⟩ : ∃ y, (nexts O)[k]? = some y := ⟨_, List.getElem?_eq_getElem hk⟩
    obtain ⟨v, hv, tq, rfl, htq⟩ := Pd.got hpu3 hab
    have hm := mem_nexts.mp (List.mem_of_getElem? hab)
    have hc := cov_le hm.2.2
    try dsimp only
    refine e_seq (e_asg (vv_ixL (vv_var rfl) (vv_var rfl) (SqL.of hus3) hv _ ⟨tq, _, rfl, SqT.of htq, rfl, _, _, rfl, _, _, rfl, rfl, ?_⟩))
    have nmv : ∀ {σ : L2.St} {H' : Hp} {j i : Nat}, Ext T H H' → σ[0]? = some (some (.ref nm)) → σ[j]? = some (some (iv i)) → i < O.length → Vv (tOp (rIxL K) (tVar 0) (tVar j)) σ H' (.str (nmOf ns i)) := fun e h1 h2 hi => vv_ixL (vv_var h1) (vv_var h2) (SqL.of (e.lst hN)) (nm_get hns.toOk hi)
    try dsimp only
    -- the words
    refine e_seq (e_set (e_lst (e_cons (nmv e3 rfl rfl hm.1 _ (e_cons (vv_c _ (e_cons (nmv e3 rfl rfl hm.2.1 _ (e_nil ⟨(by show 3 ≤ sizeLine; decide), fun wd hwd => ?_⟩)))))))))
    have e4 : Ext T H2 (upd H2 wd (.lst [V.str (nmOf ns a), V.str "<", V.str (nmOf ns b)])) := .new hwd
    have hW4 : upd H2 wd (.lst [V.str (nmOf ns a), V.str "<", V.str (nmOf ns b)]) wd = some (.lst (txts (chainW ns [a, b]))) := by rw [upd_same, ch2_words]; rfl
    generalize upd H2 wd (.lst [V.str (nmOf ns a), V.str "<", V.str (nmOf ns b)]) = H3 at e4 hW4 ⊢
    try dsimp only
    refine e_seq (e_for ⟨_, rfl, pr, rfl, ⟨_, SqL.of (e4.lst hus3)⟩, for_list (xs := us) (fun j σ H' => ∃ (x5 x6 : Option V) (wd : Addr) (c : List Nat), σ = [some (.ref nm), some (.ref p), some (iv s), some (.ref l), some (.ref pr), some (iv k), some (iv a), some (iv b), some (.ref wd), x5, x6, x7] ∧ Ext T H2 H' ∧ H' wd = some (.lst (txts (chainW ns c))) ∧ ChOk O c ∧ (a, b) ∈ chPairs c ∧ (c.length = 2 → c = [a, b]))
      ⟨_, _, wd, [a, b], rfl, e4, hW4, chOk2 hI hc.1 hc.2, by rw [ch2_pairs]; exact List.mem_singleton.mpr rfl, fun _ => rfl⟩ (fun i σ H' _ ⟨_, _, _, _, _, e, _⟩ => SqL.of (e.lst hus3)) ?_ ?_⟩)
    · rintro j v σ H4 hj ⟨y5, y6, wd', c, rfl, e5, hW5, hck, hin, h2⟩
      obtain ⟨⟨cc, dd⟩, hcd, ty, rfl, hty⟩ := Pd.get (Pd.imp hpu3 fun _ _ h => IsPr.ext e5 h) hj
      have hm2 := mem_nexts.mp (List.mem_of_getElem? hcd)
      have hc2 := cov_le hm2.2.2
      refine ⟨ty, _, rfl, SqT.of hty, rfl, _, _, rfl, _, _, rfl, rfl, ?_⟩
      try dsimp only
      have hwl : (txts (chainW ns c)).length = 2 * c.length - 1 := by rw [List.length_map, chainW_len]
      refine s_if (tt_and (tt_eq (vv_var rfl) (vv_var rfl)) fun _ => tt_and (tt_eqM (k := 60 + k) (m := 3) (r := 0) (by omega) (by decide) (vv_var rfl) (vv_addN (a := 60) vv_c (vv_var rfl)) rfl rfl) fun _ => tt_eq (a := 2 * c.length - 1) (b := 3) (vv_is (vv_lenL rfl (SqL.of hW5)) (by rw [hwl])) (vv_is vv_c rfl)) (fun hcond => ?_) (fun _ => ?_)
      · simp only [Bool.and_eq_true, decide_eq_true_eq] at hcond
        have hcb : cc = b := hcond.1
        have hc2l : c.length = 2 := by have := hcond.2.2; have := hck.lo; omega
        have hce := h2 hc2l
        subst hce
        subst hcb
        refine e_set (e_op (e_var rfl (e_lst (e_cons (vv_c _ (e_cons (nmv (e3.trans e5) rfl rfl hm2.2.1 _ (e_nil ⟨(by show 2 ≤ sizeLine; decide), fun z hz => ?_⟩))))))))
        have e6 : Ext T H4 (upd H4 z (.lst [V.str "<", V.str (nmOf ns dd)])) := .new hz
        refine ⟨wd', z, _, _, rfl, rfl, e6.lst hW5, upd_same, ?_, fun g hg => ?_⟩
        · rw [hwl]
          show 2 * 2 - 1 + 2 ≤ sizeLine
          decide
        · have e7 := e6.newer (o := .lst (txts (chainW ns [a, cc]) ++ [V.str "<", V.str (nmOf ns dd)])) hg
          refine ⟨_, _, g, [a, cc, dd], rfl, e5.trans e7, ?_, chOk3 hI hc.1 hc.2 hc2.1 hc2.2, by rw [ch3_pairs]; exact List.mem_cons_self, fun h => absurd h (by show ¬ 3 = 2; decide)⟩
          rw [upd_same, ch2_words, ch3_words]
          rfl
      · exact ⟨_, _, wd', c, rfl, e5, hW5, hck, hin, h2⟩
    · rintro σ H4 ⟨y5, y6, wd', c, rfl, e5, hW5, hck, hin, h2⟩
      have hL5 := e5.lst hL3
      try dsimp only
      have hsep : ∀ (σ : L2.St), σ[2]? = some (some (iv s)) → σ[5]? = some (some (iv k)) → ∃ (m : Nat) (y : Str), m ≤ 1 ∧ tl y = List.replicate (m + 1) 32 ∧ y.length ≤ 2 ∧ Vv (tOp rMulS (tC (.str " ")) (tOp (rI0 fun i j => V.int (i + j)) (tC (.int 1)) (tOp (rI (fun _ j => 0 < j) fun i j => .int (i % j)) (tCall spTurn [] E0 (tCons (tVar 2) (tCons (tOp (rI0 fun i j => V.int (i + j)) (tC (.int 90)) (tVar 5)) tNil))) (tC (.int 2))))) σ H4 (.str y) := by
        intro σ h2 h5
        have hv : Vv (tOp (rI0 fun i j => V.int (i + j)) (tC (.int 1)) (tOp (rI (fun _ j => 0 < j) fun i j => .int (i % j)) (tCall spTurn [] E0 (tCons (tVar 2) (tCons (tOp (rI0 fun i j => V.int (i + j)) (tC (.int 90)) (tVar 5)) tNil))) (tC (.int 2)))) σ H4 (iv (1 + turnN s (90 + k) % 2)) :=
          vv_addN (a := 1) vv_c (vv_modN (b := 2) (by decide) (vv_turn (k := 90 + k) (by omega) (vv_var h2) (vv_addN (a := 90) vv_c (vv_var h5))) vv_c)
        rcases Nat.mod_two_eq_zero_or_one (turnN s (90 + k)) with z | z
        · rw [z] at hv
          exact ⟨0, " ", by decide, tl_sp1, by decide +kernel, vv_op vv_c hv fun Q' q' => ⟨" ", 1, rfl, rfl, mulOk1, by rw [mul1]; exact q'⟩⟩
        · rw [z] at hv
          exact ⟨1, "  ", by decide, tl_sp2, by decide +kernel, vv_op vv_c hv fun Q' q' => ⟨" ", 2, rfl, rfl, mulOk2, by rw [mul2]; exact q'⟩⟩
      obtain ⟨m, y, hm1, hy, hyl, hyv⟩ := hsep [some (.ref nm), some (.ref p), some (iv s), some (.ref l), some (.ref pr), some (iv k), some (iv a), some (iv b), some (.ref wd'), y5, y6, x7] rfl rfl
      have hrow := rowJ_is (y := y) hns hm1 hy hck.lt hck.hi hck.lo
      have hwl5 : (chainW ns c).length ≤ 5 := by rw [chainW_len]; have := hck.hi; omega
      have hroom : ((chainW ns c).map (·.length)).sum + (chainW ns c).length * y.length ≤ 16777216 := join_room (L := 8) (c := 5) (fun w' hw' => by
        unfold chainW at hw'
        obtain ⟨i, hi, rfl⟩ := List.mem_map.mp hw'
        unfold chW
        split
        · decide +kernel
        · exact nm_len hns.toOk _) hwl5 (by omega)
      refine e_seq (e_set (hyv _ ⟨⟨_, rfl⟩, _, rfl, _, wd', _, rfl, rfl, .inl (SqL.of hW5), hroom, ?_⟩))
      try dsimp only
      have hrlen : (txts (rs.map (·.1))).length = k := by rw [List.length_map, List.length_map, hrl]
      refine e_drop (e_bm (vv_var rfl) hL5 (e_cons (vv_modN (b := k + 1) (by omega) (vv_turn (k := 120 + k) (by omega) (vv_var rfl) (vv_addN (a := 120) vv_c (vv_var rfl))) (vv_addN (a := k) (b := 1) (vv_is (vv_lenL rfl (SqL.of hL5)) (by rw [hrlen])) vv_c) _ (e_cons (e_var rfl (e_nil ⟨l, _, _, _, rfl, rfl, hL5, ?_, Int.natCast_nonneg _, ?_, ?_⟩))))))
      · rw [hrlen]; exact smallt (by omega)
      · have := Nat.mod_lt (turnN s (120 + k)) (show 0 < k + 1 by omega)
        omega
      · have hins := ins_strs rs (Txt.join y (chainW ns c), c) (turnN s (120 + k) % (k + 1))
        refine ⟨_, _, _, _, _, _, _, rs.take (turnN s (120 + k) % (k + 1)) ++ [(Txt.join y (chainW ns c), c)] ++ rs.drop (turnN s (120 + k) % (k + 1)), rfl, (e3.trans e5).mutL hl hL5, ?_, Pd.imp hpu3 fun _ _ h => (h.ext e5).upd hL5, ?_, hrs.ins _ hrow hck, ?_, fun z hz => ?_⟩
        · rw [upd_ne npl]
          exact e5.lst hus3
        · rw [upd_same]
          exact congrArg some (congrArg HO.lst hins)
        · have := congrArg List.length (List.take_append_drop (turnN s (120 + k) % (k + 1)) rs)
          simp only [List.length_append, List.length_singleton] at this ⊢
          omega
        · rw [take_snoc hab] at hz
          rcases List.mem_append.mp hz with h | h
          · exact has_ins _ (hcv z h)
          · rw [List.mem_singleton.mp h]
            exact has_new _ hin
  rintro σ H2 ⟨x1, x2, x3, x4, x5, x6, x7, rs, rfl, e3, hus3, hpu3, hL3, hrs, hrl, hcv⟩
  rw [List.take_length] at hcv
  try dsimp only
  -- the pairs that follow
  refine e_seq (for_rng (T := T) O.length (by omega) (al_lenO rfl (hO.ext e3)) (fun b σ H' => ∃ (x1 x2 x3 x4 x5 x6 x7 : Option V) (rs : Rs), σ = [some (.ref nm), some (.ref p), some (iv s), some (.ref l), some (.ref pr), x1, x2, x3, x4, x5, x6, x7] ∧ Ext T H H' ∧ H' l = some (.lst (txts (rs.map (·.1)))) ∧ RsOk ns O rs ∧ rs.length ≤ 36 + b * O.length ∧ ∀ y ∈ nexts O, Has rs y) ?_ ?_ ?_)
  · intro H3 e4
    exact ⟨_, _, _, _, _, _, _, rs, rfl, e3.trans e4, e4.lst hL3, hrs, by omega, hcv⟩
  · rintro b σ H3 hb ⟨x1, x2, x3, x4, x5, x6, x7, rs, rfl, e4, hL4, hrs4, hrl4, hcv4⟩
    try dsimp only
    refine for_rng (T := T) O.length (by omega) (al_lenO rfl (hO.ext e4)) (fun a σ H' => ∃ (x1 x2 x4 x5 x6 x7 : Option V) (rs : Rs), σ = [some (.ref nm), some (.ref p), some (iv s), some (.ref l), some (.ref pr), x1, x2, some (iv b), x4, x5, x6, x7] ∧ Ext T H H' ∧ H' l = some (.lst (txts (rs.map (·.1)))) ∧ RsOk ns O rs ∧ rs.length ≤ 36 + b * O.length + a ∧ ∀ y ∈ nexts O, Has rs y) ?_ ?_ ?_
    · intro H4 e5
      exact ⟨_, _, _, _, _, _, rs, rfl, e4.trans e5, e5.lst hL4, hrs4, by omega, hcv4⟩
    · rintro a σ H4 ha ⟨x1, x2, x4, x5, x6, x7, rs, rfl, e5, hL5, hrs5, hrl5, hcv5⟩
      have hO5 := hO.ext e5
      have hbn : b * O.length ≤ 6 * 6 := Nat.mul_le_mul (by omega) h6
      have nmv : ∀ {σ : L2.St} {j i : Nat}, σ[0]? = some (some (.ref nm)) → σ[j]? = some (some (iv i)) → i < O.length → Vv (tOp (rIxL K) (tVar 0) (tVar j)) σ H4 (.str (nmOf ns i)) := fun h1 h2 hi => vv_ixL (vv_var h1) (vv_var h2) (SqL.of (e5.lst hN)) (nm_get hns.toOk hi)
      try dsimp only
      refine s_if (tt_and (tt_ne (vv_var rfl) (vv_var rfl)) fun _ => tt_and (tt_bit rfl rfl rfl hO5 hb) fun _ => tt_eqM (k := 150 + 20 * a + b) (m := 4) (r := 0) (by omega) (by decide) (vv_var rfl) (vv_addN (vv_addN (a := 150) vv_c (vv_mulN (a := 20) (by decide) vv_c (vv_var rfl))) (vv_var rfl)) rfl rfl) (fun hcond => ?_) (fun _ => ?_)
      · simp only [Bool.and_eq_true, decide_eq_true_eq] at hcond
        have l1 := nm_len hns.toOk a
        have l2 := nm_len hns.toOk b
        have len_sp2 : ("  " : Str).length = 2 := by decide +kernel
        refine s_app hL5 (vv_var rfl) (vv_addS (vv_addS (vv_addS (vv_addS vv_c (nmv rfl rfl ha) (by rw [len_sp2]; omega)) vv_c (by rw [Str.length_append, len_sp2, len_lt3]; omega)) (nmv rfl rfl hb) (by rw [Str.length_append, Str.length_append, len_sp2, len_lt3]; omega)) vv_c (by rw [Str.length_append, Str.length_append, Str.length_append, len_sp2, len_lt3, len_sp]; omega)) ?_
          ⟨_, _, _, _, _, _, rs ++ [(("  " : Str) ++ nmOf ns a ++ (" < " : Str) ++ nmOf ns b ++ (" " : Str), [a, b])], rfl, e5.mutL hl hL5, ?_, hrs5.snoc (rowX_is hns ha hb) (chOk2 hI hcond.1 hcond.2.1), by rw [List.length_append, List.length_singleton]; omega, fun y hy => has_snoc (hcv5 y hy)⟩
        · rw [List.length_map, List.length_map]
          omega
        · rw [upd_same, strs_app, List.map_append]
          rfl
      · exact ⟨_, _, _, _, _, _, rs, rfl, e5, hL5, hrs5, by omega, hcv5⟩
    · rintro σ H4 ⟨x1, x2, x4, x5, x6, x7, rs, rfl, e5, hL5, hrs5, hrl5, hcv5⟩
      refine ⟨_, _, _, _, _, _, _, rs, rfl, e5, hL5, hrs5, ?_, hcv5⟩
      rw [Nat.succ_mul]
      omega
  · rintro σ H3 ⟨x1, x2, x3, x4, x5, x6, x7, rs, rfl, e4, hL4, hrs4, hrl4, hcv4⟩
    have hsq : O.length * O.length ≤ 6 * 6 := Nat.mul_le_mul h6 h6
    try dsimp only
    refine e_ret ⟨⟨_, rfl⟩, ⟨_, rfl⟩, (by show 1 ≤ sizeLine; decide), fun d hd => ?_⟩
    have e5 : Ext T H3 (upd H3 d (.lst [V.str "things"])) := .new hd
    have e45 := e4.trans e5
    refine ⟨_, rfl, d, nm, _, _, rfl, rfl, upd_same, e45.lst hN, ?_, fun g hg => ⟨_, g, ("things" : Str) :: ns, rfl, rfl, .inl (SqL.of upd_same), head_room hns.toOk hlen, (by show 1 ≤ sizeLine; decide), fun h hh => ?_⟩⟩
    · show 1 + (txts ns).length ≤ sizeLine
      rw [List.length_map, hns.len]
      exact small (by omega)
    have e6 := e5.newer (o := .lst ([V.str "things"] ++ txts ns)) hg
    have e7 := e6.newer (o := .lst [V.str (headRow ns)]) hh
    have hL7 := e7.lst hL4
    refine ⟨_, rfl, h, l, _, _, rfl, rfl, upd_same, hL7, ?_, fun z hz => ⟨_, z, headRow ns :: rs.map (·.1), rfl, rfl, .inl (SqL.of upd_same), ?_, ?_⟩⟩
    · show 1 + (txts (rs.map (·.1))).length ≤ sizeLine
      rw [List.length_map, List.length_map]
      exact small (by omega)
    · refine join_room (L := 200) (c := 200) (fun y hy => ?_) (by rw [List.length_cons, List.length_map]; omega) (by rw [len_nl]; decide)
      rcases List.mem_cons.mp hy with e | hy
      · rw [e]; exact head_len hns.toOk hlen
      · obtain ⟨x, hx, rfl⟩ := List.mem_map.mp hy
        exact (hrs4.row x hx).1.len
    · exact q _ _ ((e4.trans e7).newer hz) (writes_of hI hlen hns (by omega) hrs4.row (rs_tells hrs4 hcv4))
end
end SW

/-! ## SwAD -/
/-! desk.py: the defs outside the class. -/
namespace SW
open PySem PySem.Spec PyProof.Rows L2 Bits TL
theorem eqV_str (x y : Str) : eqV (.str x) (.str y) = decide (x = y) := by
  show (x == y) = _
  by_cases h : x = y
  · subst h; simp
  · have : (x == y) = false := by simpa using h
    rw [this, decide_eq_false h]
theorem inV_strs (s : Str) : ∀ l : List Str, inV (.str s) (txts l) = decide (s ∈ l)
  | [] => rfl
  | x :: r => by
    show (eqV (.str x) (.str s) || inV (.str s) (txts r)) = _
    rw [inV_strs s r, eqV_str]
    by_cases h : x = s
    · subst h; simp
    · have h3 : ¬ s = x := fun e => h e.symm
      simp [h, h3]
def yn (b : Bool) : Str := if b = true then "yes" else "no"
def lets (n : Nat) : List Str := (List.range n).map fun k => sgn 97 ++ sgn (97 + k)
theorem lets_ok (n : Nat) : NmsOk (lets n) n := ⟨by unfold lets; rw [List.length_map, List.length_range], fun s hs => by
  obtain ⟨k, _, rfl⟩ := List.mem_map.mp hs
  rw [Str.length_append, sgn_len, sgn_len]
  decide⟩
section
variable {P : Program} {w : World} {K : PySem.W.Frag} {mg : Str → Option Value} {base : Heap} {T : Tbs}
abbrev s_thing_of : Stmt := top 98
abbrev N_thing_of : List Str := ["names", "word"]
theorem sc_thing_of : FnScope N_thing_of ["names", "word"] (defScope s_thing_of) := ⟨rfl, rfl, rfl, by decide +kernel, rfl, by decide +kernel, by decide +kernel⟩
-- slots: 0 names, 1 word
def spThingOf (K : PySem.W.Frag) : Sp := fun vs H Q _ => ∃ (p : Addr) (ns : List Str) (n i : Nat), vs = [.ref p, .str (nmOf ns i)] ∧ Tz H p (txts ns) ∧ Nms ns n ∧ i < n ∧ Q (iv i) H
theorem ok_thing_of (B : Blt mg) (D : DefAt K mg "thing_of" s_thing_of) : Calls P w K mg base 1 "thing_of" ["names", "word"] (spThingOf K) := by
  refine D.ok sc_thing_of (fun vs H Q E h => ?_) (fun _ _ _ _ _ _ us hl => match us, hl with | [_, _], _ => rfl) (fun f cdv A outer s H vs Q E hr h => ?_)
  · obtain ⟨p, ns, n, i, rfl, hp, hns, hi, q⟩ := h; rfl
  obtain ⟨p, ns, n, i, rfl, hp, hns, hi, q⟩ := h
  have nd := sc_thing_of.nd
  have hu := hu_of hr
  refine ⟨_, (pss_cons (ps_if (pt_cmpR op_notIn_seq (pv 1) (pv 0) rfl)
        pss_never
        pss_nil)
      (pss_one (ps_ret (pe_bmZ PySem.F.plainAttrs_tuple PySem.F.slot_tuple_index PySem.F.type_tuple_index mt_tup_index (pv 0) (pa_cons (pv 1) pa_nil))))), ?_⟩
  have hget : ns[i]? = some (nmOf ns i) := by
    unfold nmOf
    rw [List.getD_eq_getElem?_getD, List.getElem?_eq_getElem (by rw [hns.len]; exact hi)]
    rfl
  have hin : nmOf ns i ∈ ns := List.mem_of_getElem? hget
  refine e_seq (e_if ⟨_, rfl, _, rfl, p, _, rfl, .inr hp.st, rfl, flat_strs ns, _, rfl, ?_⟩)
  rw [if_pos rfl, inV_strs, decide_eq_true hin]
  refine iteF ?_
  try unfold tNext
  try dsimp only
  refine ⟨_, rfl, ⟨p, _, rfl, hp⟩, _, rfl, p, ns, _, i, rfl, rfl, hp.st, hget, fun m hm e => ?_, q⟩
  have := (List.getElem?_inj (by rw [hns.len]; exact hi) hns.nd).mp (hget.trans e.symm)
  omega
abbrev s_yes_or_no : Stmt := top 99
abbrev N_yes_or_no : List Str := ["so"]
theorem sc_yes_or_no : FnScope N_yes_or_no ["so"] (defScope s_yes_or_no) := ⟨rfl, rfl, rfl, by decide +kernel, rfl, by decide +kernel, by decide +kernel⟩
-- slots: 0 so
def spYesNo : Sp := fun vs H Q _ => ∃ b : Bool, vs = [.bl b] ∧ Q (.str (yn b)) H
theorem ok_yes_or_no (D : DefAt K mg "yes_or_no" s_yes_or_no) : Calls P w K mg base 1 "yes_or_no" ["so"] spYesNo := by
  refine D.ok sc_yes_or_no (fun vs H Q E h => ?_) (fun _ _ _ _ _ _ us hl => match us, hl with | [_], _ => rfl) (fun f cdv A outer s H vs Q E hr h => ?_)
  · obtain ⟨b, rfl, q⟩ := h; rfl
  obtain ⟨b, rfl, q⟩ := h
  have nd := sc_yes_or_no.nd
  have hu := hu_of hr
  refine ⟨_, (pss_cons (ps_if (pt_val (pv 0))
        (pss_one (ps_ret pe_str))
        pss_nil)
      (pss_one (ps_ret pe_str))), ?_⟩
  refine ⟨_, rfl, b, rfl, ?_⟩
  cases b with
  | true => exact iteT q
  | false => exact iteF q
abbrev s_told_of_two_things : Stmt := top 102
abbrev N_told_of_two_things : List Str := ["head", "names", "order", "a", "b", "found"]
theorem sc_told_of_two_things : FnScope N_told_of_two_things ["head", "names", "order", "a", "b"] (defScope s_told_of_two_things) := ⟨rfl, rfl, rfl, by decide +kernel, rfl, by decide +kernel, by decide +kernel⟩
-- slots: 0 head, 1 names, 2 order, 3 a, 4 b, 5 found
def spTold2T (T : Tbs) (K : PySem.W.Frag) : Sp := fun vs H Q _ => ∃ (hd : Str) (nv : V) (p : Addr) (O : List Nat) (a b : Nat), vs = [.str hd, nv, .ref p, iv a, iv b] ∧ OrdAt K H p O ∧ IsOrd O ∧ a < O.length ∧ b < O.length ∧ LamX.Tabs T H ∧
  ((hd = "sign" ∧ ∀ H', Ext T H H' → Q (.str (numS (gn O (-1) a b))) H') ∨ (hd = "chains" ∧ ∀ H', Ext T H H' → Q (.str (numS (gn O 1 a b))) H'))
theorem ok_told_of_two_things (B : Blt mg) (D : DefAt K mg "told_of_two_things" s_told_of_two_things) (g_signs_table : Calls P w K mg base 7 "signs_table" ["order"] (spSignsTable T K)) (g_chain_many : Calls P w K mg base 8 "chain_many" ["order", "a", "b"] (spChainMany T K)) :
    Calls P w K mg base 9 "told_of_two_things" ["head", "names", "order", "a", "b"] (spTold2T T K) := by
  refine D.ok sc_told_of_two_things (fun vs H Q E h => ?_) (fun _ _ _ _ _ _ us hl => match us, hl with | [_, _, _, _, _], _ => rfl) (fun f cdv A outer s H vs Q E hr h => ?_)
  · obtain ⟨hd, nv, p, O, a, b, rfl, hO, hI, ha, hb, hT, q⟩ := h; rfl
  obtain ⟨hd, nv, p, O, a, b, rfl, hO, hI, ha, hb, hT, q⟩ := h
  have nd := sc_told_of_two_things.nd
  have hu := hu_of hr
  refine ⟨_, (pss_cons (ps_if (pt_cmpR op_eq (pv 0) pe_str (nomark _))
        (pss_one (ps_ret (pe_callTy call_str_int (by rfl) B.str (by decide +kernel) (pa_cons (pe_ix (r := rIxT K) ix_tup (pe_ix (r := rIxT K) ix_tup (pe_callD g_signs_table (hr.mono (by decide)) rfl (pa_cons (pv 2) pa_nil)) (pv 3) (fun _ _ => rfl)) (pv 4) (fun _ _ => rfl)) pa_nil))))
        pss_nil)
      (pss_cons (ps_if (pt_cmpR op_eq (pv 0) pe_str (nomark _))
        (pss_one (ps_ret (pe_callTy call_str_int (by rfl) B.str (by decide +kernel) (pa_cons (pe_callD g_chain_many (hr.mono (by decide)) rfl (pa_cons (pv 2) (pa_cons (pv 3) (pa_cons (pv 4) pa_nil)))) pa_nil))))
        pss_nil)
      pss_never)), ?_⟩
  have hlen := hO.len
  rcases q with ⟨rfl, q⟩ | ⟨rfl, q⟩
  · refine e_seq (s_if (b1 := true) (tt_is (tt_eqS (vv_var rfl) vv_c) (decide_eq_true rfl)) (fun _ => ?_) (fun h => by cases h))
    refine e_ret (e_cb (e_cons (e_op (e_op (e_call ⟨_, rfl, p, O, rfl, hO, hI, hT, fun t H' ts e1 ht hTab => ?_⟩)))))
    obtain ⟨x, hx, hxt⟩ := tab_get hTab ha
    refine ⟨_, rfl, t, _, _, _, rfl, rfl, SqT.of hTab.at_, atI_nat (refs_get hx), _, rfl, x.1, _, _, _, rfl, rfl, SqT.of hxt, atI_nat (at_ints (by unfold gRow; rw [List.length_map, List.length_range]; exact hb)), _, rfl, ?_, ?_⟩
    · rw [gRow_get hb]; exact gn_log hlen (by decide) a b
    · rw [gRow_get hb]; exact q H' e1
  · refine e_seq (s_if (b1 := false) (tt_is (tt_eqS (vv_var rfl) vv_c) (decide_eq_false (by decide +kernel))) (fun h => by cases h) (fun _ => ?_))
    try unfold tNext
    try dsimp only
    refine e_seq (s_if (b1 := true) (tt_is (tt_eqS (vv_var rfl) vv_c) (decide_eq_true rfl)) (fun _ => ?_) (fun h => by cases h))
    exact e_ret (e_cb (e_cons (e_call ⟨_, rfl, _, rfl, _, rfl, p, O, a, b, rfl, hO, hI, ha, hb, hT, fun H' e1 => ⟨_, rfl, gn_log hlen (by decide) a b, q H' e1⟩⟩)))
abbrev s_told_of_one : Stmt := top 103
abbrev N_told_of_one : List Str := ["head", "names", "order"]
theorem sc_told_of_one : FnScope N_told_of_one ["head", "names", "order"] (defScope s_told_of_one) := ⟨rfl, rfl, rfl, by decide +kernel, rfl, by decide +kernel, by decide +kernel⟩
-- slots: 0 head, 1 names, 2 order
def spTold1 (T : Tbs) (K : PySem.W.Frag) : Sp := fun vs H Q _ => ∃ (hd : Str) (nm : Addr) (ns : List Str) (p : Addr) (O : List Nat), vs = [.str hd, .ref nm, .ref p] ∧ SqT K H nm (txts ns) ∧ Nms ns O.length ∧ OrdAt K H p O ∧ IsOrd O ∧ LamX.Tabs T H ∧
  ((hd = "signs" ∧ ∀ H', Ext T H H' → Q (.str (tabText ns O)) H') ∨ (hd = "ranked" ∧ ∀ H', Ext T H H' → Q (.str (yn (ranked O))) H'))
theorem ok_told_of_one (B : Blt mg) (D : DefAt K mg "told_of_one" s_told_of_one) (g_shown_table : Calls P w K mg base 1 "shown_table" ["names", "order", "table"] (spTable T K)) (g_signs_table : Calls P w K mg base 7 "signs_table" ["order"] (spSignsTable T K))
    (g_yes_or_no : Calls P w K mg base 1 "yes_or_no" ["so"] spYesNo) (g_ranks_bar : Calls P w K mg base 8 "ranks_bar" ["order"] (spBar T K)) : Calls P w K mg base 9 "told_of_one" ["head", "names", "order"] (spTold1 T K) := by
  refine D.ok sc_told_of_one (fun vs H Q E h => ?_) (fun _ _ _ _ _ _ us hl => match us, hl with | [_, _, _], _ => rfl) (fun f cdv A outer s H vs Q E hr h => ?_)
  · obtain ⟨hd, nm, ns, p, O, rfl, hN, hns, hO, hI, hT, q⟩ := h; rfl
  obtain ⟨hd, nm, ns, p, O, rfl, hN, hns, hO, hI, hT, q⟩ := h
  have nd := sc_told_of_one.nd
  have hu := hu_of hr
  refine ⟨_, (pss_cons (ps_if (pt_cmpR op_eq (pv 0) pe_str (nomark _))
        (pss_one (ps_ret (pe_callD g_shown_table (hr.mono (by decide)) rfl (pa_cons (pv 1) (pa_cons (pv 2) (pa_cons (pe_callD g_signs_table (hr.mono (by decide)) rfl (pa_cons (pv 2) pa_nil)) pa_nil))))))
        pss_nil)
      (pss_cons (ps_if (pt_cmpR op_eq (pv 0) pe_str (nomark _))
        pss_never
        pss_nil)
      (pss_cons (ps_if (pt_cmpR op_eq (pv 0) pe_str (nomark _))
        pss_never
        pss_nil)
      (pss_cons (ps_if (pt_cmpR op_eq (pv 0) pe_str (nomark _))
        pss_never
        pss_nil)
      (pss_one (ps_ret (pe_callD g_yes_or_no (hr.mono (by decide)) rfl (pa_cons (pe_cmp (pc_isN (pe_callD g_ranks_bar (hr.mono (by decide)) rfl (pa_cons (pv 2) pa_nil)))) pa_nil)))))))), ?_⟩
  rcases q with ⟨rfl, q⟩ | ⟨rfl, q⟩
  · refine e_seq (s_if (b1 := true) (tt_is (tt_eqS (vv_var rfl) vv_c) (decide_eq_true rfl)) (fun _ => ?_) (fun h => by cases h))
    exact e_ret (e_call ⟨_, rfl, _, rfl, _, rfl, p, O, rfl, hO, hI, hT, fun t H' ts e1 ht hTab => ⟨nm, ns, p, O, t, ts, rfl, e1.st hN, hO.ext e1, hTab, hns.toOk, fun H2 e2 => q H2 (e1.trans e2)⟩⟩)
  · refine e_seq (s_if (b1 := false) (tt_is (tt_eqS (vv_var rfl) vv_c) (decide_eq_false (by decide +kernel))) (fun h => by cases h) (fun _ => ?_))
    try unfold tNext
    try dsimp only
    refine e_seq (s_if (b1 := false) (tt_is (tt_eqS (vv_var rfl) vv_c) (decide_eq_false (by decide +kernel))) (fun h => by cases h) (fun _ => ?_))
    try unfold tNext
    try dsimp only
    refine e_seq (s_if (b1 := false) (tt_is (tt_eqS (vv_var rfl) vv_c) (decide_eq_false (by decide +kernel))) (fun h => by cases h) (fun _ => ?_))
    try unfold tNext
    try dsimp only
    refine e_seq (s_if (b1 := false) (tt_is (tt_eqS (vv_var rfl) vv_c) (decide_eq_false (by decide +kernel))) (fun h => by cases h) (fun _ => ?_))
    try unfold tNext
    try dsimp only
    refine e_ret (e_call ⟨_, rfl, p, O, rfl, hO, hI, fun H' e1 hr => ?_, fun t H' xs e1 hr hx => ?_⟩)
    · refine ⟨true, rfl, ?_⟩
      have := q H' e1
      rw [hr] at this
      exact this
    · refine ⟨false, rfl, ?_⟩
      have := q H' e1
      rw [hr] at this
      exact this
abbrev s_told_of_two : Stmt := top 105
abbrev N_told_of_two : List Str := ["head", "one", "other", "both", "thing", "names"]
theorem sc_told_of_two : FnScope N_told_of_two ["head", "one", "other"] (defScope s_told_of_two) := ⟨rfl, rfl, rfl, by decide +kernel, rfl, by decide +kernel, by decide +kernel⟩
-- slots: 0 head, 1 one, 2 other, 3 both, 4 thing, 5 names
def spTold2 (T : Tbs) (K : PySem.W.Frag) : Sp := fun vs H Q _ => ∃ (p : Addr) (O : List Nat) (r : Addr) (R : List Nat), vs = [.str "product", .ref p, .ref r] ∧ OrdAt K H p O ∧ IsOrd O ∧ OrdAt K H r R ∧ IsOrd R ∧ O.length * R.length ≤ 16 ∧
  ∀ H', Ext T H H' → Q (.str (textOf (lets (O.length * R.length)) (prodO O R))) H'
theorem ok_told_of_two (B : Blt mg) (G : Cst mg) (D : DefAt K mg "told_of_two" s_told_of_two) (g_product : Calls P w K mg base 2 "product" ["one", "other"] (spProd T K)) (g_shown_order : Calls P w K mg base 4 "shown_order" ["names", "order"] (spTextP T K)) :
    Calls P w K mg base 5 "told_of_two" ["head", "one", "other"] (spTold2 T K) := by
  refine D.ok sc_told_of_two (fun vs H Q E h => ?_) (fun _ _ _ _ _ _ us hl => match us, hl with | [_, _, _], _ => rfl) (fun f cdv A outer s H vs Q E hr h => ?_)
  · obtain ⟨p, O, r, R, rfl, hO, hI, hR, hIR, hnm, q⟩ := h; rfl
  obtain ⟨p, O, r, R, rfl, hO, hI, hR, hIR, hnm, q⟩ := h
  have nd := sc_told_of_two.nd
  have hu := hu_of hr
  refine ⟨_, (pss_cons (ps_if (pt_cmpR op_eq (pv 0) pe_str (nomark _))
        pss_never
        pss_nil)
      (pss_cons (ps_set (i := 3) nd rfl (Or.inl rfl) (pe_callD g_product (hr.mono (by decide)) rfl (pa_cons (pv 1) (pa_cons (pv 2) pa_nil))))
      (pss_cons (ps_setLc (i := 5) (own := [("thing", 4)]) (g := gName 4) rfl nd rfl rfl (sw_true rfl rfl rfl (by decide +kernel)) (pi_range1 (by rfl) B.range (pa_cons (pe_callB (r := rLenK K) call_lenK (by rfl) B.len PySem.boot_len (pa_cons (pv 3) pa_nil)) pa_nil)) (blkOk_by (own := [("thing", 4)]) (N := N_told_of_two) (sc := defScope s_told_of_two) (by decide +kernel)) (fun _ _ _ _ _ => pg_name (i := 4) nd rfl (Or.inl rfl)) (fun _ _ _ _ _ => pts_nil) (fun _ _ _ _ _ => (pe_op op_add_str (pe_ix ix_str (pe_cst G.cLETTERS rfl) (pe_op op_fdiv (pv 4) pe_int) (fun _ _ => rfl)) (pe_ix ix_str (pe_cst G.cLETTERS rfl) (pe_op op_mod (pv 4) pe_int) (fun _ _ => rfl)))))
      (pss_one (ps_ret (pe_callD g_shown_order (hr.mono (by decide)) rfl (pa_cons (pv 5) (pa_cons (pv 3) pa_nil)))))))), ?_⟩
  refine e_seq (s_if (b1 := false) (tt_is (tt_eqS (vv_var rfl) vv_c) (decide_eq_false (by decide +kernel))) (fun h => by cases h) (fun _ => ?_))
  try unfold tNext
  try dsimp only
  refine e_seq (e_set (e_call ⟨_, rfl, _, rfl, p, O, r, R, rfl, hO, hR, hnm, fun t H1 e1 ht hP => ?_⟩))
  have hPO : OrdAt K H1 t (prodO O R) := ⟨SqT.of hP, by rw [prodO_len]; exact hnm, prodO_bd O R⟩
  try dsimp only
  have hpl := prodO_len O R
  refine e_seq (e_set ?_)
  refine lc_rng (T := T) (prodO O R).length (fun _ => true) (fun k => .str (sgn 97 ++ sgn (97 + k))) (by omega) (al_lenO rfl hPO) (fun _ => rfl) (fun _ _ _ _ => tl_yes) (fun k H2 hk _ e2 => ?_) ?_
  · have h1 : k / 26 = 0 := Nat.div_eq_of_lt (by omega)
    have h2 : k % 26 = k := Nat.mod_eq_of_lt (by omega)
    have v1 : Vv (tOp rIxS (tC (.str "abcdefghijklmnopqrstuvwxyz")) (tOp (rI CDiv fun i j => .int (i / j)) (tVar 4) (tC (.int 26)))) ((wipe [some (.str "product"), some (.ref p), some (.ref r), some (.ref t), none, none] [4]).set 4 (some (iv k))) H2 (.str (sgn 97)) := by
      have := vv_every (i := k / 26) (by omega) (vv_c (σ := (wipe [some (.str "product"), some (.ref p), some (.ref r), some (.ref t), none, none] [4]).set 4 (some (iv k))) (H := H2)) (vv_divN (b := 26) (by decide) (by decide) (vv_var (i := 4) (v := iv k) rfl) vv_c)
      rw [h1] at this
      exact this
    have v2 : Vv (tOp rIxS (tC (.str "abcdefghijklmnopqrstuvwxyz")) (tOp (rI (fun _ j => 0 < j) fun i j => .int (i % j)) (tVar 4) (tC (.int 26)))) ((wipe [some (.str "product"), some (.ref p), some (.ref r), some (.ref t), none, none] [4]).set 4 (some (iv k))) H2 (.str (sgn (97 + k))) := by
      have := vv_every (i := k % 26) (by omega) (vv_c (σ := (wipe [some (.str "product"), some (.ref p), some (.ref r), some (.ref t), none, none] [4]).set 4 (some (iv k))) (H := H2)) (vv_modN (b := 26) (by decide) (vv_var (i := 4) (v := iv k) rfl) vv_c)
      rw [h2] at this
      exact this
    exact (vv_addS v1 v2 (by rw [sgn_len, sgn_len]; decide)).l
  · intro nl H2 e2 _ hnl
    rw [filter_yes] at hnl
    have hnl2 : H2 nl = some (.lst (txts (lets (O.length * R.length)))) := by
      rw [hnl, hpl]
      unfold lets txts
      rw [List.map_map]
      rfl
    try dsimp only
    refine e_ret (e_call ⟨_, rfl, _, rfl, nl, _, t, prodO O R, rfl, hnl2, hPO.ext e2, prodO_rf hI.rf hIR.rf, by rw [hpl]; exact lets_ok _, fun H3 e3 => q H3 ((e1.trans e2).trans e3)⟩)
end
end SW

/-! ## SwAE -/
/-! desk.py: the class. -/
namespace SW
open PySem PySem.Spec PyProof.Rows L2 Bits TL
/-! ### methods -/
structure MCalls (P : Program) (w : World) (K : PySem.W.Frag) (mg : Str → Option Value) (base : Heap) (k : Nat) (C : Addr) (m : Str) (ps : List Str) (sp : Sp) : Prop where
  cls : Cls K C
  ex : ∃ (f : Addr) (fd : FuncData), Meth K C m f ∧ Binds K fd ps [] ∧ FnOk P w K mg base CX0 k f fd ps sp
section
variable {X : Cx} {k : Nat} {C : Addr} {m : Str} {ps : List Str} {sp : Sp} {apos pos : Pos} {o e : Expr} {es : List Expr} {ta : TE} {t : TA}
theorem pe_methD {pl : Sem Bool} (G : MCalls X.prog X.w X.K X.mg X.base k C m ps sp) (hr : Room k X.A) (he : PE X o ta) (ha : PA X (e :: es) t)
    (hst : starEach (e :: es) X.env = (false, eval e X.env) :: starEach es X.env := by rfl) (hpl : (backTo pos (starEach es X.env)).any (·.1) = false := by rfl)
    (ht : eval (.Call (.Attribute o m apos) (e :: es) [] pos) X.env = (do
      let ov ← eval o X.env
      standAt apos.atName
      let (f, first) ← holding [ov] (getMethod ov m pl)
      callWith pos f first (backTo pos (starEach (e :: es) X.env)) (backToKw pos (keywordEach [] X.env))) := by rfl) :
    PE X (.Call (.Attribute o m apos) (e :: es) [] pos) (tMeth C m sp [] E0 ta t) := by
  obtain ⟨f, fd, hm, hb, F⟩ := G.ex
  exact pe_meth he G.cls hm F hr hb .nil pass0 ha hst hpl ht
end
/-- a def of the class -/
abbrev DefAtM (K : PySem.W.Frag) (C : Addr) (m : Str) (st : Stmt) : Prop :=
  ∃ (f : Addr) (fd : FuncData), Meth K C m f ∧ FunD K m (("Desk." : Str) ++ m) (defArgs st) (defBody st) (defScope st) [] [] f fd
section
variable {P : Program} {w : World} {K : PySem.W.Frag} {mg : Str → Option Value} {base : Heap} {T : Tbs}
theorem DefAtM.ok {C : Addr} {m : Str} {st : Stmt} {N ps : List Str} {k : Nat} {sp : Sp} (c : Cls K C) (D : DefAtM K C m st) (S : FnScope N ps (defScope st)) (len : ∀ vs H Q E, sp vs H Q E → vs.length = ps.length)
    (hb : ∀ (kV doc pm : Value) (an : Option Addr) (cdv ct : Value) (us : List Value), us.length = ps.length → bindArgs (PySem.W.fnOf m (("Desk." : Str) ++ m) (defArgs st) (defBody st) (defScope st) .none kV doc pm an cdv ct) ⟨us, []⟩ = pure (ps.zip us))
    (hbody : ∀ (f : Addr) (cdv : Value) (A : Around) (outer : List Env) (s : Shared) (H : Hp) (vs : List V) (Q : VK) (E : XK), Room k (A.deeper (envOfC (("Desk." : Str) ++ m) (defScope st) s.heap.objs.size f cdv)) → sp vs H Q E →
      ∃ t, PSs (cxOf CX0 P w K mg base N (("Desk." : Str) ++ m) (defScope st) f cdv A outer s H E).nox (defBody st) t ∧ t { nx := fun _ H' => Q .non H', rt := Q } (start N vs) H) : MCalls P w K mg base (k + 1) C m ps sp := by
  obtain ⟨f, fd, hm, F⟩ := D
  refine ⟨c, f, fd, hm, F.bindsN hb, ?_⟩
  refine F.ok S len fun cdv A outer s H vs Q E hr h => ?_
  obtain ⟨t, ht, q⟩ := hbody f cdv A outer s H vs Q E hr h
  exact ⟨t, ht.nox, q⟩
/-! ### the table of forms -/
def formsTab : List (Str × List Str) := [("signs", []), ("ranked", []), ("sign", ["thing", "thing"]), ("chains", ["thing", "thing"]), ("product", ["order"])]
structure FormsOk (K : PySem.W.Frag) (w : World) (aF : Addr) : Prop where
  D : ∃ es n, KDict K w aF es n
  at_ : ∀ q ∈ formsTab, ∃ t, PySem.W.nsIn K aF q.1 = some (some (.ref t)) ∧ ∀ H, SqT K H t (txts q.2)
structure DeskG (w : World) (K : PySem.W.Frag) (mg : Str → Option Value) (aF C : Addr) : Prop where
  cFORMS : ∃ u, mg "FORMS" = some u ∧ RelV (.ref aF) u
  forms : FormsOk K w aF
  cls : Cls K C
  no : NoAttr K C "orders"
def rNiF (K : PySem.W.Frag) (aF : Addr) : R2 := fun x y H Q => ∃ (z : Str) (u : Value), x = .str z ∧ y = .ref aF ∧ PySem.W.nsIn K aF z = some (some u) ∧ Q (.bl false) H
theorem DeskG.niFORMS {X : Cx} {aF C : Addr} (G : DeskG X.w X.K X.mg aF C) : OpR X (compareOp .NotIn) (rNiF X.K aF) := by
  intro pins s σ H x y v u Q I rx ry h
  obtain ⟨z, u0, rfl, rfl, e, q⟩ := h
  obtain ⟨es, n, D⟩ := G.forms.D
  exact op_notIn_kd D pins s σ H (.str z) (.ref aF) v u Q I rx ry ⟨z, some u0, rfl, rfl, e, q⟩
theorem FormsOk.get {aF : Addr} (F : FormsOk K w aF) {hd : Str} {fs : List Str} (h : (hd, fs) ∈ formsTab) : ∃ t, PySem.W.nsIn K aF hd = some (some (.ref t)) ∧ (∀ H, SqT K H t (txts fs)) ∧ KDct K w aF hd (.ref t) := by
  obtain ⟨t, h1, h2⟩ := F.at_ _ h
  obtain ⟨es, n, D⟩ := F.D
  exact ⟨t, h1, h2, es, n, .ref t, D.at_, D.lit, h1, rfl⟩
/-! ### what the desk holds -/
abbrev Kvs := List (Key × V)
def HeldIn (H : Hp) (kvs : Kvs) (x : Str) (ns : List Str) (O : List Nat) : Prop := ∃ r n1 o1, valV kvs (.inr x) = some (.ref r) ∧ H r = some (.tup [.ref n1, .ref o1]) ∧ Tz H n1 (txts ns) ∧ H o1 = some (.tup (nats O))
theorem HeldIn.ext {H H' : Hp} {kvs : Kvs} {x : Str} {ns : List Str} {O : List Nat} (e : Ext T H H') (h : HeldIn H kvs x ns O) : HeldIn H' kvs x ns O := by
  obtain ⟨r, n1, o1, h1, h2, h3, h4⟩ := h
  exact ⟨r, n1, o1, h1, e.tup h2, h3.ext e, e.tup h4⟩
structure DeskAt (H : Hp) (C a d : Addr) (kvs : Kvs) : Prop where
  ins : ∃ dx, H a = some (.ins C dx [("orders", .ref d)])
  dic : H d = some (.dK kvs)
theorem DeskAt.ext {H H' : Hp} {C a d : Addr} {kvs : Kvs} (e : Ext T H H') (h : DeskAt H C a d kvs) : DeskAt H' C a d kvs := by
  obtain ⟨dx, h1⟩ := h.ins
  exact ⟨⟨dx, e.ins h1⟩, e.dK h.dic⟩
theorem vv_orders {H : Hp} {σ : L2.St} {C a d : Addr} {kvs : Kvs} {i : Nat} (c : Cls K C) (n : NoAttr K C "orders") (h : DeskAt H C a d kvs) (hi : σ[i]? = some (some (.ref a))) : Vv (tFld K (tVar i) "orders") σ H (.ref d) := fun Q q => by
  obtain ⟨dx, h1⟩ := h.ins
  exact ⟨_, hi, a, C, dx, _, .ref d, rfl, h1, c, n, rfl, q⟩
abbrev s___init__ : Stmt := inClass (top 106) 0
abbrev N___init__ : List Str := ["self"]
theorem sc___init__ : FnScope N___init__ ["self"] (defScope s___init__) := ⟨rfl, rfl, rfl, by decide +kernel, rfl, by decide +kernel, by decide +kernel⟩
-- slots: 0 self
def spInit (C : Addr) : Sp := fun vs H Q _ => ∃ a dx, vs = [.ref a] ∧ H a = some (.ins C dx []) ∧ ∀ d, H d = none → Q .non (upd (upd H d (.dK [])) a (.ins C dx [("orders", .ref d)]))
theorem ok___init__ {aF C : Addr} {f : Addr} {fd : FuncData} (G : DeskG w K mg aF C) (F : FunD K "__init__" "Desk.__init__" (defArgs s___init__) (defBody s___init__) (defScope s___init__) [] [] f fd) : FnOk P w K mg base CX0 1 f fd ["self"] (spInit C) := by
  refine F.ok sc___init__ (fun vs H Q E h => ?_) fun cdv A outer s H vs Q E hr h => ?_
  · obtain ⟨a, dx, rfl, _⟩ := h; rfl
  obtain ⟨a, dx, rfl, ha, q⟩ := h
  refine ⟨_, PSs.nox (pss_one (ps_fld (pv 0) pe_dnewK rfl)), ?_⟩
  intro d hd
  refine ⟨_, rfl, a, C, dx, [], rfl, ?_, G.cls, G.no, by decide, q d hd⟩
  rw [upd_ne (ne_of_none ha hd)]
  exact ha
abbrev s_held : Stmt := inClass (top 106) 1
abbrev N_held : List Str := ["self", "name"]
theorem sc_held : FnScope N_held ["self", "name"] (defScope s_held) := ⟨rfl, rfl, rfl, by decide +kernel, rfl, by decide +kernel, by decide +kernel⟩
-- slots: 0 self, 1 name
def spHeld (C : Addr) : Sp := fun vs H Q _ => ∃ (a d : Addr) (kvs : Kvs) (x : Str) (v : V), vs = [.ref a, .str x] ∧ DeskAt H C a d kvs ∧ valV kvs (.inr x) = some v ∧ Q v H
theorem ok_held {aF C : Addr} (G : DeskG w K mg aF C) (D : DefAtM K C "held" s_held) : MCalls P w K mg base 1 C "held" ["self", "name"] (spHeld C) := by
  refine D.ok G.cls sc_held (fun vs H Q E h => ?_) (fun _ _ _ _ _ _ us hl => match us, hl with | [_, _], _ => rfl) (fun f cdv A outer s H vs Q E hr h => ?_)
  · obtain ⟨a, d, kvs, x, v, rfl, _⟩ := h; rfl
  obtain ⟨a, d, kvs, x, v, rfl, hD, hv, q⟩ := h
  have nd := sc_held.nd
  have hu := hu_of hr
  refine ⟨_, (pss_cons (ps_if (pt_cmp (pc_dnotin hu (pv 1) (pe_fld (pv 0) rfl)))
        pss_never
        pss_nil)
      (pss_one (ps_ret (pe_dget hu (pe_fld (pv 0) rfl) (pv 1) (fun _ _ => rfl))))), ?_⟩
  have hget : DGet H d (.str x) (some v) := .inl ⟨kvs, .inr x, .inl hD.dic, rfl, hv.symm⟩
  refine e_seq (s_if (b1 := false) (tt_tb (vv_dnotin (vv_var rfl) (vv_orders G.cls G.no hD rfl) hget)) (fun h => by cases h) (fun _ => ?_))
  try unfold tNext
  try dsimp only
  exact e_ret (vv_dget (vv_orders G.cls G.no hD rfl) (vv_var rfl) hget _ q)
abbrev s_take : Stmt := inClass (top 106) 2
abbrev N_take : List Str := ["self", "name", "text"]
theorem sc_take : FnScope N_take ["self", "name", "text"] (defScope s_take) := ⟨rfl, rfl, rfl, by decide +kernel, rfl, by decide +kernel, by decide +kernel⟩
-- slots: 0 self, 1 name, 2 text
def spTake (T : Tbs) (C : Addr) : Sp := fun vs H Q _ => ∃ (a d : Addr) (kvs : Kvs) (x t : Str) (ns : List Str) (O : List Nat), vs = [.ref a, .str x, .str t] ∧ DeskAt H C a d kvs ∧ kvs.length ≤ 100 ∧ Writes t ns O ∧ Nms ns O.length ∧ IsOrd O ∧ O.length ≤ 16 ∧
  ∀ H1 r n1 o1, Ext T H H1 → H r = none → H1 r = some (.tup [.ref n1, .ref o1]) → Tz H1 n1 (txts ns) → H1 o1 = some (.tup (nats O)) → Q .non (upd H1 d (.dK (putK kvs (.inr x) (.ref r))))
theorem ok_take {aF C : Addr} (G : DeskG w K mg aF C) (D : DefAtM K C "take" s_take) (g_read_order : Calls P w K mg base 4 "read_order" ["text"] (spRead T)) : MCalls P w K mg base 5 C "take" ["self", "name", "text"] (spTake T C) := by
  refine D.ok G.cls sc_take (fun vs H Q E h => ?_) (fun _ _ _ _ _ _ us hl => match us, hl with | [_, _, _], _ => rfl) (fun f cdv A outer s H vs Q E hr h => ?_)
  · obtain ⟨a, d, kvs, x, t, ns, O, rfl, _⟩ := h; rfl
  obtain ⟨a, d, kvs, x, t, ns, O, rfl, hD, hl, hW, hns, hI, h16, q⟩ := h
  have nd := sc_take.nd
  have hu := hu_of hr
  refine ⟨_, (pss_one (ps_dput hu (pe_fld (pv 0) rfl) (pv 1) (pe_callD g_read_order (hr.mono (by decide)) rfl (pa_cons (pv 2) pa_nil)) rfl)), ?_⟩
  refine ⟨_, rfl, t, ns, O, rfl, hW, hns, hI, h16, fun r H1 n1 o1 e1 hr1 hr2 hn1 ho1 => ?_⟩
  have hD1 := hD.ext e1
  exact vv_orders G.cls G.no hD1 rfl _ ⟨_, rfl, d, _, rfl, .inl ⟨kvs, .inr x, hD1.dic, rfl, smallt (by omega), rfl⟩, q H1 r n1 o1 e1 hr1 hr2 hn1 ho1⟩
/-! ### asked -/
/-- what the desk answers -/
inductive Ans (H : Hp) (kvs : Kvs) (x : Str) (ns : List Str) (O : List Nat) : Str → List Str → Str → Prop
  | signs : Ans H kvs x ns O "signs" [] (tabText ns O)
  | ranked : Ans H kvs x ns O "ranked" [] (yn (ranked O))
  | sign {i j : Nat} : i < O.length → j < O.length → Ans H kvs x ns O "sign" [nmOf ns i, nmOf ns j] (numS (gn O (-1) i j))
  | chains {i j : Nat} : i < O.length → j < O.length → Ans H kvs x ns O "chains" [nmOf ns i, nmOf ns j] (numS (gn O 1 i j))
  | product {y : Str} {ns2 : List Str} {R : List Nat} : y ≠ "" → HeldIn H kvs y ns2 R → IsOrd R → R.length ≤ 16 → O.length * R.length ≤ 16 → Ans H kvs x ns O "product" [y] (textOf (lets (O.length * R.length)) (prodO O R))
abbrev s_asked : Stmt := inClass (top 106) 4
abbrev N_asked : List Str := ["self", "text", "words", "head", "forms", "number", "names", "order", "a"]
theorem sc_asked : FnScope N_asked ["self", "text"] (defScope s_asked) := ⟨rfl, rfl, rfl, by decide +kernel, rfl, by decide +kernel, by decide +kernel⟩
-- slots: 0 self, 1 text, 2 words, 3 head, 4 forms, 5 number, 6 names, 7 order, 8 a
def spAsked (T : Tbs) (C : Addr) : Sp := fun vs H Q _ => ∃ (a d : Addr) (kvs : Kvs) (q hd x : Str) (rest : List Str) (ns : List Str) (O : List Nat) (ans : Str), vs = [.ref a, .str q] ∧ q.length ≤ 1000 ∧ Txt.split q " " = hd :: x :: rest ∧ x ≠ "" ∧ DeskAt H C a d kvs ∧ HeldIn H kvs x ns O ∧ IsOrd O ∧ Nms ns O.length ∧ O.length ≤ 16 ∧
  Ans H kvs x ns O hd rest ans ∧ LamX.Tabs T H ∧ ∀ H', Ext T H H' → Q (.str ans) H'
theorem tS_ne {K : PySem.W.Frag} {σ : L2.St} {H : Hp} {i : Nat} {t : Addr} {fs : List Str} {z : Str} (hi : σ[i]? = some (some (.ref t))) (ht : ∀ H, SqT K H t (txts fs)) (h1 : SeqAt.shaped (.tuple (dS fs)) = true) (h2 : SeqAt.shaped (.tuple (dS [z])) = true) (B' : Bool → Hp → Prop)
    (q : ∀ H', Ext T H H' → B' (decide (fs = [z])) H') : tTest (tOp (rEqD K) (tVar i) (tTup (tCons (tC (.str z)) tNil))) σ H B' := by
  refine e_test (e_op (e_var hi (e_tup (e_cons (vv_c _ (e_nil ⟨(by show 1 ≤ sizeLine; decide), fun u hu => ?_⟩))))))
  refine ⟨_, _, .tup (ht _) (dpAll_strs fs), .tup (SqT.of upd_same) (dpAll_strs [z]), h1, h2, _, rfl, ?_⟩
  show B' (PyData.eqvAll (dS fs) (dS [z])) _
  rw [eqv_dS]
  exact q _ (.new hu)
theorem ok_asked {aF C : Addr} (B : Blt mg) (G : DeskG w K mg aF C) (D : DefAtM K C "asked" s_asked) (g_held : MCalls P w K mg base 1 C "held" ["self", "name"] (spHeld C)) (g_thing_of : Calls P w K mg base 1 "thing_of" ["names", "word"] (spThingOf K))
    (g_told_of_two : Calls P w K mg base 5 "told_of_two" ["head", "one", "other"] (spTold2 T K)) (g_told_of_two_things : Calls P w K mg base 9 "told_of_two_things" ["head", "names", "order", "a", "b"] (spTold2T T K))
    (g_told_of_one : Calls P w K mg base 9 "told_of_one" ["head", "names", "order"] (spTold1 T K)) : MCalls P w K mg base 10 C "asked" ["self", "text"] (spAsked T C) := by
  refine D.ok G.cls sc_asked (fun vs H Q E h => ?_) (fun _ _ _ _ _ _ us hl => match us, hl with | [_, _], _ => rfl) (fun f cdv A outer s H vs Q E hr h => ?_)
  · obtain ⟨a, d, kvs, q, hd, x, rest, ns, O, ans, rfl, _⟩ := h; rfl
  obtain ⟨a, d, kvs, q, hd, x, rest, ns, O, ans, rfl, hql, hsp, hxne, hD, hH, hI, hns, h16, hA, hT, hq⟩ := h
  have nd := sc_asked.nd
  have hu := hu_of hr
  refine ⟨_, (pss_cons (ps_set (i := 2) nd rfl (Or.inl rfl) (pe_split (pv 1) pe_str))
      (pss_cons (ps_set (i := 3) nd rfl (Or.inl rfl) (pe_ix (r := rIxL K) ix_list (pv 2) pe_int (fun _ _ => rfl)))
      (pss_cons (ps_if (PW.pt (pw_or (pt_cmpR op_in_seq pe_str (pv 2) rfl) (pw_or (pt_cmpR (G.niFORMS) (pv 3) (pe_cst G.cFORMS rfl) rfl) (pw_or1 (pt_cmpR op_ne (pe_callB (r := rLenK K) call_lenK (by rfl) B.len PySem.boot_len (pa_cons (pv 2) pa_nil)) (pe_op op_add pe_int (pe_callB (r := rLenK K) call_lenK (by rfl) B.len PySem.boot_len (pa_cons (pe_ix ix_kdict (pe_cst G.cFORMS rfl) (pv 3) (fun _ _ => rfl)) pa_nil))) (nomark _))))))
        pss_never
        pss_nil)
      (pss_cons (ps_set (i := 4) nd rfl (Or.inl rfl) (pe_ix ix_kdict (pe_cst G.cFORMS rfl) (pv 3) (fun _ _ => rfl)))
      (pss_cons (ps_if (pt_cmpR (op_eqD hr.units) (pv 4) (pe_tup (pa_cons pe_str pa_nil)) (nomark _))
        pss_never
        pss_nil)
      (pss_cons (ps_asg (pe_methD g_held (hr.mono (by decide)) (pv 0) (pa_cons (pe_ix (r := rIxL K) ix_list (pv 2) pe_int (fun _ _ => rfl)) pa_nil)) (pg_tup rfl (pgs_cons (pg_name (i := 6) nd rfl (Or.inl rfl)) (pgs_cons (pg_name (i := 7) nd rfl (Or.inl rfl)) pgs_nil))))
      (pss_cons (ps_if (pt_cmpR (op_eqD hr.units) (pv 4) (pe_tup (pa_cons pe_str pa_nil)) (nomark _))
        (pss_one (ps_ret (pe_callD g_told_of_two (hr.mono (by decide)) rfl (pa_cons (pv 3) (pa_cons (pv 7) (pa_cons (pe_ix (r := rIxT K) ix_tup (pe_methD g_held (hr.mono (by decide)) (pv 0) (pa_cons (pe_ix (r := rIxL K) ix_list (pv 2) pe_int (fun _ _ => rfl)) pa_nil)) pe_int (fun _ _ => rfl)) pa_nil))))))
        pss_nil)
      (pss_cons (ps_if (pt_cmpR op_eq (pe_callB (r := rLenK K) call_lenK (by rfl) B.len PySem.boot_len (pa_cons (pv 4) pa_nil)) pe_int (nomark _))
        (pss_cons (ps_set (i := 8) nd rfl (Or.inl rfl) (pe_callD g_thing_of (hr.mono (by decide)) rfl (pa_cons (pv 6) (pa_cons (pe_ix (r := rIxL K) ix_list (pv 2) pe_int (fun _ _ => rfl)) pa_nil))))
        (pss_one (ps_ret (pe_callD g_told_of_two_things (hr.mono (by decide)) rfl (pa_cons (pv 3) (pa_cons (pv 6) (pa_cons (pv 7) (pa_cons (pv 8) (pa_cons (pe_callD g_thing_of (hr.mono (by decide)) rfl (pa_cons (pv 6) (pa_cons (pe_ix (r := rIxL K) ix_list (pv 2) pe_int (fun _ _ => rfl)) pa_nil))) pa_nil)))))))))
        pss_nil)
      (pss_one (ps_ret (pe_callD g_told_of_one (hr.mono (by decide)) rfl (pa_cons (pv 3) (pa_cons (pv 6) (pa_cons (pv 7) pa_nil)))))))))))))), ?_⟩
  have nmne : ∀ {i : Nat}, i < O.length → nmOf ns i ≠ "" := fun hi e => (name_free (nm_ok hns hi)).1 (by rw [e, tl_emp])
  have hk : ∃ fs, (hd, fs) ∈ formsTab ∧ rest.length = fs.length ∧ SeqAt.shaped (.tuple (dS fs)) = true ∧ fs ≠ ([("number" : Str)] : List Str) ∧ hd ≠ "" ∧ (∀ s ∈ rest, s ≠ "") ∧ decide (fs = ([("order" : Str)] : List Str)) = decide (hd = ("product" : Str)) := by
    cases hA with
    | signs => exact ⟨[], by simp [formsTab], rfl, by decide +kernel, by simp, by decide +kernel, by simp, by decide +kernel⟩
    | ranked => exact ⟨[], by simp [formsTab], rfl, by decide +kernel, by simp, by decide +kernel, by simp, by decide +kernel⟩
    | sign hi hj =>
      refine ⟨["thing", "thing"], by simp [formsTab], rfl, by decide +kernel, by simp, by decide +kernel, fun s hs => ?_, by decide +kernel⟩
      rcases List.mem_cons.mp hs with e | hs
      · rw [e]; exact nmne hi
      · rw [List.mem_singleton.mp hs]; exact nmne hj
    | chains hi hj =>
      refine ⟨["thing", "thing"], by simp [formsTab], rfl, by decide +kernel, by simp, by decide +kernel, fun s hs => ?_, by decide +kernel⟩
      rcases List.mem_cons.mp hs with e | hs
      · rw [e]; exact nmne hi
      · rw [List.mem_singleton.mp hs]; exact nmne hj
    | product hy _ _ _ _ => exact ⟨["order"], by simp [formsTab], rfl, by decide +kernel, by decide +kernel, by decide +kernel, fun s hs => by rw [List.mem_singleton.mp hs]; exact hy, by decide +kernel⟩
  obtain ⟨fs, hfs, hrl, hsh, hnum, hdne, hrest, hford⟩ := hk
  obtain ⟨tF, hns1, hsq, hkd⟩ := G.forms.get hfs
  refine e_seq (e_set ⟨_, rfl, ⟨_, rfl⟩, q, " ", rfl, rfl, by decide +kernel, small (by omega), fun wd hwd => ?_⟩)
  rw [hsp]
  have e1 : Ext T H (upd H wd (.lst (txts (hd :: x :: rest)))) := .new hwd
  have hW : upd H wd (.lst (txts (hd :: x :: rest))) wd = some (.lst (txts (hd :: x :: rest))) := upd_same
  generalize upd H wd (.lst (txts (hd :: x :: rest))) = H1 at e1 hW ⊢
  try dsimp only
  refine e_seq (s_set (v := .str hd) (vv_ixL (i := 0) (vv_var rfl) (vv_is vv_c rfl) (SqL.of hW) rfl) ?_)
  try dsimp only
  have hwl : (txts (hd :: x :: rest)).length = 2 + rest.length := by
    rw [List.length_map, List.length_cons, List.length_cons]
    omega
  have vlenF : ∀ {σ : L2.St} {H' : Hp}, σ[3]? = some (some (.str hd)) → Vv (tCB (rLenK K) (tCons (tOp (rIxD K w) (tC (.ref aF)) (tVar 3)) tNil)) σ H' (iv fs.length) := fun h Q' q' =>
    ⟨_, h, aF, hd, .ref tF, rfl, rfl, hkd, tF, txts fs, rfl, .inr (hsq _), by rw [List.length_map]; exact q'⟩
  refine e_seq (s_if (b1 := false) (tt_is (tt_or (b1 := false) (fun B' q' => ⟨_, rfl, wd, _, rfl, .inl (SqL.of hW), rfl, flat_strs _, _, rfl, ?_⟩) fun _ => tt_or (b1 := false) (fun B' q' => ⟨_, rfl, hd, _, rfl, rfl, hns1, _, rfl, q'⟩) fun _ =>
    tt_ne (a := 2 + rest.length) (b := 2 + fs.length) (vv_is (vv_lenL rfl (SqL.of hW)) (by rw [hwl])) (vv_addN (a := 2) vv_c (vlenF rfl))) ?_) (fun h => by cases h) (fun _ => ?_))
  · rw [if_neg (by decide), inV_strs, decide_eq_false]
    · exact q'
    · intro hm
      rcases List.mem_cons.mp hm with e | hm
      · exact hdne e.symm
      · rcases List.mem_cons.mp hm with e | hm
        · exact hxne e.symm
        · exact hrest _ hm rfl
  · rw [hrl]
    simp
  try unfold tNext
  try dsimp only
  refine e_seq (e_set ⟨_, rfl, aF, hd, .ref tF, rfl, rfl, hkd, ?_⟩)
  try dsimp only
  refine e_seq (e_if (tS_ne (T := T) rfl hsq hsh (by decide +kernel) _ fun H2 e2 => ?_))
  rw [decide_eq_false hnum]
  refine iteF ?_
  try unfold tNext
  try dsimp only
  have e12 := e1.trans e2
  have hW2 := e2.lst hW
  have hD2 := hD.ext e12
  obtain ⟨r, n1, o1, hv, hrT, hn1, ho1⟩ := hH.ext e12
  obtain ⟨dx, hins⟩ := hD2.ins
  refine e_seq (e_asg ⟨_, rfl, a, dx, _, rfl, hins, rfl, e_cons (vv_ixL (i := 1) (vv_var rfl) (vv_is vv_c rfl) (SqL.of hW2) rfl _ (e_nil ⟨a, d, kvs, x, .ref r, rfl, hD2, hv, r, _, rfl, SqT.of hrT, rfl, _, _, rfl, _, _, rfl, rfl, ?_⟩))⟩)
  have hO2 : OrdAt K H2 o1 O := ⟨SqT.of ho1, h16, hI.bd⟩
  try dsimp only
  refine e_seq (e_if (tS_ne (T := T) rfl hsq hsh (by decide +kernel) _ fun H3 e3 => ?_))
  have hT3 := ((e12.trans e3).tb hT)
  have e13 := e12.trans e3
  rw [hford]
  have hO3 := hO2.ext e3
  have hn13 := hn1.ext e3
  have hW3 := e3.lst hW2
  have hD3 := hD.ext e13
  have vlF : ∀ {σ : L2.St}, σ[4]? = some (some (.ref tF)) → Vv (tCB (rLenK K) (tCons (tVar 4) tNil)) σ H3 (iv fs.length) := fun h Q' q' => ⟨_, h, tF, txts fs, rfl, .inr (hsq _), by rw [List.length_map]; exact q'⟩
  cases hA with
  | product hy hH2 hIR hR16 hnm =>
    rename_i y ns2 R
    refine (show ite (decide (("product" : Str) = "product") = true) _ _ from ?_)
    rw [decide_eq_true rfl]
    refine iteT ?_
    obtain ⟨r2, n2, o2, hv2, hrT2, hn2, ho2⟩ := hH2.ext e13
    have hOR : OrdAt K H3 o2 R := ⟨SqT.of ho2, hR16, hIR.bd⟩
    obtain ⟨dx3, hins3⟩ := hD3.ins
    exact e_ret (e_call (e_cons (e_var rfl (e_cons (e_var rfl (e_cons (e_op ⟨_, rfl, a, dx3, _, rfl, hins3, rfl, e_cons (vv_ixL (i := 2) (vv_var rfl) (vv_is vv_c rfl) (SqL.of hW3) rfl _ (e_nil ⟨a, d, kvs, y, .ref r2, rfl, hD3, hv2, r2, _, 1, .ref o2, rfl, rfl, SqT.of hrT2, atI_nat (j := 1) rfl, e_nil ⟨o1, O, o2, R, rfl, hO3, hI, hOR, hIR, hnm, fun H4 e4 => hq H4 (e13.trans e4)⟩⟩))⟩)))))))
  | signs =>
    rw [decide_eq_false (by decide +kernel)]
    refine iteF ?_
    try unfold tNext
    try dsimp only
    have hf0 : fs.length = 0 := hrl.symm
    refine e_seq (s_if (tt_eq (b := 2) (vlF rfl) (vv_is vv_c rfl)) (fun h => absurd (of_decide_eq_true h) (by omega)) (fun _ => ?_))
    try unfold tNext
    try dsimp only
    exact e_ret (e_call (e_cons (e_var rfl (e_cons (e_var rfl (e_cons (e_var rfl (e_nil ⟨"signs", n1, ns, o1, O, rfl, hn13.st, hns, hO3, hI, hT3, .inl ⟨rfl, fun H4 e4 => hq H4 (e13.trans e4)⟩⟩))))))))
  | ranked =>
    rw [decide_eq_false (by decide +kernel)]
    refine iteF ?_
    try unfold tNext
    try dsimp only
    have hf0 : fs.length = 0 := hrl.symm
    refine e_seq (s_if (tt_eq (b := 2) (vlF rfl) (vv_is vv_c rfl)) (fun h => absurd (of_decide_eq_true h) (by omega)) (fun _ => ?_))
    try unfold tNext
    try dsimp only
    exact e_ret (e_call (e_cons (e_var rfl (e_cons (e_var rfl (e_cons (e_var rfl (e_nil ⟨"ranked", n1, ns, o1, O, rfl, hn13.st, hns, hO3, hI, hT3, .inr ⟨rfl, fun H4 e4 => hq H4 (e13.trans e4)⟩⟩))))))))
  | sign hi hj =>
    rename_i i j
    rw [decide_eq_false (by decide +kernel)]
    refine iteF ?_
    try unfold tNext
    try dsimp only
    have hf2 : fs.length = 2 := hrl.symm
    refine e_seq (s_if (tt_eq (b := 2) (vlF rfl) (vv_is vv_c rfl)) (fun _ => ?_) (fun h => absurd hf2 (of_decide_eq_false h)))
    refine e_seq (e_set (e_call (e_cons (e_var rfl (e_cons (vv_ixL (i := 2) (vv_var rfl) (vv_is vv_c rfl) (SqL.of hW3) rfl _ (e_nil ⟨n1, ns, _, i, rfl, hn13, hns, hi, ?_⟩)))))))
    try dsimp only
    refine e_ret (e_call (e_cons (e_var rfl (e_cons (e_var rfl (e_cons (e_var rfl (e_cons (e_var rfl (e_cons (e_call (e_cons (e_var rfl (e_cons ?_))))))))))))))
    exact vv_ixL (i := 3) (vv_var rfl) (vv_is vv_c rfl) (SqL.of hW3) rfl _ (e_nil ⟨n1, ns, _, j, rfl, hn13, hns, hj, e_nil ⟨"sign", .ref n1, o1, O, i, j, rfl, hO3, hI, hi, hj, hT3, .inl ⟨rfl, fun H4 e4 => hq H4 (e13.trans e4)⟩⟩⟩)
  | chains hi hj =>
    rename_i i j
    rw [decide_eq_false (by decide +kernel)]
    refine iteF ?_
    try unfold tNext
    try dsimp only
    have hf2 : fs.length = 2 := hrl.symm
    refine e_seq (s_if (tt_eq (b := 2) (vlF rfl) (vv_is vv_c rfl)) (fun _ => ?_) (fun h => absurd hf2 (of_decide_eq_false h)))
    refine e_seq (e_set (e_call (e_cons (e_var rfl (e_cons (vv_ixL (i := 2) (vv_var rfl) (vv_is vv_c rfl) (SqL.of hW3) rfl _ (e_nil ⟨n1, ns, _, i, rfl, hn13, hns, hi, ?_⟩)))))))
    try dsimp only
    refine e_ret (e_call (e_cons (e_var rfl (e_cons (e_var rfl (e_cons (e_var rfl (e_cons (e_var rfl (e_cons (e_call (e_cons (e_var rfl (e_cons ?_))))))))))))))
    exact vv_ixL (i := 3) (vv_var rfl) (vv_is vv_c rfl) (SqL.of hW3) rfl _ (e_nil ⟨n1, ns, _, j, rfl, hn13, hns, hj, e_nil ⟨"chains", .ref n1, o1, O, i, j, rfl, hO3, hI, hi, hj, hT3, .inr ⟨rfl, fun H4 e4 => hq H4 (e13.trans e4)⟩⟩⟩)
end
end SW

/-! ## SwAF -/
/-! The law asks the desk. -/
namespace SW
open PySem PySem.Spec PyProof.Rows L2 Bits TL
/-! ### questions as texts -/
theorem split_two {q a b : Str} (h1 : 32 ∉ tl a) (h2 : 32 ∉ tl b) (e : tl q = tl a ++ 32 :: tl b) : Txt.split q " " = [a, b] := by
  refine map_tl_inj ?_
  rw [split_spl _ " " (by rw [tl_sp1]; simp) (kind_ok (by decide +kernel)), tl_sp1, e]
  rw [show tl a ++ 32 :: tl b = tl a ++ (32 :: [] ++ tl b) from rfl, spl_part1 h1, spl_last1 h2]
  rfl
theorem split_three {q a b c : Str} (h1 : 32 ∉ tl a) (h2 : 32 ∉ tl b) (h3 : 32 ∉ tl c) (e : tl q = tl a ++ 32 :: (tl b ++ 32 :: tl c)) : Txt.split q " " = [a, b, c] := by
  refine map_tl_inj ?_
  rw [split_spl _ " " (by rw [tl_sp1]; simp) (kind_ok (by decide +kernel)), tl_sp1, e]
  rw [show tl a ++ 32 :: (tl b ++ 32 :: tl c) = tl a ++ (32 :: [] ++ (tl b ++ (32 :: [] ++ tl c))) from rfl, spl_part1 h1, spl_part1 h2, spl_last1 h3]
  rfl
theorem split_four {q a b c d : Str} (h1 : 32 ∉ tl a) (h2 : 32 ∉ tl b) (h3 : 32 ∉ tl c) (h4 : 32 ∉ tl d) (e : tl q = tl a ++ 32 :: (tl b ++ 32 :: (tl c ++ 32 :: tl d))) : Txt.split q " " = [a, b, c, d] := by
  refine map_tl_inj ?_
  rw [split_spl _ " " (by rw [tl_sp1]; simp) (kind_ok (by decide +kernel)), tl_sp1, e]
  rw [show tl a ++ 32 :: (tl b ++ 32 :: (tl c ++ 32 :: tl d)) = tl a ++ (32 :: [] ++ (tl b ++ (32 :: [] ++ (tl c ++ (32 :: [] ++ tl d))))) from rfl, spl_part1 h1, spl_part1 h2, spl_part1 h3, spl_last1 h4]
  rfl
theorem tl_hall : tl ("hall" : Str) = [104, 97, 108, 108] := by decide +kernel
theorem tl_hall2 : tl (" hall " : Str) = 32 :: ([104, 97, 108, 108] ++ [32]) := by decide +kernel
theorem split_q {hd : Str} {x y : Str} (h1 : 32 ∉ tl hd) (hx : NameOk x) (hy : NameOk y) : Txt.split (hd ++ ((" hall " : Str) ++ x ++ (" " : Str) ++ y)) " " = [hd, "hall", x, y] := by
  refine split_four h1 (by rw [tl_hall]; decide) (name_free hx).2.1 (name_free hy).2.1 ?_
  rw [tl_append, tl_append, tl_append, tl_append, tl_hall2, tl_sp1, tl_hall]
  simp
theorem join3 (x y z : Str) : Txt.join " " [x, y, z] = x ++ (" " : Str) ++ y ++ (" " : Str) ++ z := by
  refine ext_tl ?_
  rw [join_eq, tl_join, tl_append, tl_append, tl_append, tl_append]
  show tl x ++ (tl " " ++ (tl y ++ (tl " " ++ tl z))) = _
  simp
theorem split_signs : Txt.split ("signs hall" : Str) " " = ([("signs" : Str), "hall"] : List Str) := split_two (by decide +kernel) (by decide +kernel) (by decide +kernel)
theorem split_ranked : Txt.split ("ranked hall" : Str) " " = ([("ranked" : Str), "hall"] : List Str) := split_two (by decide +kernel) (by decide +kernel) (by decide +kernel)
theorem split_ranked2 : Txt.split ("ranked small" : Str) " " = ([("ranked" : Str), "small"] : List Str) := split_two (by decide +kernel) (by decide +kernel) (by decide +kernel)
theorem split_product : Txt.split ("product hall small" : Str) " " = ([("product" : Str), "hall", "small"] : List Str) := split_three (by decide +kernel) (by decide +kernel) (by decide +kernel) (by decide +kernel)
theorem Rws.off {H0 H : Hp} {p q : Addr} {ls : Rw} {o : HO} (R : Rws H0 H p ls) (h : q ∉ p :: ls.map (·.1)) : Rws H0 (upd H q o) p ls := by
  have ne : ∀ a ∈ p :: ls.map (·.1), a ≠ q := fun a ha e => h (e ▸ ha)
  refine ⟨?_, R.nd, R.new, fun x hx => ?_⟩
  · rw [upd_ne (ne p List.mem_cons_self)]; exact R.at_
  · rw [upd_ne (ne x.1 (List.mem_cons_of_mem _ (List.mem_map.mpr ⟨x, hx, rfl⟩)))]; exact R.its x hx
section
variable {P : Program} {w : World} {K : PySem.W.Frag} {mg : Str → Option Value} {base : Heap} {T : Tbs}
/-- both branches go on with the same slots -/
theorem s_ifP {σ : L2.St} {H : Hp} {D : Ends} {c : TT} {t u : TS} {b1 : Bool} (Mid : Hp → Prop) (hc : Tt c σ H b1) (h1 : b1 = true → ∀ N : L2.St → Hp → Prop, (∀ H', Mid H' → N σ H') → t { D with nx := N } σ H) (h2 : b1 = false → ∀ N : L2.St → Hp → Prop, (∀ H', Mid H' → N σ H') → u { D with nx := N } σ H)
    (key : ∀ H', Mid H' → D.nx σ H') : tIfS c t u D σ H := s_if hc (fun e => h1 e D.nx key) (fun e => h2 e D.nx key)
theorem e_ask {σ : L2.St} {H : Hp} {R : VK} {te : TE} {C a d : Addr} {kvs : Kvs} {i : Nat} {q hd x : Str} {rest : List Str} {ns : List Str} {O : List Nat} {ans : Str} (h0 : σ[i]? = some (some (.ref a))) (hte : Vv te σ H (.str q)) (hql : q.length ≤ 1000) (hsp : Txt.split q " " = hd :: x :: rest) (hx : x ≠ "") (hD : DeskAt H C a d kvs)
    (hH : HeldIn H kvs x ns O) (hI : IsOrd O) (hns : Nms ns O.length) (h16 : O.length ≤ 16) (hA : Ans H kvs x ns O hd rest ans) (hT : LamX.Tabs T H) (r : ∀ H', Ext T H H' → R (.str ans) H') : tMeth C "asked" (spAsked T C) [] E0 (tVar i) (tCons te tNil) σ H R := by
  obtain ⟨dx, hins⟩ := hD.ins
  exact ⟨_, h0, a, dx, _, rfl, hins, rfl, e_cons (hte _ (e_nil ⟨a, d, kvs, q, hd, x, rest, ns, O, ans, rfl, hql, hsp, hx, hD, hH, hI, hns, h16, hA, hT, r⟩))⟩
abbrev s__law_asked : Stmt := top 120
abbrev N__law_asked : List Str := ["_law_desk", "_law_names_here", "_law_order_here", "_law_signs_here", "_law_rows", "_law_a", "_law_b", "_law_pair"]
theorem sc__law_asked : FnScope N__law_asked ["_law_desk", "_law_names_here", "_law_order_here"] (defScope s__law_asked) := ⟨rfl, rfl, rfl, by decide +kernel, rfl, by decide +kernel, by decide +kernel⟩
-- slots: 0 _law_desk, 1 _law_names_here, 2 _law_order_here, 3 _law_signs_here, 4 _law_rows, 5 _law_a, 6 _law_b, 7 _law_pair
def spAskL (T : Tbs) (K : PySem.W.Frag) (C : Addr) : Sp := fun vs H Q _ => ∃ (a d : Addr) (kvs : Kvs) (nm : Addr) (ns : List Str) (p : Addr) (O : List Nat), vs = [.ref a, .ref nm, .ref p] ∧ DeskAt H C a d kvs ∧ HeldIn H kvs "hall" ns O ∧ H nm = some (.lst (txts ns)) ∧ OrdAt K H p O ∧ IsOrd O ∧ Nms ns O.length ∧ LamX.Tabs T H ∧
  ∀ H', Ext T H H' → Q (.bl true) H'
theorem ok__law_asked {C : Addr} (B : Blt mg) (D : DefAt K mg "_law_asked" s__law_asked) (g__law_signs : Calls P w K mg base 1 "_law_signs" ["_law_order_here"] (spSignsL T K)) (g_asked : MCalls P w K mg base 10 C "asked" ["self", "text"] (spAsked T C))
    (g__law_chains : Calls P w K mg base 16 "_law_chains" ["_law_order_here", "_law_a", "_law_b"] (spChL T K 16)) : Calls P w K mg base 17 "_law_asked" ["_law_desk", "_law_names_here", "_law_order_here"] (spAskL T K C) := by
  refine D.ok sc__law_asked (fun vs H Q E h => ?_) (fun _ _ _ _ _ _ us hl => match us, hl with | [_, _, _], _ => rfl) (fun f cdv A outer s H vs Q E hr h => ?_)
  · obtain ⟨a, d, kvs, nm, ns, p, O, rfl, hD, hH, hN, hO, hI, hns, hT, q⟩ := h; rfl
  obtain ⟨a, d, kvs, nm, ns, p, O, rfl, hD, hH, hN, hO, hI, hns, hT, q⟩ := h
  have nd := sc__law_asked.nd
  have hu := hu_of hr
  refine ⟨_, (pss_cons (ps_set (i := 3) nd rfl (Or.inl rfl) (pe_callD g__law_signs (hr.mono (by decide)) rfl (pa_cons (pv 2) pa_nil)))
      (pss_cons (ps_set (i := 4) nd rfl (Or.inl rfl) (pe_lst pa_nil))
      (pss_cons (ps_for PassesOwn.never rfl (pi_range1 (by rfl) B.range (pa_cons (pe_callB (r := rLenK K) call_lenK (by rfl) B.len PySem.boot_len (pa_cons (pv 2) pa_nil)) pa_nil)) (pg_name (i := 5) nd rfl (Or.inl rfl))
        (pss_one (ps_for PassesOwn.never rfl (pi_range1 (by rfl) B.range (pa_cons (pe_callB (r := rLenK K) call_lenK (by rfl) B.len PySem.boot_len (pa_cons (pv 2) pa_nil)) pa_nil)) (pg_name (i := 6) nd rfl (Or.inl rfl))
          (pss_cons (ps_if (pt_cmpR op_ne (pe_ix (r := rIxL K) ix_list (pe_ix (r := rIxL K) ix_list (pv 3) (pv 5) (fun _ _ => rfl)) (pv 6) (fun _ _ => rfl)) pe_int (nomark _))
            (pss_one (ps_expr (pe_bm PySem.F.plainAttrs_list PySem.F.slot_list_append PySem.F.type_list_append mt_append (pv 4) (pa_cons (pe_join pe_str (pe_lst (pa_cons (pe_ix (r := rIxL K) ix_list (pv 1) (pv 5) (fun _ _ => rfl)) (pa_cons (pe_ix (r := rIxL K) ix_list (pv 1) (pv 6) (fun _ _ => rfl)) (pa_cons (pe_callTy call_str_int (by rfl) B.str (by decide +kernel) (pa_cons (pe_ix (r := rIxL K) ix_list (pe_ix (r := rIxL K) ix_list (pv 3) (pv 5) (fun _ _ => rfl)) (pv 6) (fun _ _ => rfl)) pa_nil)) pa_nil))))) pa_nil))))
            pss_nil)
          (pss_cons (ps_set (i := 7) nd rfl (Or.inl rfl) (pe_op op_add_str (pe_op op_add_str (pe_op op_add_str pe_str (pe_ix (r := rIxL K) ix_list (pv 1) (pv 5) (fun _ _ => rfl))) pe_str) (pe_ix (r := rIxL K) ix_list (pv 1) (pv 6) (fun _ _ => rfl))))
          (pss_cons (ps_if (pt_cmpR op_ne (pe_methD g_asked (hr.mono (by decide)) (pv 0) (pa_cons (pe_op op_add_str pe_str (pv 7)) pa_nil)) (pe_callTy call_str_int (by rfl) B.str (by decide +kernel) (pa_cons (pe_ix (r := rIxL K) ix_list (pe_ix (r := rIxL K) ix_list (pv 3) (pv 5) (fun _ _ => rfl)) (pv 6) (fun _ _ => rfl)) pa_nil)) (nomark _))
            (pss_one (ps_ret pe_bl))
            pss_nil)
          (pss_one (ps_if (pt_cmpR op_ne (pe_methD g_asked (hr.mono (by decide)) (pv 0) (pa_cons (pe_op op_add_str pe_str (pv 7)) pa_nil)) (pe_callTy call_str_int (by rfl) B.str (by decide +kernel) (pa_cons (pe_callD g__law_chains (hr.mono (by decide)) rfl (pa_cons (pv 2) (pa_cons (pv 5) (pa_cons (pv 6) pa_nil)))) pa_nil)) (nomark _))
            (pss_one (ps_ret pe_bl))
            pss_nil))))))))
      (pss_one (ps_ret (pe_cmpR op_eq (pe_methD g_asked (hr.mono (by decide)) (pv 0) (pa_cons pe_str pa_nil)) (pe_join pe_str (pv 4)) (nomark _))))))), ?_⟩
  have hlen := hO.len
  refine e_seq (e_set (e_call ⟨_, rfl, p, O, rfl, hO, hI, fun t H1 ls e1 R hls => ?_⟩))
  have hll := rows_len (f := gRow O (-1)) hls
  try dsimp only
  refine e_seq (s_newL fun l hl => ?_)
  have hlH : H l = none := e1.back hl
  have e2 := e1.newer (o := .lst []) hl
  have R1 := R.ext (Ext.new (T := T) (o := .lst []) hl)
  try dsimp only
  refine e_seq (for_rng (T := T) O.length (by omega) (al_lenO rfl (hO.ext e2)) (fun i σ H' => ∃ x y z, σ = [some (.ref a), some (.ref nm), some (.ref p), some (.ref t), some (.ref l), x, y, z] ∧ Ext T H H' ∧ Rws H H' t ls ∧ H' l = some (.lst (txts (tTo ns O i 0)))) ?_ ?_ ?_)
  · intro H2 e3
    exact ⟨_, _, _, rfl, e2.trans e3, R1.ext e3, e3.lst upd_same⟩
  · rintro i σ H2 hi ⟨x, y, z, rfl, e3, R2, hL⟩
    try dsimp only
    refine for_rng (T := T) O.length (by omega) (al_lenO rfl (hO.ext e3)) (fun j σ H' => ∃ y z, σ = [some (.ref a), some (.ref nm), some (.ref p), some (.ref t), some (.ref l), some (iv i), y, z] ∧ Ext T H H' ∧ Rws H H' t ls ∧ H' l = some (.lst (txts (tTo ns O i j)))) ?_ ?_ ?_
    · intro H3 e4
      exact ⟨_, _, rfl, e3.trans e4, R2.ext e4, e4.lst hL⟩
    · rintro j σ H3 hj ⟨y, z, rfl, e4, R3, hL3⟩
      obtain ⟨xi, hxi, hxe⟩ := rows_get (f := gRow O (-1)) hls hi
      have hrow : ∀ {H' : Hp}, Rws H H' t ls → H' xi.1 = some (.lst (intsV (gRow O (-1) i))) := fun R' => by rw [← hxe]; exact R'.its xi (List.mem_of_getElem? hxi)
      have ggl : j < (gRow O (-1) i).length := by unfold gRow; rw [List.length_map, List.length_range]; exact hj
      have hget : ∀ {σ : L2.St} {H' : Hp}, Rws H H' t ls → σ[3]? = some (some (.ref t)) → σ[5]? = some (some (iv i)) → σ[6]? = some (some (iv j)) → Vv (tOp (rIxL K) (tOp (rIxL K) (tVar 3) (tVar 5)) (tVar 6)) σ H' (.int (gn O (-1) i j)) := fun R' h1 h2 h3 =>
        vv_is (vv_ixL (vv_ixL (vv_var h1) (vv_var h2) (SqL.of R'.at_) (refs_get hxi)) (vv_var h3) (SqL.of (hrow R')) (at_ints ggl)) (by rw [gRow_get hj])
      have hnmv : ∀ {σ : L2.St} {H' : Hp} {s k : Nat}, Ext T H H' → σ[1]? = some (some (.ref nm)) → σ[s]? = some (some (iv k)) → k < O.length → Vv (tOp (rIxL K) (tVar 1) (tVar s)) σ H' (.str (nmOf ns k)) := fun e h1 h2 hk => vv_ixL (vv_var h1) (vv_var h2) (SqL.of (e.lst hN)) (nm_get hns.toOk hk)
      have hstr : ∀ {σ : L2.St} {H' : Hp}, Rws H H' t ls → σ[3]? = some (some (.ref t)) → σ[5]? = some (some (iv i)) → σ[6]? = some (some (iv j)) → Vv (tCB (fun xs H Q => ∃ i, xs = [V.int i] ∧ i.natAbs.log2 < 1920 ∧ Q (.str (toString i)) H) (tCons (tOp (rIxL K) (tOp (rIxL K) (tVar 3) (tVar 5)) (tVar 6)) tNil)) σ H' (.str (numS (gn O (-1) i j))) := fun R' h1 h2 h3 Q' q' =>
        e_cb (e_cons (hget R' h1 h2 h3 _ (e_nil ⟨_, rfl, gn_log hlen (by decide) i j, q'⟩)))
      have l1 := nm_len hns.toOk i
      have l2 := nm_len hns.toOk j
      have l3 := numS_len (gn_bound hlen (e := -1) (by decide) i j)
      have hnl : ∀ {H' : Hp}, l ∉ t :: ls.map (·.1) → True := fun _ => trivial
      try dsimp only
      -- the row
      refine e_seq (s_ifP (b1 := decide (gn O (-1) i j ≠ 0)) (fun H' => Ext T H H' ∧ Rws H H' t ls ∧ H' l = some (.lst (txts (tTo ns O i (j + 1))))) (tt_is (tt_test (vv_op (z := .bl (!decide (V.int (gn O (-1) i j) = V.int 0))) (hget R3 rfl rfl rfl) vv_c fun _ q => ⟨rfl, q⟩)) ?_) (fun hc N hN => ?_) (fun hc N hN => hN _ ⟨e4, R3, ?_⟩) fun H4 ⟨e5, R4, hL4⟩ => ?_)
      · by_cases h : gn O (-1) i j = 0
        · rw [h]; simp
        · have : ¬ V.int (gn O (-1) i j) = V.int 0 := fun e => h (by injection e)
          simp [h, this]
      · refine e_drop (e_bm (vv_var rfl) hL3 (e_cons ⟨⟨_, rfl⟩, e_lst (e_cons (hnmv e4 rfl rfl hi _ (e_cons (hnmv e4 rfl rfl hj _ (e_cons (hstr R3 rfl rfl rfl _ (e_nil ⟨(by show 3 ≤ sizeLine; decide), fun g hg => ?_⟩)))))))⟩))
        have e5 : Ext T H3 (upd H3 g (.lst [.str (nmOf ns i), .str (nmOf ns j), .str (numS (gn O (-1) i j))])) := .new hg
        refine ⟨_, g, [nmOf ns i, nmOf ns j, numS (gn O (-1) i j)], rfl, rfl, .inl (SqL.of upd_same), ?_, e_nil ⟨l, _, _, rfl, rfl, e5.lst hL3, ?_, hN _ ⟨(e4.trans e5).mutL hlH (e5.lst hL3), ?_, ?_⟩⟩⟩
        · simp only [List.map_cons, List.map_nil, List.sum_cons, List.sum_nil, List.length_cons, List.length_nil]
          rw [len_sp]
          omega
        · rw [List.length_map]
          have := tTo_len (ns := ns) hlen (Nat.le_of_lt hi) (Nat.le_of_lt hj)
          exact smallt (by omega)
        · have hfr : l ∉ t :: ls.map (·.1) := R.fresh hl
          exact (R3.ext e5).off hfr
        · rw [upd_same, join3]
          show some (HO.lst (txts (tTo ns O i j) ++ [V.str (rowT ns O i j)])) = _
          rw [strs_app, tTo_step, if_pos hc]
      · rw [tTo_step, if_neg (by rw [hc]; decide), List.append_nil]
        exact hL3
      -- the questions
      have hpl : ((" hall " : Str) ++ nmOf ns i ++ (" " : Str) ++ nmOf ns j).length ≤ 30 := by
        have : (" hall " : Str).length = 6 := by decide +kernel
        rw [Str.length_append, Str.length_append, Str.length_append, this, len_sp]
        omega
      have len_hall : (" hall " : Str).length = 6 := by decide +kernel
      have ni := nm_ok hns hi
      have nj := nm_ok hns hj
      try dsimp only
      refine e_seq (s_set (v := .str ((" hall " : Str) ++ nmOf ns i ++ (" " : Str) ++ nmOf ns j)) (vv_addS (vv_addS (vv_addS vv_c (hnmv e5 rfl rfl hi) (by rw [len_hall]; omega)) vv_c (by rw [Str.length_append, len_hall, len_sp]; omega)) (hnmv e5 rfl rfl hj) (by rw [Str.length_append, Str.length_append, len_hall, len_sp]; omega)) ?_)
      try dsimp only
      have l_sign : ("sign" : Str).length = 4 := by decide +kernel
      have l_chains : ("chains" : Str).length = 6 := by decide +kernel
      refine e_seq (e_if (e_test (e_op (e_ask (T := T) rfl (vv_addS vv_c (vv_var rfl) (by rw [l_sign]; omega)) (by rw [Str.length_append, l_sign]; omega) (split_q (hd := "sign") (by decide +kernel) ni nj) (by decide +kernel) (hD.ext e5) (hH.ext e5) hI hns hlen (.sign hi hj) (e5.tb hT) fun H5 e6 => ?_))))
      have R5 := R4.ext e6
      refine hstr R5 rfl rfl rfl _ ⟨rfl, _, rfl, ?_⟩
      rw [decide_eq_true rfl]
      refine iteF ?_
      try unfold tNext
      try dsimp only
      have e56 := e5.trans e6
      refine e_if (e_test (e_op (e_ask (T := T) rfl (vv_addS vv_c (vv_var rfl) (by rw [l_chains]; omega)) (by rw [Str.length_append, l_chains]; omega) (split_q (hd := "chains") (by decide +kernel) ni nj) (by decide +kernel) (hD.ext e56) (hH.ext e56) hI hns hlen (.chains hi hj) (e56.tb hT) fun H6 e7 => ?_)))
      have e57 := e56.trans e7
      refine e_cb (e_cons (e_call ⟨_, rfl, _, rfl, _, rfl, p, O, i, j, rfl, hO.ext e57, hI, hi, hj, ?_, fun H7 e8 => ⟨_, rfl, gn_log hlen (by decide) i j, rfl, _, rfl, ?_⟩⟩))
      · have := usz_le O i
        omega
      rw [decide_eq_true rfl]
      refine iteF ⟨_, _, rfl, e57.trans e8, (R5.ext e7).ext e8, (e8.lst (e7.lst (e6.lst hL4)))⟩
    · rintro σ H3 ⟨y, z, rfl, e4, R3, hL3⟩
      exact ⟨_, _, _, rfl, e4, R3, by rw [← tTo_row]; exact hL3⟩
  · rintro σ H2 ⟨x, y, z, rfl, e3, R2, hL⟩
    try dsimp only
    refine e_ret (e_op (e_ask (T := T) rfl vv_c (by decide +kernel) split_signs (by decide +kernel) (hD.ext e3) (hH.ext e3) hI hns hlen .signs (e3.tb hT) fun H3 e4 => ?_))
    refine ⟨⟨_, rfl⟩, _, rfl, _, l, _, rfl, rfl, .inl (SqL.of (e4.lst hL)), tab_room hns.toOk hlen, rfl, ?_⟩
    show Q (V.bl (decide (V.str (tabText ns O) = V.str (tabText ns O)))) H3
    rw [decide_eq_true rfl]
    exact q H3 (e3.trans e4)
end
end SW

/-! ## SwAG -/
/-! The law asks the desk all. -/
namespace SW
open PySem PySem.Spec PyProof.Rows L2 Bits TL
theorem lets16_tl : tl ("abcdefghijklmnop" : Str) = List.range' 97 16 := by decide +kernel
theorem a_sgn : ("a" : Str) = sgn 97 := by decide +kernel
section
variable {P : Program} {w : World} {K : PySem.W.Frag} {mg : Str → Option Value} {base : Heap} {T : Tbs}
theorem vv_let16 {σ : L2.St} {H : Hp} {ta tb : TE} {i : Nat} (h : i < 16) (ha : Vv ta σ H (.str "abcdefghijklmnop")) (hb : Vv tb σ H (iv i)) : Vv (tOp rIxS ta tb) σ H (.str (sgn (97 + i))) :=
  vv_op ha hb fun _ q => ⟨_, _, _, rfl, rfl, (by decide +kernel), by
    show atI (tl ("abcdefghijklmnop" : Str)) (i : Int) = some (97 + i)
    rw [lets16_tl]
    refine atI_nat ?_
    rw [List.getElem?_range' h]
    simp, q⟩
/-- ["no", "yes"][int(b)] -/
theorem e_yn {σ : L2.St} {H : Hp} {R : VK} {tb : TE} {b : Bool} (hb : ∀ H1 (R : VK), Ext T H H1 → (∀ H', Ext T H1 H' → R (.bl b) H') → tb σ H1 R) (r : ∀ H', Ext T H H' → R (.str (yn b)) H') :
    tOp (rIxL K) (tLst (tCons (tC (.str "no")) (tCons (tC (.str "yes")) tNil))) (tCB (fun xs H Q => (∃ i, xs = [V.int i] ∧ Q (.int i) H) ∨ ∃ k, xs = [V.bl k] ∧ Q (.int (if k then 1 else 0)) H) (tCons tb tNil)) σ H R := by
  refine e_op (e_lst (e_cons (vv_c _ (e_cons (vv_c _ (e_nil ⟨(by show 2 ≤ sizeLine; decide), fun l hl => ?_⟩))))))
  have e1 : Ext T H (upd H l (.lst [V.str "no", V.str "yes"])) := .new hl
  refine e_cb (e_cons (hb _ _ e1 fun H2 e2 => e_nil (.inr ⟨b, rfl, l, _, _, _, rfl, rfl, SqL.of (e2.lst upd_same), ?_, r H2 (e1.trans e2)⟩)))
  cases b with
  | true => exact atI_nat (j := 1) rfl
  | false => exact atI_nat (j := 0) rfl
abbrev s__law_all_asked : Stmt := top 121
abbrev N__law_all_asked : List Str := ["_law_desk", "_law_names_here", "_law_order_here", "_law_small", "_law_both", "_law_k", "_law_letters"]
theorem sc__law_all_asked : FnScope N__law_all_asked ["_law_desk", "_law_names_here", "_law_order_here", "_law_small"] (defScope s__law_all_asked) := ⟨rfl, rfl, rfl, by decide +kernel, rfl, by decide +kernel, by decide +kernel⟩
-- slots: 0 _law_desk, 1 _law_names_here, 2 _law_order_here, 3 _law_small, 4 _law_both, 5 _law_k, 6 _law_letters
def spAllL (T : Tbs) (K : PySem.W.Frag) (C : Addr) : Sp := fun vs H Q _ => ∃ (a d : Addr) (kvs : Kvs) (nm : Addr) (ns : List Str) (p : Addr) (O : List Nat) (r : Addr) (ns2 : List Str) (R : List Nat), vs = [.ref a, .ref nm, .ref p, .ref r] ∧ DeskAt H C a d kvs ∧ HeldIn H kvs "hall" ns O ∧ HeldIn H kvs "small" ns2 R ∧
  H nm = some (.lst (txts ns)) ∧ OrdAt K H p O ∧ OrdAt K H r R ∧ IsOrd O ∧ IsOrd R ∧ Nms ns O.length ∧ O.length ≤ 6 ∧ R.length ≤ 2 ∧ LamX.Tabs T H ∧ ∀ H', Ext T H H' → Q (.bl true) H'
theorem ok__law_all_asked {C : Addr} (B : Blt mg) (D : DefAt K mg "_law_all_asked" s__law_all_asked) (g__law_product : Calls P w K mg base 1 "_law_product" ["_law_one", "_law_other"] (spProd T K)) (g_asked : MCalls P w K mg base 10 C "asked" ["self", "text"] (spAsked T C))
    (g__law_text : Calls P w K mg base 2 "_law_text" ["_law_names_here", "_law_order_here"] (spTextL T K)) (g__law_ranked : Calls P w K mg base 2 "_law_ranked" ["_law_order_here"] (spRankedL T K))
    (g__law_asked : Calls P w K mg base 17 "_law_asked" ["_law_desk", "_law_names_here", "_law_order_here"] (spAskL T K C)) : Calls P w K mg base 18 "_law_all_asked" ["_law_desk", "_law_names_here", "_law_order_here", "_law_small"] (spAllL T K C) := by
  refine D.ok sc__law_all_asked (fun vs H Q E h => ?_) (fun _ _ _ _ _ _ us hl => match us, hl with | [_, _, _, _], _ => rfl) (fun f cdv A outer s H vs Q E hr h => ?_)
  · obtain ⟨a, d, kvs, nm, ns, p, O, r, ns2, R, rfl, hD, hH, hH2, hN, hO, hR, hI, hIR, hns, h6, h2, hT, q⟩ := h; rfl
  obtain ⟨a, d, kvs, nm, ns, p, O, r, ns2, R, rfl, hD, hH, hH2, hN, hO, hR, hI, hIR, hns, h6, h2, hT, q⟩ := h
  have nd := sc__law_all_asked.nd
  have hu := hu_of hr
  refine ⟨_, (pss_cons (ps_set (i := 4) nd rfl (Or.inl rfl) (pe_callD g__law_product (hr.mono (by decide)) rfl (pa_cons (pv 2) (pa_cons (pv 3) pa_nil))))
      (pss_cons (ps_setLc (i := 6) (own := [("_law_k", 5)]) (g := gName 5) rfl nd rfl rfl (sw_true rfl rfl rfl (by decide +kernel)) (pi_range1 (by rfl) B.range (pa_cons (pe_callB (r := rLenK K) call_lenK (by rfl) B.len PySem.boot_len (pa_cons (pv 4) pa_nil)) pa_nil)) (blkOk_by (own := [("_law_k", 5)]) (N := N__law_all_asked) (sc := defScope s__law_all_asked) (by decide +kernel)) (fun _ _ _ _ _ => pg_name (i := 5) nd rfl (Or.inl rfl)) (fun _ _ _ _ _ => pts_nil) (fun _ _ _ _ _ => (pe_op op_add_str pe_str (pe_ix ix_str pe_str (pv 5) (fun _ _ => rfl)))))
      (pss_cons (ps_if (pt_cmpR op_ne (pe_methD g_asked (hr.mono (by decide)) (pv 0) (pa_cons pe_str pa_nil)) (pe_callD g__law_text (hr.mono (by decide)) rfl (pa_cons (pv 6) (pa_cons (pv 4) pa_nil))) (nomark _))
        (pss_one (ps_ret pe_bl))
        pss_nil)
      (pss_cons (ps_if (pt_cmpR op_ne (pe_methD g_asked (hr.mono (by decide)) (pv 0) (pa_cons pe_str pa_nil)) (pe_ix (r := rIxL K) ix_list (pe_lst (pa_cons pe_str (pa_cons pe_str pa_nil))) (pe_callTy call_int1 (by rfl) B.int (by decide +kernel) (pa_cons (pe_callD g__law_ranked (hr.mono (by decide)) rfl (pa_cons (pv 2) pa_nil)) pa_nil)) (fun _ _ => rfl)) (nomark _))
        (pss_one (ps_ret pe_bl))
        pss_nil)
      (pss_one (ps_ret (pe_callD g__law_asked (hr.mono (by decide)) rfl (pa_cons (pv 0) (pa_cons (pv 1) (pa_cons (pv 2) pa_nil)))))))))), ?_⟩
  have hnm : O.length * R.length ≤ 12 := by
    have := Nat.mul_le_mul h6 h2
    omega
  have h16 : O.length ≤ 16 := by omega
  refine e_seq (e_set (e_call ⟨_, rfl, _, rfl, p, O, r, R, rfl, hO, hR, by omega, fun t H1 e1 ht hP => ?_⟩))
  have hpl := prodO_len O R
  have hPO : OrdAt K H1 t (prodO O R) := ⟨SqT.of hP, by rw [hpl]; omega, prodO_bd O R⟩
  try dsimp only
  refine e_seq (e_set ?_)
  refine lc_rng (T := T) (prodO O R).length (fun _ => true) (fun k => .str (sgn 97 ++ sgn (97 + k))) (by omega) (al_lenO rfl hPO) (fun _ => rfl) (fun _ _ _ _ => tl_yes) (fun k H2 hk _ e2 => ?_) ?_
  · have hv := vv_addS (σ := (wipe [some (.ref a), some (.ref nm), some (.ref p), some (.ref r), some (.ref t), none, none] [5]).set 5 (some (iv k))) (H := H2) (vv_c (v := .str "a")) (vv_let16 (i := k) (by omega) vv_c (vv_var (i := 5) (v := iv k) rfl)) (by rw [sgn_len]; decide +kernel)
    rw [a_sgn] at hv
    exact hv.l
  intro nl H2 e2 _ hnl
  rw [filter_yes] at hnl
  have hnl2 : H2 nl = some (.lst (txts (lets (O.length * R.length)))) := by
    rw [hnl, hpl]
    unfold lets txts
    rw [List.map_map]
    rfl
  have e12 := e1.trans e2
  try dsimp only
  refine e_seq (e_if (e_test (e_op (e_ask (T := T) rfl vv_c (by decide +kernel) split_product (by decide +kernel) (hD.ext e12) (hH.ext e12) hI hns h16 (.product (by decide +kernel) (hH2.ext e12) hIR (by omega) (by omega)) (e12.tb hT) fun H3 e3 => ?_))))
  have e13 := e12.trans e3
  refine e_call ⟨_, rfl, _, rfl, nl, _, t, prodO O R, rfl, e3.lst hnl2, (hPO.ext e2).ext e3, by rw [hpl]; exact lets_ok _, fun H4 e4 => ⟨rfl, _, rfl, ?_⟩⟩
  rw [decide_eq_true rfl]
  refine iteF ?_
  try unfold tNext
  try dsimp only
  have e14 := e13.trans e4
  refine e_seq (e_if (e_test (e_op (e_ask (T := T) rfl vv_c (by decide +kernel) split_ranked (by decide +kernel) (hD.ext e14) (hH.ext e14) hI hns h16 .ranked (e14.tb hT) fun H5 e5 => ?_))))
  have e15 := e14.trans e5
  refine e_yn (T := T) (K := K) (b := ranked O) (fun H6 R' e6 r' => e_call ⟨_, rfl, p, O, rfl, hO.ext (e15.trans e6), hI, h6, fun H7 e7 => r' H7 e7⟩) fun H6 e6 => ⟨rfl, _, rfl, ?_⟩
  rw [decide_eq_true rfl]
  refine iteF ?_
  try unfold tNext
  try dsimp only
  have e16 := e15.trans e6
  exact e_ret (e_call (e_cons (e_var rfl (e_cons (e_var rfl (e_cons (e_var rfl (e_nil ⟨a, d, kvs, nm, ns, p, O, rfl, hD.ext e16, hH.ext e16, e16.lst hN, hO.ext e16, hI, hns, e16.tb hT, fun H7 e7 => q H7 (e16.trans e7)⟩))))))))
end
end SW

/-! ## SwAH -/
/-! The law. -/
namespace SW
open PySem PySem.Spec PyProof.Rows L2 Bits TL
/-! ### a desk made -/
structure MkG (P : Program) (w : World) (K : PySem.W.Frag) (mg : Str → Option Value) (base : Heap) (k : Nat) (x : Str) (C : Addr) (sp : Sp) : Prop where
  ex : ∃ (f : Addr) (fd : FuncData), mg x = some (.ref C) ∧ Mk K C f ∧ Binds K fd ["self"] [] ∧ FnOk P w K mg base CX0 k f fd ["self"] sp
theorem pe_makeD {X : Cx} {k : Nat} {x : Str} {C : Addr} {sp : Sp} {p pos : Pos} (G : MkG X.prog X.w X.K X.mg X.base k x C sp) (hr : Room (k + 1) X.A) (hg : Gl X x) (hdb : (x == ("__debug__" : Str)) = false := by decide) : PE X (.Call (.Name x p) [] [] pos) (tMake C sp [] E0 tNil) := by
  obtain ⟨f, fd, hm, mk, hb, F⟩ := G.ex
  exact pe_make0 mk F hr hg hm hb .nil pass0 hdb
/-! ### what stays when the desk takes an order -/
structure Kp (T : Tbs) (H H' : Hp) : Prop where
  lst : ∀ b xs, H b = some (.lst xs) → H' b = some (.lst xs)
  tup : ∀ b xs, H b = some (.tup xs) → H' b = some (.tup xs)
  frz : ∀ b o u, H b = some (.frz o u) → H' b = some (.frz o u)
  ins : ∀ b C dx fs, H b = some (.ins C dx fs) → H' b = some (.ins C dx fs)
  tb : LamX.Tabs T H → LamX.Tabs T H'
section
variable {T : Tbs} {K : PySem.W.Frag} {H H' H2 : Hp}
theorem Kp.ofE (e : Ext T H H') : Kp T H H' := ⟨fun _ _ h => e.lst h, fun _ _ h => e.tup h, fun _ _ _ h => e.kp _ _ h (fun _ z => (nomatch z)), fun _ _ _ _ h => e.ins h, e.tb⟩
theorem Kp.trans (a : Kp T H H') (b : Kp T H' H2) : Kp T H H2 := ⟨fun x y h => b.lst x y (a.lst x y h), fun x y h => b.tup x y (a.tup x y h), fun x y z h => b.frz x y z (a.frz x y z h), fun x y z u h => b.ins x y z u (a.ins x y z u h), fun h => b.tb (a.tb h)⟩
theorem Kp.put {d : Addr} {kvs kvs' : List (Key × V)} (h : H d = some (.dK kvs)) : Kp T H (upd H d (.dK kvs')) := by
  have ne : ∀ b o, H b = some o → (∀ k, o ≠ .dK k) → upd H d (.dK kvs') b = some o := fun b o hb hn => by
    rw [upd_ne fun z => ?_]
    · exact hb
    · rw [z, h] at hb
      exact hn _ (Option.some.inj hb).symm
  exact ⟨fun b xs hb => ne b _ hb (fun _ z => (nomatch z)), fun b xs hb => ne b _ hb (fun _ z => (nomatch z)), fun b o u hb => ne b _ hb (fun _ z => (nomatch z)), fun b C dx fs hb => ne b _ hb (fun _ z => (nomatch z)), fun t => tabs_mut t h trivial⟩
theorem Kp.st (e : Kp T H H') {p : Addr} {xs : List V} (h : SqT K H p xs) : SqT K H' p xs := by
  rcases h with (h | ⟨o, h⟩) | h
  · exact .inl (.inl (e.tup _ _ h))
  · exact .inl (.inr ⟨o, e.frz _ _ _ h⟩)
  · exact .inr h
theorem Kp.sl (e : Kp T H H') {p : Addr} {xs : List V} (h : SqL K H p xs) : SqL K H' p xs := by
  rcases h with (h | ⟨o, h⟩) | h
  · exact .inl (.inl (e.lst _ _ h))
  · exact .inl (.inr ⟨o, e.frz _ _ _ h⟩)
  · exact .inr h
theorem OrdAt.kp {p : Addr} {O : List Nat} (e : Kp T H H') (h : OrdAt K H p O) : OrdAt K H' p O := ⟨e.st h.tup, h.len, h.bd⟩
theorem Tz.kp {p : Addr} {xs : List V} (e : Kp T H H') (h : Tz H p xs) : Tz H' p xs := by
  obtain ⟨o, h1, h2⟩ := h
  exact ⟨o, e.frz _ _ _ h1, h2⟩
theorem HeldIn.put {kvs : Kvs} {x y : Str} {v : V} {ns : List Str} {O : List Nat} (e : Kp T H H') (hn : y ≠ x) (h : HeldIn H kvs y ns O) : HeldIn H' (putK kvs (.inr x) v) y ns O := by
  obtain ⟨r, n1, o1, h1, h2, h3, h4⟩ := h
  refine ⟨r, n1, o1, ?_, e.tup _ _ h2, h3.kp e, e.tup _ _ h4⟩
  rw [valV_put, if_neg fun z => hn (by injection z)]
  exact h1
theorem e_take {σ : L2.St} {R : VK} {te : TE} {C a d : Addr} {kvs : Kvs} {i : Nat} {x t : Str} {ns : List Str} {O : List Nat} (h0 : σ[i]? = some (some (.ref a))) (hte : Vl T te σ H (.str t)) (hD : DeskAt H C a d kvs) (hl : kvs.length ≤ 100) (hW : Writes t ns O) (hns : Nms ns O.length) (hI : IsOrd O) (h16 : O.length ≤ 16)
    (r : ∀ H' v, Kp T H H' → DeskAt H' C a d (putK kvs (.inr x) v) → HeldIn H' (putK kvs (.inr x) v) x ns O → R .non H') : tMeth C "take" (spTake T C) [] E0 (tVar i) (tCons (tC (.str x)) (tCons te tNil)) σ H R := by
  obtain ⟨dx, hins⟩ := hD.ins
  refine ⟨_, h0, a, dx, _, rfl, hins, rfl, e_cons (vv_c _ (e_cons (hte _ fun H1 e1 => e_nil ⟨a, d, kvs, x, t, ns, O, rfl, hD.ext e1, hl, hW, hns, hI, h16, fun H2 q n1 o1 e2 hq hq2 hn1 ho1 => ?_⟩)))⟩
  have hD2 := (hD.ext e1).ext e2
  have k2 : Kp T H2 (upd H2 d (.dK (putK kvs (.inr x) (.ref q)))) := .put hD2.dic
  obtain ⟨dx2, hins2⟩ := hD2.ins
  refine r _ (.ref q) ((Kp.ofE (e1.trans e2)).trans k2) ⟨⟨dx2, k2.ins _ _ _ _ hins2⟩, upd_same⟩ ⟨q, n1, o1, ?_, k2.tup _ _ hq2, hn1.kp k2, k2.tup _ _ ho1⟩
  rw [valV_put, if_pos rfl]
end
/-! ### data of orders and tables -/
theorem shaped_due {ns : List Str} {O : List Nat} (h : ∀ s ∈ ns, PyData.strOk s = true) : SeqAt.shaped (.tuple [.tuple (dS ns), .tuple (dI (natsI O))]) = true := by
  show ((PyData.canLayAll0 (dS ns) && (PyData.canLayAll0 (dI (natsI O)) && true)) && decide (max (PyData.depthAll (dS ns) + 1) (max (PyData.depthAll (dI (natsI O)) + 1) 0) + 1 ≤ 64)) = true
  rw [canLay_dS ns h, canLay_dI, depth_dI, depth_dS]
  rfl
theorem eqv_due (ns : List Str) (O : List Nat) : PyData.eqv (.tuple [.tuple (dS ns), .tuple (dI (natsI O))]) (.tuple [.tuple (dS ns), .tuple (dI (natsI O))]) = true := by
  show (PyData.eqvAll (dS ns) (dS ns) && (PyData.eqvAll (dI (natsI O)) (dI (natsI O)) && true)) = true
  rw [eqv_dS, eqv_dI]
  simp
abbrev dT (Rs : List (List Int)) : List PyData := Rs.map fun R => .list (dI R)
theorem shaped_dT (Rs : List (List Int)) : SeqAt.shaped (.list (dT Rs)) = true := by
  have h1 : ∀ l : List (List Int), PyData.canLayAll0 (dT l) = true := fun l => by
    induction l with
    | nil => rfl
    | cons x r ih =>
      show (PyData.canLayAll0 (dI x) && PyData.canLayAll0 (dT r)) = true
      rw [canLay_dI, ih]; rfl
  have h2 : ∀ l : List (List Int), PyData.depthAll (dT l) ≤ 1 := fun l => by
    induction l with
    | nil => exact Nat.zero_le _
    | cons x r ih =>
      show max (PyData.depthAll (dI x) + 1) (PyData.depthAll (dT r)) ≤ 1
      rw [depth_dI]
      omega
  have h3 := h2 Rs
  simp only [SeqAt.shaped, PyData.canLay0, PyData.depth, h1]
  simp
  omega
theorem eqv_dT (Rs : List (List Int)) : PyData.eqv (.list (dT Rs)) (.list (dT Rs)) = true := by
  show PyData.eqvAll (dT Rs) (dT Rs) = true
  induction Rs with
  | nil => rfl
  | cons x r ih =>
    show (PyData.eqvAll (dI x) (dI x) && PyData.eqvAll (dT r) (dT r)) = true
    rw [eqv_dI, ih]
    simp
theorem dp_rows {K : PySem.W.Frag} {H : Hp} : ∀ {ls : Rw}, (∀ x ∈ ls, H x.1 = some (.lst (intsV x.2))) → DpAll K H (refs ls) (dT (ls.map (·.2)))
  | [], _ => .nil
  | x :: r, h => .cons (.lst (SqL.of (h x List.mem_cons_self)) (dpAll_ints _)) (dp_rows fun y hy => h y (List.mem_cons_of_mem _ hy))
theorem cut_all (xs : List V) : cutV xs (some 1) none = xs.drop 1 := by
  unfold cutV
  rw [show (1 : Int) = ((1 : Nat) : Int) from rfl, HT.sIx_nat, HT.sIx_none]
  rcases xs with _ | ⟨x, r⟩
  · rfl
  · simp
theorem cut_pre (xs : List V) (m : Nat) : cutV xs none (some ((m : Nat) : Int)) = xs.take m := by
  unfold cutV
  rw [HT.sIx_nat, HT.sIx_none, List.drop_zero, Nat.sub_zero]
  by_cases h : m ≤ xs.length
  · rw [Nat.min_eq_left h]
  · rw [Nat.min_eq_right (by omega), List.take_of_length_le (Nat.le_refl _), List.take_of_length_le (by omega)]
theorem xy_nms {m : Nat} (h : m ≤ 2) : Nms (([("x" : Str), "y"] : List Str).take m) m := by
  have hx : NameOk "x" := ⟨by decide +kernel, by decide +kernel, by decide +kernel⟩
  have hy : NameOk "y" := ⟨by decide +kernel, by decide +kernel, by decide +kernel⟩
  refine ⟨by rw [List.length_take]; exact Nat.min_eq_left h, fun s hs => ?_, ?_⟩
  · have := List.mem_of_mem_take hs
    rcases List.mem_cons.mp this with e | k
    · rw [e]; exact hx
    · rw [List.mem_singleton.mp k]; exact hy
  · exact List.Nodup.sublist (List.take_sublist _ _) (by decide +kernel)
section
variable {P : Program} {w : World} {K : PySem.W.Frag} {mg : Str → Option Value} {base : Heap} {T : Tbs}
abbrev s_law : Stmt := top 122
abbrev N_law : List Str := ["_law_script", "_law_stir", "_law_order_here", "_law_names_here", "_law_text_here", "_law_other", "_law_due", "_law_row", "_law_desk", "_law_small", "_law_later"]
theorem sc_law : FnScope N_law ["_law_script"] (defScope s_law) := ⟨rfl, rfl, rfl, by decide +kernel, rfl, by decide +kernel, by decide +kernel⟩
-- slots: 0 _law_script, 1 _law_stir, 2 _law_order_here, 3 _law_names_here, 4 _law_text_here, 5 _law_other, 6 _law_due, 7 _law_row, 8 _law_desk, 9 _law_small, 10 _law_later
theorem okF {x : Str} {st : Stmt} {N ps : List Str} {k : Nat} {sp : Sp} {f : Addr} {fd : FuncData} (S : FnScope N ps (defScope st)) (F : FunD K x x (defArgs st) (defBody st) (defScope st) [] [] f fd) (len : ∀ vs H Q E, sp vs H Q E → vs.length = ps.length)
    (hbody : ∀ (f : Addr) (cdv : Value) (A : Around) (outer : List Env) (s : Shared) (H : Hp) (vs : List V) (Q : VK) (E : XK), Room k (A.deeper (envOfC x (defScope st) s.heap.objs.size f cdv)) → sp vs H Q E →
      ∃ t, PSs (cxOf CX0 P w K mg base N x (defScope st) f cdv A outer s H E).nox (defBody st) t ∧ t { nx := fun _ H' => Q .non H', rt := Q } (start N vs) H) : FnOk P w K mg base CX0 (k + 1) f fd ps sp := by
  refine F.ok S len fun cdv A outer s H vs Q E hr h => ?_
  obtain ⟨t, ht, q⟩ := hbody f cdv A outer s H vs Q E hr h
  exact ⟨t, ht.nox, q⟩
def spLaw (T : Tbs) (K : PySem.W.Frag) : Sp := fun vs H Q _ => ∃ (p : Addr) (cs : List Int), vs = [.ref p] ∧ SqL K H p (intsV cs) ∧ cs.length ≤ 63 ∧ LamX.Tabs T H ∧ ∀ H', Q (.bl true) H'
theorem ok_law {C f : Addr} {fd : FuncData} (B : Blt mg) (D : FunD K "law" "law" (defArgs s_law) (defBody s_law) (defScope s_law) [] [] f fd) (g__law_stirred : Calls P w K mg base 1 "_law_stirred" ["_law_script"] (spStirred K)) (g__law_order : Calls P w K mg base 2 "_law_order" ["_law_script", "_law_stir", "_law_most"] (spOrderL T K))
    (g__law_names : Calls P w K mg base 2 "_law_names" ["_law_stir", "_law_many"] (spNamesL T)) (g__law_text : Calls P w K mg base 2 "_law_text" ["_law_names_here", "_law_order_here"] (spTextL T K)) (g__law_other_text : Calls P w K mg base 2 "_law_other_text" ["_law_names_here", "_law_order_here", "_law_stir"] (spOther T K))
    (g_read_order : Calls P w K mg base 4 "read_order" ["text"] (spRead T)) (g_shown_order : Calls P w K mg base 4 "shown_order" ["names", "order"] (spTextP T K)) (g_signs_table : Calls P w K mg base 7 "signs_table" ["order"] (spSignsTable T K)) (g__law_signs : Calls P w K mg base 1 "_law_signs" ["_law_order_here"] (spSignsL T K))
    (g_Desk : MkG P w K mg base 1 "Desk" C (spInit C)) (g_take : MCalls P w K mg base 5 C "take" ["self", "name", "text"] (spTake T C)) (g_asked : MCalls P w K mg base 10 C "asked" ["self", "text"] (spAsked T C))
    (g__law_all_asked : Calls P w K mg base 18 "_law_all_asked" ["_law_desk", "_law_names_here", "_law_order_here", "_law_small"] (spAllL T K C)) (g__law_ranked : Calls P w K mg base 2 "_law_ranked" ["_law_order_here"] (spRankedL T K)) :
    FnOk P w K mg base CX0 19 f fd ["_law_script"] (spLaw T K) := by
  refine okF sc_law D (fun vs H Q E h => ?_) (fun f cdv A outer s H vs Q E hr h => ?_)
  · obtain ⟨p, cs, rfl, hp, hcs, hT, q⟩ := h; rfl
  obtain ⟨p, cs, rfl, hp, hcs, hT, q⟩ := h
  have nd := sc_law.nd
  have hu := hu_of hr
  refine ⟨_, (pss_cons (ps_set (i := 1) nd rfl (Or.inl rfl) (pe_callD g__law_stirred (hr.mono (by decide)) rfl (pa_cons (pv 0) pa_nil)))
      (pss_cons (ps_set (i := 2) nd rfl (Or.inl rfl) (pe_callD g__law_order (hr.mono (by decide)) rfl (pa_cons (pv 0) (pa_cons (pv 1) (pa_cons pe_int pa_nil)))))
      (pss_cons (ps_set (i := 3) nd rfl (Or.inl rfl) (pe_callD g__law_names (hr.mono (by decide)) rfl (pa_cons (pv 1) (pa_cons (pe_callB (r := rLenK K) call_lenK (by rfl) B.len PySem.boot_len (pa_cons (pv 2) pa_nil)) pa_nil))))
      (pss_cons (ps_set (i := 4) nd rfl (Or.inl rfl) (pe_callD g__law_text (hr.mono (by decide)) rfl (pa_cons (pv 3) (pa_cons (pv 2) pa_nil))))
      (pss_cons (ps_set (i := 5) nd rfl (Or.inl rfl) (pe_callD g__law_other_text (hr.mono (by decide)) rfl (pa_cons (pv 3) (pa_cons (pv 2) (pa_cons (pv 1) pa_nil)))))
      (pss_cons (ps_set (i := 6) nd rfl (Or.inl rfl) (pe_tup (pa_cons (pe_callTy call_tuple_of (by rfl) B.tuple (by decide +kernel) (pa_cons (pv 3) pa_nil)) (pa_cons (pv 2) pa_nil))))
      (pss_cons (ps_if (PW.pt (pw_or (pt_cmpR (op_neD hr.units) (pe_callD g_read_order (hr.mono (by decide)) rfl (pa_cons (pv 4) pa_nil)) (pv 6) (nomark _)) (pw_or (pt_cmpR (op_neD hr.units) (pe_callD g_read_order (hr.mono (by decide)) rfl (pa_cons (pv 5) pa_nil)) (pv 6) (nomark _)) (pw_or1 (pt_cmpR op_ne (pe_callD g_shown_order (hr.mono (by decide)) rfl (pa_cons (pv 3) (pa_cons (pv 2) pa_nil))) (pv 4) (nomark _))))))
        (pss_one (ps_ret pe_bl))
        pss_nil)
      (pss_cons (ps_if (pt_cmpR (op_neD hr.units) (pe_lc (own := [("_law_row", 7)]) (g := gName 7) rfl nd (pi_tup (pe_callD g_signs_table (hr.mono (by decide)) rfl (pa_cons (pv 2) pa_nil))) (blkOk_by (own := [("_law_row", 7)]) (N := N_law) (sc := defScope s_law) (by decide +kernel)) (fun _ _ _ _ _ => pg_name (i := 7) nd rfl (Or.inl rfl)) (fun _ _ _ _ _ => pts_nil) (fun _ _ _ _ _ => (pe_callTy (r := rListK K) call_listK (by rfl) B.list (by decide +kernel) (pa_cons (pv 7) pa_nil)))) (pe_callD g__law_signs (hr.mono (by decide)) rfl (pa_cons (pv 2) pa_nil)) (nomark _))
        (pss_one (ps_ret pe_bl))
        pss_nil)
      (pss_cons (ps_set (i := 8) nd rfl (Or.inl rfl) (pe_makeD g_Desk (hr.mono (by decide)) rfl))
      (pss_cons (ps_set (i := 9) nd rfl (Or.inl rfl) (pe_callD g__law_order (hr.mono (by decide)) rfl (pa_cons (pe_slice sl_list (pv 0) (po_some pe_int) po_none) (pa_cons (pe_op op_add (pv 1) (pe_op op_pow pe_int pe_int)) (pa_cons pe_int pa_nil)))))
      (pss_cons (ps_expr (pe_methD g_take (hr.mono (by decide)) (pv 8) (pa_cons pe_str (pa_cons (pe_callD g__law_text (hr.mono (by decide)) rfl (pa_cons (pe_slice sl_list (pe_lst (pa_cons pe_str (pa_cons pe_str pa_nil))) po_none (po_some (pe_callB (r := rLenK K) call_lenK (by rfl) B.len PySem.boot_len (pa_cons (pv 9) pa_nil)))) (pa_cons (pv 9) pa_nil))) pa_nil))))
      (pss_cons (ps_expr (pe_methD g_take (hr.mono (by decide)) (pv 8) (pa_cons pe_str (pa_cons (pv 5) pa_nil))))
      (pss_cons (ps_if (pt_not (pt_val (pe_callD g__law_all_asked (hr.mono (by decide)) rfl (pa_cons (pv 8) (pa_cons (pv 3) (pa_cons (pv 2) (pa_cons (pv 9) pa_nil)))))))
        (pss_one (ps_ret pe_bl))
        pss_nil)
      (pss_cons (ps_set (i := 10) nd rfl (Or.inl rfl) (pe_callD g__law_order (hr.mono (by decide)) rfl (pa_cons (pe_lst pa_nil) (pa_cons (pe_op op_add (pv 1) (pe_op op_pow pe_int pe_int)) (pa_cons pe_int pa_nil)))))
      (pss_cons (ps_set (i := 3) nd rfl (Or.inl rfl) (pe_callD g__law_names (hr.mono (by decide)) rfl (pa_cons (pe_op op_add (pv 1) (pe_op op_pow pe_int pe_int)) (pa_cons (pe_callB (r := rLenK K) call_lenK (by rfl) B.len PySem.boot_len (pa_cons (pv 10) pa_nil)) pa_nil))))
      (pss_cons (ps_expr (pe_methD g_take (hr.mono (by decide)) (pv 8) (pa_cons pe_str (pa_cons (pe_callD g__law_text (hr.mono (by decide)) rfl (pa_cons (pv 3) (pa_cons (pv 10) pa_nil))) pa_nil))))
      (pss_cons (ps_if (pt_not (pt_val (pe_callD g__law_all_asked (hr.mono (by decide)) rfl (pa_cons (pv 8) (pa_cons (pv 3) (pa_cons (pv 10) (pa_cons (pv 9) pa_nil)))))))
        (pss_one (ps_ret pe_bl))
        pss_nil)
      (pss_cons (ps_expr (pe_methD g_take (hr.mono (by decide)) (pv 8) (pa_cons pe_str (pa_cons (pv 5) pa_nil))))
      (pss_one (ps_ret (pe_cmpR op_eq (pe_methD g_asked (hr.mono (by decide)) (pv 8) (pa_cons pe_str pa_nil)) (pe_ix (r := rIxL K) ix_list (pe_lst (pa_cons pe_str (pa_cons pe_str pa_nil))) (pe_callTy call_int1 (by rfl) B.int (by decide +kernel) (pa_cons (pe_callD g__law_ranked (hr.mono (by decide)) rfl (pa_cons (pv 2) pa_nil)) pa_nil)) (fun _ _ => rfl)) (nomark _)))))))))))))))))))))), ?_⟩
  refine e_seq (e_set (e_call ⟨_, rfl, p, cs, rfl, hp, fun s => ?_⟩))
  try dsimp only
  refine e_seq (e_set (e_call ⟨_, rfl, _, rfl, p, cs, s, 6, rfl, hp, by omega, by decide, fun po H1 O e1 hpo hPo hI hl6 => ?_⟩))
  have h16 : O.length ≤ 16 := by omega
  have hO1 : OrdAt K H1 po O := ⟨SqT.of hPo, h16, hI.bd⟩
  try dsimp only
  refine e_seq (e_set (e_call (e_cons (e_var rfl (e_cons (vv_lenO rfl hO1 _ (e_nil ⟨s, O.length, rfl, h16, fun nm H2 ns e2 hnm hNm hns => ?_⟩)))))))
  have e12 := e1.trans e2
  have hO2 := hO1.ext e2
  try dsimp only
  refine e_seq (e_set (e_call ⟨_, rfl, _, rfl, nm, ns, po, O, rfl, hNm, hO2, hns.toOk, fun H3 e3 => ?_⟩))
  try dsimp only
  refine e_seq (e_set (e_call ⟨_, rfl, _, rfl, _, rfl, nm, ns, po, O, s, rfl, e3.lst hNm, hO2.ext e3, hI, hl6, hns, fun H4 ot e4 hWo => ?_⟩))
  have hWt := text_writes hI h16 hns
  have e34 := e3.trans e4
  have hNm4 := e34.lst hNm
  have hO4 := hO2.ext e34
  try dsimp only
  -- what is due
  refine e_seq (e_set (e_tup (e_cons (e_cb (e_cons (e_var rfl (e_nil ⟨nm, txts ns, rfl, .inl ⟨SqL.of hNm4, fun tn htn => e_cons (e_var rfl (e_nil ⟨(by show 2 ≤ sizeLine; decide), fun du hdu => ?_⟩))⟩⟩)))))))
  have e5a : Ext T H4 (upd H4 tn (.tup (txts ns))) := .new htn
  have e5 := e5a.newer (o := .tup [.ref tn, .ref po]) hdu
  have hDu : upd (upd H4 tn (.tup (txts ns))) du (.tup [.ref tn, .ref po]) du = some (.tup [.ref tn, .ref po]) := upd_same
  have hTn : upd (upd H4 tn (.tup (txts ns))) du (.tup [.ref tn, .ref po]) tn = some (.tup (txts ns)) := (Ext.new (T := T) hdu).tup upd_same
  generalize upd (upd H4 tn (.tup (txts ns))) du (.tup [.ref tn, .ref po]) = H5 at e5 hDu hTn ⊢
  have hO5 := hO4.ext e5
  have hstr : ∀ s ∈ ns, PyData.strOk s = true := fun s hs => name_strOk (hns.ok s hs)
  have dpDue : ∀ {H' : Hp}, Ext T H5 H' → Dp K H' (.ref du) (.tuple [.tuple (dS ns), .tuple (dI (natsI O))]) := fun e => .tup (SqT.of (e.tup hDu)) (.cons (.tup (SqT.of (e.tup hTn)) (dpAll_strs ns)) (.cons (.tup (hO5.ext e).tup (dpAll_nats O)) .nil))
  have e15 := ((e12.trans e34).trans e5)
  try dsimp only
  refine e_seq (e_if (e_or (e_test (e_op (e_call ⟨_, rfl, _, ns, O, rfl, hWt, hns, hI, h16, fun r6 H6 a6 b6 e6 _ hr6 ha6 hb6 => ⟨_, rfl, _, _, .tup (SqT.of hr6) (.cons (.tup ha6.st (dpAll_strs ns)) (.cons (.tup (SqT.of hb6) (dpAll_nats O)) .nil)), dpDue e6, shaped_due hstr, shaped_due hstr, _, rfl, ?_⟩⟩)))))
  rw [eqv_due]
  refine iteF (e_or (e_test (e_op (e_call ⟨_, rfl, _, ns, O, rfl, hWo, hns, hI, h16, fun r7 H7 a7 b7 e7 _ hr7 ha7 hb7 => ⟨_, rfl, _, _, .tup (SqT.of hr7) (.cons (.tup ha7.st (dpAll_strs ns)) (.cons (.tup (SqT.of hb7) (dpAll_nats O)) .nil)), dpDue (e6.trans e7), shaped_due hstr, shaped_due hstr, _, rfl, ?_⟩⟩))))
  rw [eqv_due]
  have e57 := e6.trans e7
  refine iteF (e_test (e_op (e_call ⟨_, rfl, _, rfl, nm, ns, po, O, rfl, e57.lst (e5.lst hNm4), hO5.ext e57, hI.rf, hns.toOk, fun H8 e8 => ⟨_, rfl, rfl, _, rfl, ?_⟩⟩)))
  rw [decide_eq_true rfl]
  refine iteF ?_
  try unfold tNext
  try dsimp only
  have e58 := e57.trans e8
  have hO8 := hO5.ext e58
  have e18 := e15.trans e58
  -- the table of signs
  refine e_seq (e_if (e_test (e_op ⟨_, rfl, po, O, rfl, hO8, hI, e18.tb hT, fun tt H9 ts e9 _ hTab => ⟨tt, rfl, ⟨_, SqT.of hTab.at_⟩, fun Dl hDl => lc_tup (xs := refs ts) (fun i H' => Ext T H9 H' ∧ ∃ ls : Rw, ls.map (·.2) = (table O).take i ∧ Rws H9 H' Dl ls)
    ⟨.new hDl, [], rfl, .nil hDl upd_same⟩ (fun i H' _ ⟨e, _⟩ => (SqT.of (e.tup hTab.at_))) (fun i x H' hi ⟨e, ls, hls, R⟩ => ⟨rfl, ?_⟩) fun H' ⟨e, ls, hls, R⟩ => ?_⟩⟩)))
  · rw [List.getElem?_map] at hi
    cases hx : ts[i]? with
    | none => rw [hx] at hi; cases hi
    | some y =>
    rw [hx] at hi
    have hv : V.ref y.1 = x := Option.some.inj hi
    subst hv
    have hrow : (table O)[i]? = some y.2 := by rw [← hTab.rows, List.getElem?_map, hx]; rfl
    have hil := (List.getElem?_eq_some_iff.mp hrow).1
    have hll : ls.length = i := by
      have := congrArg List.length hls
      rw [List.length_map, List.length_take] at this
      omega
    have htl : (table O).length = O.length := by unfold table; rw [List.length_map, List.length_range]
    refine tl_yes (T := T) _ fun H2' e2' => iteT ⟨_, rfl, y.1, _, rfl, .inr (SqT.of ((e.trans e2').tup (hTab.its y (List.mem_of_getElem? hx)))), fun l hl => ?_⟩
    have R2 := R.ext (e2'.newer (o := .lst (intsV y.2)) hl)
    have hlf := (R.ext e2').fresh hl
    refine ⟨refs ls, R2.at_, by rw [refs_len, hll]; exact smallt (by omega), (e.trans (e2'.newer hl)).mutL hDl R2.at_, ls ++ [(l, y.2)], ?_, R2.snoc ((e.trans e2').back hl) hlf upd_same⟩
    rw [List.map_append, hls, take_snoc hrow]
    rfl
  have htsl : (refs ts).length = (table O).length := by rw [refs_len, ← hTab.rows, List.length_map]
  rw [htsl, List.take_length] at hls
  have e9' := e9.trans e
  have hO10 := hO8.ext e9'
  refine e_call ⟨_, rfl, po, O, rfl, hO10, hI, fun t2 H10 ls2 e10 R2 hls2 => ⟨.list (dT (table O)), .list (dT (table O)), ?_, ?_, shaped_dT _, shaped_dT _, _, rfl, ?_⟩⟩
  · rw [← hls]
    exact .lst (SqL.of (R.ext e10).at_) (dp_rows (R.ext e10).its)
  · rw [← hls2]
    exact .lst (SqL.of R2.at_) (dp_rows R2.its)
  rw [eqv_dT]
  refine iteF ?_
  try unfold tNext
  try dsimp only
  have e8_10 := e9'.trans e10
  have e1_10 := e18.trans e8_10
  have k10 : Kp T H1 H10 := Kp.ofE ((((e2.trans e34).trans e5).trans e58).trans e8_10)
  have hO11 := hO8.ext e8_10
  have hNm10 : H10 nm = some (.lst (txts ns)) := e8_10.lst (e58.lst (e5.lst hNm4))
  -- the desk
  refine e_seq (e_set (fun a dx ha hdx hne => ⟨a, dx, rfl, upd_same, fun d hd => ⟨rfl, ?_⟩⟩))
  have f1 : Ext T H10 (upd H10 dx (.own a)) := .new hdx
  have ha1 : upd H10 dx (.own a) a = none := by rw [upd_ne (fun z => hne z.symm)]; exact ha
  have f2 := f1.newer (o := .ins C dx []) ha1
  have f3 := f2.newer (o := .dK []) hd
  have had : a ≠ d := fun z => by rw [← z, upd_same] at hd; cases hd
  have f4 := f3.mut (u := .ins C dx []) (o := .ins C dx [("orders", .ref d)]) (p := a) ha (by rw [upd_ne had]; exact upd_same) trivial
  have hD0 : DeskAt (upd (upd (upd (upd H10 dx (.own a)) a (.ins C dx [])) d (.dK [])) a (.ins C dx [("orders", .ref d)])) C a d [] := ⟨⟨dx, upd_same⟩, by rw [upd_ne (fun z => had z.symm)]; exact upd_same⟩
  generalize upd (upd (upd (upd H10 dx (.own a)) a (.ins C dx [])) d (.dK [])) a (.ins C dx [("orders", .ref d)]) = H11 at f4 hD0 ⊢
  have e1_11 := e1_10.trans f4
  have hO12 := hO11.ext f4
  have hNm11 := f4.lst hNm10
  have pw9 : (10 : Int) ^ (9 : Int).toNat = ((10 ^ 9 : Nat) : Int) := by decide
  have pw12 : (10 : Int) ^ (12 : Int).toNat = ((10 ^ 12 : Nat) : Int) := by decide
  have v9 : ∀ {σ : L2.St} {H : Hp}, σ[1]? = some (some (iv s)) → Vv (tOp (rI0 fun i j => V.int (i + j)) (tVar 1) (tOp (rI CPow fun i j => V.int (i ^ j.toNat)) (tC (.int 10)) (tC (.int 9)))) σ H (iv (s + 10 ^ 9)) := fun h => vv_addN (vv_var h) (vv_is (vv_I ⟨by decide, by decide, by decide⟩ vv_c vv_c) (congrArg V.int pw9))
  have v12 : ∀ {σ : L2.St} {H : Hp}, σ[1]? = some (some (iv s)) → Vv (tOp (rI0 fun i j => V.int (i + j)) (tVar 1) (tOp (rI CPow fun i j => V.int (i ^ j.toNat)) (tC (.int 10)) (tC (.int 12)))) σ H (iv (s + 10 ^ 12)) := fun h => vv_addN (vv_var h) (vv_is (vv_I ⟨by decide, by decide, by decide⟩ vv_c vv_c) (congrArg V.int pw12))
  try dsimp only
  -- the small order
  refine e_seq (e_set (e_call (e_cons ⟨_, rfl, 1, rfl, p, _, rfl, e1_11.sl hp, fun c hc => e_cons (v9 rfl _ (e_cons (vv_c _ (e_nil ⟨c, cs.drop 1, s + 10 ^ 9, 2, rfl, ?_, by rw [List.length_drop]; omega, by decide, fun so H12 R g1 hso hSo hIR hl2 => ?_⟩))))⟩)))
  · rw [show intsV (cs.drop 1) = (intsV cs).drop 1 from (List.map_drop ..), ← cut_all]
    exact SqL.of upd_same
  have g0 : Ext T H11 H12 := Ext.trans (.new hc) g1
  have hR16 : R.length ≤ 16 := by omega
  have hS12 : OrdAt K H12 so R := ⟨SqT.of hSo, hR16, hIR.bd⟩
  have hxy := xy_nms hl2
  have hWs := text_writes hIR hR16 hxy
  try dsimp only
  refine e_seq (e_drop (e_take (T := T) (x := "small") (ns := ([("x" : Str), "y"] : List Str).take R.length) rfl (fun Q' q' => ?_) (hD0.ext g0) (by decide) hWs hxy hIR hR16 fun H13 v1 k1 hD1 hH1 => ?_))
  · refine e_call (e_cons (e_lst (e_cons (vv_c _ (e_cons (vv_c _ (e_nil ⟨(by show 2 ≤ sizeLine; decide), fun l2 hl2' => ?_⟩)))))))
    have g2 : Ext T H12 (upd H12 l2 (.lst [V.str "x", V.str "y"])) := .new hl2'
    refine vv_lenO (K := K) rfl (hS12.ext g2) _ ⟨_, rfl, l2, _, rfl, SqL.of upd_same, fun c2 hc2 => ?_⟩
    have g3 := g2.newer (o := .lst (cutV [V.str "x", V.str "y"] none (some ((R.length : Nat) : Int)))) hc2
    refine e_cons (e_var rfl (e_nil ⟨c2, ([("x" : Str), "y"] : List Str).take R.length, so, R, rfl, ?_, hS12.ext g3, hxy.toOk, fun H' g4 => q' H' (g3.trans g4)⟩))
    rw [upd_same, cut_pre]
    unfold txts
    rw [List.map_take]
    rfl
  have kA : Kp T H11 H13 := (Kp.ofE g0).trans k1
  try dsimp only
  -- hall: the other text
  refine e_seq (e_drop (e_take (T := T) (x := "hall") (ns := ns) (O := O) rfl ((vv_var rfl).l) hD1 (Nat.le_trans (length_putK _ _ _) (by decide)) hWo hns hI h16 fun H14 v2 k2 hD2 hH2 => ?_))
  have hHs2 := hH1.put (v := v2) (x := "hall") k2 (by decide +kernel)
  have kB := kA.trans k2
  have hO14 := hO12.kp kB
  have hS14 := hS12.kp (k1.trans k2)
  have hNm14 := kB.lst _ _ hNm11
  have hT14 := kB.tb (e1_11.tb hT)
  try dsimp only
  refine e_seq (e_if (e_not (e_tb (e_call (e_cons (e_var rfl (e_cons (e_var rfl (e_cons (e_var rfl (e_cons (e_var rfl (e_nil ⟨a, d, _, nm, ns, po, O, so, _, R, rfl, hD2, hH2, hHs2, hNm14, hO14, hS14, hI, hIR, hns, hl6, hl2, hT14, fun H15 g5 => ⟨true, rfl, ?_⟩⟩)))))))))))))
  refine iteF ?_
  try unfold tNext
  try dsimp only
  have hD2' := hD2.ext g5
  have hH2' := hH2.ext g5
  have hHs2' := hHs2.ext g5
  have hS15 := hS14.ext g5
  have hO15 := hO14.ext g5
  have hT15 := g5.tb hT14
  -- the later order
  refine e_seq (e_set (e_call (e_cons (e_lst (e_nil ⟨Nat.zero_le _, fun c3 hc3 => e_cons (v12 rfl _ (e_cons (vv_c _ (e_nil ⟨c3, [], s + 10 ^ 12, 5, rfl, SqL.of upd_same, by decide, by decide, fun lo H16 L g6 hlo hLo hIL hl5 => ?_⟩))))⟩)))))
  have g6' : Ext T H15 H16 := Ext.trans (.new hc3) g6
  have hL16 : L.length ≤ 16 := by omega
  have hOL : OrdAt K H16 lo L := ⟨SqT.of hLo, hL16, hIL.bd⟩
  try dsimp only
  refine e_seq (e_set (e_call (e_cons (v12 rfl _ (e_cons (vv_lenO rfl hOL _ (e_nil ⟨s + 10 ^ 12, L.length, rfl, hL16, fun nm2 H17 ns2 g7 hnm2 hNm2 hns2 => ?_⟩)))))))
  have g67 := g6'.trans g7
  have hWl := text_writes hIL hL16 hns2
  have hOL17 := hOL.ext g7
  try dsimp only
  refine e_seq (e_drop (e_take (T := T) (x := "hall") (ns := ns2) (O := L) rfl (fun Q' q' => ?_) (hD2'.ext g67) (Nat.le_trans (length_putK _ _ _) (Nat.le_trans (Nat.succ_le_succ (length_putK _ _ _)) (by decide))) hWl hns2 hIL hL16 fun H18 v3 k3 hD3 hH3 => ?_))
  · exact e_call ⟨_, rfl, _, rfl, nm2, ns2, lo, L, rfl, hNm2, hOL17, hns2.toOk, fun H' g8 => q' H' g8⟩
  have hHs3 := (hHs2'.ext g67).put (v := v3) (x := "hall") k3 (by decide +kernel)
  have hS18 := (hS15.ext g67).kp k3
  have hO18 := (hO15.ext g67).kp k3
  have hOL18 := hOL17.kp k3
  have hNm18 := k3.lst _ _ hNm2
  have hT18 := k3.tb (g67.tb hT15)
  try dsimp only
  refine e_seq (e_if (e_not (e_tb (e_call (e_cons (e_var rfl (e_cons (e_var rfl (e_cons (e_var rfl (e_cons (e_var rfl (e_nil ⟨a, d, _, nm2, ns2, lo, L, so, _, R, rfl, hD3, hH3, hHs3, hNm18, hOL18, hS18, hIL, hIR, hns2, by omega, hl2, hT18, fun H19 g9 => ⟨true, rfl, ?_⟩⟩)))))))))))))
  refine iteF ?_
  try unfold tNext
  try dsimp only
  refine e_seq (e_drop (e_take (T := T) (x := "small") (ns := ns) (O := O) rfl ((vv_var rfl).l) (hD3.ext g9) (Nat.le_trans (length_putK _ _ _) (Nat.le_trans (Nat.succ_le_succ (length_putK _ _ _)) (Nat.le_trans (Nat.succ_le_succ (Nat.succ_le_succ (length_putK _ _ _))) (by decide)))) hWo hns hI h16 fun H20 v4 k4 hD4 hH4 => ?_))
  have hT20 := k4.tb (g9.tb hT18)
  have hO20 := (hO18.ext g9).kp k4
  try dsimp only
  refine e_ret (e_op (e_ask (T := T) rfl vv_c (by decide +kernel) split_ranked2 (by decide +kernel) hD4 hH4 hI hns h16 .ranked hT20 fun H21 g10 => ?_))
  refine e_yn (T := T) (K := K) (b := ranked O) (fun H22 R' g11 r' => e_call ⟨_, rfl, po, O, rfl, hO20.ext (g10.trans g11), hI, hl6, fun H23 g12 => r' H23 g12⟩) fun H22 g11 => ⟨rfl, ?_⟩
  show Q (V.bl (decide (V.str (yn (ranked O)) = V.str (yn (ranked O))))) H22
  rw [decide_eq_true rfl]
  exact q H22
end
end SW

/-! ## SwHd -/
set_option maxHeartbeats 0
/-! The head: what the top leaves, read by a Hook; the promises joined. -/
namespace SW
open PySem PySem.Spec PyProof.Rows L2 Bits TL
def mkD (x : Str) (st : Stmt) : He.DefD := ⟨(x, none), x, x, defArgs st, defBody st, defScope st, [], []⟩
def mkM (m q : Str) (st : Stmt) : He.DefD := ⟨("Desk", some m), m, q, defArgs st, defBody st, defScope st, [], []⟩
def fn0 : List He.DefD := [mkD "things_in" s_things_in, mkD "set_of" s_set_of, mkD "many_in" s_many_in, mkD "has_thing" s_has_thing, mkD "ask_thing" s_ask_thing, mkD "closed_under" s_closed_under, mkD "made_order" s_made_order, mkD "above" s_above, mkD "between" s_between, mkD "least_things" s_least_things, mkD "next_pairs" s_next_pairs, mkD "_law_nexts" s__law_nexts, mkD "shown_order" s_shown_order, mkD "_law_text" s__law_text, mkD "signs_from" s_signs_from, mkD "signs_table" s_signs_table, mkD "one_step_more" s_one_step_more, mkD "counts_from" s_counts_from, mkD "chains_by_steps" s_chains_by_steps, mkD "chain_many" s_chain_many, mkD "_law_chains" s__law_chains, mkD "_law_signs" s__law_signs, mkD "next_above" s_next_above, mkD "walked_down" s_walked_down, mkD "chosen" s_chosen, mkD "spans" s_spans, mkD "least_spanned" s_least_spanned, mkD "full_chain_least" s_full_chain_least, mkD "full_chain_most" s_full_chain_most, mkD "ranks_bar" s_ranks_bar]
def fn1 : List He.DefD := [mkD "_law_ranked" s__law_ranked, mkD "ask_many" s_ask_many, mkD "product" s_product, mkD "_law_product" s__law_product, mkD "is_name" s_is_name, mkD "words_in" s_words_in, mkD "names_in" s_names_in, mkD "pairs_in" s_pairs_in, mkD "read_order" s_read_order, mkD "shown_table" s_shown_table, mkD "_law_turn" s__law_turn, mkD "_law_stirred" s__law_stirred, mkD "_law_digit_order" s__law_digit_order, mkD "_law_order" s__law_order, mkD "_law_names" s__law_names, mkD "_law_other_text" s__law_other_text, mkD "thing_of" s_thing_of, mkD "yes_or_no" s_yes_or_no, mkD "told_of_two_things" s_told_of_two_things, mkD "told_of_one" s_told_of_one, mkD "told_of_two" s_told_of_two, mkD "_law_asked" s__law_asked, mkD "_law_all_asked" s__law_all_asked, mkD "law" s_law]
def fnM : List He.DefD := [mkM "held" (("Desk." : Str) ++ "held") s_held, mkM "take" (("Desk." : Str) ++ "take") s_take, mkM "asked" (("Desk." : Str) ++ "asked") s_asked, mkM "__init__" "Desk.__init__" s___init__]
def fn : List He.DefD := fnM ++ (fn0 ++ (fn1))
def fa0 : List He.Fa := [.glo "things_in", .glo "set_of", .glo "many_in", .glo "has_thing", .glo "ask_thing", .glo "closed_under", .glo "made_order", .glo "above", .glo "between", .glo "least_things", .glo "next_pairs", .glo "_law_nexts", .glo "shown_order", .glo "_law_text", .glo "signs_from", .glo "signs_table", .glo "one_step_more", .glo "counts_from", .glo "chains_by_steps", .glo "chain_many", .glo "_law_chains", .glo "_law_signs", .glo "next_above", .glo "walked_down", .glo "chosen", .glo "spans", .glo "least_spanned", .glo "full_chain_least", .glo "full_chain_most", .glo "ranks_bar"]
def fa1 : List He.Fa := [.glo "_law_ranked", .glo "ask_many", .glo "product", .glo "_law_product", .glo "is_name", .glo "words_in", .glo "names_in", .glo "pairs_in", .glo "read_order", .glo "shown_table", .glo "_law_turn", .glo "_law_stirred", .glo "_law_digit_order", .glo "_law_order", .glo "_law_names", .glo "_law_other_text", .glo "thing_of", .glo "yes_or_no", .glo "told_of_two_things", .glo "told_of_one", .glo "told_of_two", .glo "_law_asked", .glo "_law_all_asked", .glo "law"]
def faX : List He.Fa := [.free "len", .free "range", .free "list", .free "tuple", .free "sum", .free "max", .free "min", .free "sorted", .free "enumerate", .free "str", .free "int", .free "set", .int "MOST_THINGS" 16, .int "MOST" 16, .int "LONGEST" 8, .str "LETTERS" "abcdefghijklmnopqrstuvwxyz", .glo "FORMS", .glo "Desk", .cls "Desk", .noat "Desk" "orders", .meth "Desk" "held", .meth "Desk" "take", .meth "Desk" "asked", .mkr "Desk"]
def fa : List He.Fa := faX ++ (fa0 ++ (fa1))
def tsF : List He.Tab := [((fun K => He.ga K "FORMS"), ["signs", "shape", "downsets", "full", "ranked", "sign", "chains", "meet", "join", "keeping", "strict", "alike", "product"])]
def tfL : List He.Defn := [("signs_from", none), ("counts_from", none)]
/-- the values of the forms asked for, by key -/
def formB (K : PySem.W.Frag) (q : Str × List Str) : Bool := match PySem.W.nsIn K (He.ga K "FORMS") q.1 with
  | some (some (.ref t)) => (match K.lookup t with
    | some ⟨.type c, _, .seq its _, _⟩ => decide (c = "tuple") && (decide (its.size ≤ sizeLine) && He.relAll (txts q.2) its.toList)
    | _ => false)
  | _ => false
theorem formB_ok {K : PySem.W.Frag} {q : Str × List Str} (h : formB K q = true) : ∃ t, PySem.W.nsIn K (He.ga K "FORMS") q.1 = some (some (.ref t)) ∧ ∀ H, SqT K H t (txts q.2) := by
  unfold formB at h
  cases e : PySem.W.nsIn K (He.ga K "FORMS") q.1 with
  | none => rw [e] at h; cases h
  | some r =>
    rw [e] at h
    cases r with
    | none => cases h
    | some u =>
      cases u with
      | ref t =>
        refine ⟨t, rfl, fun H => ?_⟩
        have h : (match K.lookup t with
          | some ⟨.type c, _, .seq its _, _⟩ => decide (c = "tuple") && (decide (its.size ≤ sizeLine) && He.relAll (txts q.2) its.toList)
          | _ => false) = true := h
        cases z : K.lookup t with
        | none => rw [z] at h; cases h
        | some o =>
          obtain ⟨oc, od, dt, osl⟩ := o
          rw [z] at h
          cases oc with
          | type c =>
            cases dt with
            | seq its n =>
              obtain ⟨h1, h2⟩ := He.ba (show (decide (c = "tuple") && (decide (its.size ≤ sizeLine) && He.relAll (txts q.2) its.toList)) = true from h)
              obtain ⟨h3, h4⟩ := He.ba h2
              exact .inr ⟨_, its, n, z, congrArg Value.type (of_decide_eq_true h1), rfl, of_decide_eq_true h3, He.relAll_ok h4⟩
            | _ => cases h
          | _ => cases dt <;> cases h
      | _ => cases h
def exB (K : PySem.W.Frag) : Bool := (formsTab.all fun q => formB K q) && !(decide ((He.cT K ("signs_from", none)).2 = (He.cT K ("counts_from", none)).2))
theorem fact_of {w : World} {h : Heap} {K : PySem.W.Frag} (c : He.SaysX fa fn tsF tfL exB w h K) (i : Nat) {f : He.Fa} (e : fa[i]? = some f) : f.ok K = true := c.t.d.fact i e
section
variable {P : Program} {w : World} {K : PySem.W.Frag} {h base : Heap} {mg : Str → Option Value}
theorem defAt_of (c : He.SaysX fa fn tsF tfL exB w h K) (X : K.In h) (N : h.Ns mainGlobals mg) (i j : Nat) {x : Str} {st : Stmt} (h1 : fn[i]? = some (mkD x st)) (h2 : fa[j]? = some (.glo x)) : DefAt K mg x st := by
  obtain ⟨fd, F⟩ := c.t.d.def_ i h1
  exact ⟨He.ga K x, fd, He.glo_ok X N (fact_of c j h2), F⟩
theorem defAtC_of (c : He.SaysX fa fn tsF tfL exB w h K) (X : K.In h) (N : h.Ns mainGlobals mg) (i j : Nat) {x : Str} {st : Stmt} (h1 : fn[i]? = some (mkD x st)) (h2 : fa[j]? = some (.glo x)) : DefAtC K mg x st (He.codeOf K (x, none)) := by
  obtain ⟨fd, F⟩ := c.t.d.def_ i h1
  refine ⟨He.ga K x, fd, He.glo_ok X N (fact_of c j h2), F, ?_⟩
  obtain ⟨oc, od, dV, kV, doc, pm, an, cdv, ct, osl, e, lk, hcd, x1, x2⟩ := F.ex
  obtain ⟨c', e2⟩ := He.codeIn_ref hcd
  have lk' : K.lookup (He.fAd K (x, none)) = _ := lk
  have e3 : fd.code = .ref c' := by
    rw [e]
    exact e2
  rw [e3, He.codeOf_eq (p := (x, none)) lk' e3]
theorem defAtM_of (c : He.SaysX fa fn tsF tfL exB w h K) (i j : Nat) {m : Str} {st : Stmt} (h1 : fn[i]? = some (mkM m (("Desk." : Str) ++ m) st)) (h2 : fa[j]? = some (.meth "Desk" m)) : DefAtM K (He.ga K "Desk") m st := by
  obtain ⟨fd, F⟩ := c.t.d.def_ i h1
  exact ⟨He.ma K (He.ga K "Desk") m, fd, He.meth_ok (fact_of c j h2), F⟩
abbrev Tt2 (K : PySem.W.Frag) : Tbs := [((He.cT K ("signs_from", none)).2, lamQ "signs_from"), ((He.cT K ("counts_from", none)).2, lamQ "counts_from")]
theorem law_ok {f : Addr} {fd : FuncData} (DL : FunD K "law" "law" (defArgs s_law) (defBody s_law) (defScope s_law) [] [] f fd) (c : He.SaysX fa fn tsF tfL exB w h K) (X : K.In h) (N : h.Ns mainGlobals mg) (tb1 : LamX.TabB base mg (He.cT K ("signs_from", none)).1 (He.cT K ("signs_from", none)).2) (tb2 : LamX.TabB base mg (He.cT K ("counts_from", none)).1 (He.cT K ("counts_from", none)).2) :
    FnOk P w K mg base CX0 19 f fd ["_law_script"] (spLaw (Tt2 K) K) := by
  have B : Blt mg := ⟨He.free_ok X N (fact_of c 0 (f := .free "len") rfl), He.free_ok X N (fact_of c 1 (f := .free "range") rfl), He.free_ok X N (fact_of c 2 (f := .free "list") rfl), He.free_ok X N (fact_of c 3 (f := .free "tuple") rfl), He.free_ok X N (fact_of c 4 (f := .free "sum") rfl), He.free_ok X N (fact_of c 5 (f := .free "max") rfl), He.free_ok X N (fact_of c 6 (f := .free "min") rfl), He.free_ok X N (fact_of c 7 (f := .free "sorted") rfl), He.free_ok X N (fact_of c 8 (f := .free "enumerate") rfl), He.free_ok X N (fact_of c 9 (f := .free "str") rfl), He.free_ok X N (fact_of c 10 (f := .free "int") rfl), He.free_ok X N (fact_of c 11 (f := .free "set") rfl)⟩
  have G : Cst mg := by
    obtain ⟨t1, g1⟩ := He.int_ok X N (fact_of c 12 (f := .int "MOST_THINGS" 16) rfl)
    obtain ⟨t2, g2⟩ := He.int_ok X N (fact_of c 13 (f := .int "MOST" 16) rfl)
    obtain ⟨t3, g3⟩ := He.int_ok X N (fact_of c 14 (f := .int "LONGEST" 8) rfl)
    obtain ⟨t4, g4⟩ := He.str_ok X N (fact_of c 15 (f := .str "LETTERS" "abcdefghijklmnopqrstuvwxyz") rfl)
    exact ⟨⟨_, g1, ⟨t1, rfl⟩⟩, ⟨_, g2, ⟨t2, rfl⟩⟩, ⟨_, g4, ⟨t4, rfl⟩⟩, ⟨_, g3, ⟨t3, rfl⟩⟩⟩
  obtain ⟨m1, m2⟩ := He.ba c.more
  have hne : (He.cT K ("signs_from", none)).2 ≠ (He.cT K ("counts_from", none)).2 := fun e => by rw [decide_eq_true e] at m2; cases m2
  have GD : DeskG w K mg (He.ga K "FORMS") (He.ga K "Desk") := ⟨⟨_, He.glo_ok X N (fact_of c 16 (f := .glo "FORMS") rfl), rfl⟩, ⟨c.t.tab 0 (t := ((fun K => He.ga K "FORMS"), _)) rfl, fun q hq => formB_ok (List.all_eq_true.mp m1 q hq)⟩, He.cls_ok (fact_of c 18 (f := .cls "Desk") rfl), He.noat_ok (fact_of c 19 (f := .noat "Desk" "orders") rfl)⟩
  have L1 : LamTab base mg (Tt2 K) (He.codeOf K ("signs_from", none)) (He.cT K ("signs_from", none)).2 (lamQ "signs_from") := ⟨tb1, List.mem_cons_self, fun p hp e => by
    rcases List.mem_cons.mp hp with z | z
    · rw [z]
    · rw [List.mem_singleton.mp z] at e; exact absurd e.symm hne⟩
  have L2 : LamTab base mg (Tt2 K) (He.codeOf K ("counts_from", none)) (He.cT K ("counts_from", none)).2 (lamQ "counts_from") := ⟨tb2, List.mem_cons_of_mem _ List.mem_cons_self, fun p hp e => by
    rcases List.mem_cons.mp hp with z | z
    · rw [z] at e; exact absurd e hne
    · rw [List.mem_singleton.mp z]⟩
  have g_things_in := ok_things_in (P := P) (w := w) (base := base) (T := Tt2 K) (defAt_of c X N 4 24 rfl rfl)
  have g_set_of := ok_set_of (P := P) (w := w) (base := base) (defAt_of c X N 5 25 rfl rfl)
  have g_many_in := ok_many_in (P := P) (w := w) (base := base) (T := Tt2 K) B (defAt_of c X N 6 26 rfl rfl) g_things_in
  have g_has_thing := ok_has_thing (P := P) (w := w) (base := base) (defAt_of c X N 7 27 rfl rfl)
  have g_ask_thing := ok_ask_thing (P := P) (w := w) (base := base) (defAt_of c X N 8 28 rfl rfl)
  have g_closed_under := ok_closed_under (P := P) (w := w) (base := base) (T := Tt2 K) B (defAt_of c X N 9 29 rfl rfl) g_has_thing
  have g_made_order := ok_made_order (P := P) (w := w) (base := base) (T := Tt2 K) B G (defAt_of c X N 10 30 rfl rfl) g_has_thing g_ask_thing g_closed_under
  have g_above := ok_above (P := P) (w := w) (base := base) (T := Tt2 K) B (defAt_of c X N 11 31 rfl rfl) g_has_thing g_ask_thing g_set_of
  have g_between := ok_between (P := P) (w := w) (base := base) (T := Tt2 K) B (defAt_of c X N 12 32 rfl rfl) g_has_thing g_ask_thing g_set_of g_things_in
  have g_least_things := ok_least_things (P := P) (w := w) (base := base) (T := Tt2 K) B (defAt_of c X N 13 33 rfl rfl) g_set_of
  have g_next_pairs := ok_next_pairs (P := P) (w := w) (base := base) (T := Tt2 K) B (defAt_of c X N 14 34 rfl rfl) g_between g_set_of
  have g__law_nexts := ok__law_nexts (P := P) (w := w) (base := base) (T := Tt2 K) B (defAt_of c X N 15 35 rfl rfl)
  have g_shown_order := ok_shown_order (P := P) (w := w) (base := base) (T := Tt2 K) B (defAt_of c X N 16 36 rfl rfl) g_next_pairs
  have g__law_text := ok__law_text (P := P) (w := w) (base := base) (T := Tt2 K) B (defAt_of c X N 17 37 rfl rfl) g__law_nexts
  have g_signs_from := ok_signs_from (P := P) (w := w) (base := base) (T := Tt2 K) B (defAtC_of c X N 18 38 rfl rfl) L1 g_has_thing g_things_in g_many_in
  have g_signs_table := ok_signs_table (P := P) (w := w) (base := base) (T := Tt2 K) B (defAt_of c X N 19 39 rfl rfl) g_signs_from
  have g_one_step_more := ok_one_step_more (P := P) (w := w) (base := base) (T := Tt2 K) B (defAt_of c X N 20 40 rfl rfl)
  have g_counts_from := ok_counts_from (P := P) (w := w) (base := base) (T := Tt2 K) B (defAtC_of c X N 21 41 rfl rfl) L2 g_has_thing g_things_in g_many_in g_one_step_more
  have g_chains_by_steps := ok_chains_by_steps (P := P) (w := w) (base := base) (T := Tt2 K) B (defAt_of c X N 22 42 rfl rfl) g_ask_thing g_counts_from
  have g_chain_many := ok_chain_many (P := P) (w := w) (base := base) (T := Tt2 K) B (defAt_of c X N 23 43 rfl rfl) g_chains_by_steps
  have g__law_chains := ok__law_chains (P := P) (w := w) (base := base) (T := Tt2 K) B (defAt_of c X N 24 44 rfl rfl) 16
  have g__law_signs := ok__law_signs (P := P) (w := w) (base := base) (T := Tt2 K) B (defAt_of c X N 25 45 rfl rfl)
  have g_next_above := ok_next_above (P := P) (w := w) (base := base) (T := Tt2 K) B (defAt_of c X N 26 46 rfl rfl) g_next_pairs
  have g_walked_down := ok_walked_down (P := P) (w := w) (base := base) (T := Tt2 K) B (defAt_of c X N 27 47 rfl rfl) g_above g_many_in
  have g_chosen := ok_chosen (P := P) (w := w) (base := base) B (defAt_of c X N 28 48 rfl rfl)
  have g_spans := ok_spans (P := P) (w := w) (base := base) (T := Tt2 K) B (defAt_of c X N 29 49 rfl rfl) g_next_above g_walked_down g_chosen
  have g_least_spanned := ok_least_spanned (P := P) (w := w) (base := base) (T := Tt2 K) B (defAt_of c X N 30 50 rfl rfl) g_spans g_next_above g_things_in g_least_things g_chosen
  have g_full_chain_least := ok_full_chain_least (P := P) (w := w) (base := base) (T := Tt2 K) B (defAt_of c X N 31 51 rfl rfl) g_least_spanned
  have g_full_chain_most := ok_full_chain_most (P := P) (w := w) (base := base) (T := Tt2 K) B (defAt_of c X N 32 52 rfl rfl) g_least_spanned
  have g_ranks_bar := ok_ranks_bar (P := P) (w := w) (base := base) (T := Tt2 K) B (defAt_of c X N 33 53 rfl rfl) g_full_chain_least g_full_chain_most
  have g__law_ranked := ok__law_ranked (P := P) (w := w) (base := base) (T := Tt2 K) B (defAt_of c X N 34 54 rfl rfl) g__law_nexts
  have g_ask_many := ok_ask_many (P := P) (w := w) (base := base) G (defAt_of c X N 35 55 rfl rfl)
  have g_product := ok_product (P := P) (w := w) (base := base) (T := Tt2 K) B (defAt_of c X N 36 56 rfl rfl) g_ask_many g_things_in
  have g__law_product := ok__law_product (P := P) (w := w) (base := base) (T := Tt2 K) B (defAt_of c X N 37 57 rfl rfl)
  have g_is_name := ok_is_name (P := P) (w := w) (base := base) B G (defAt_of c X N 38 58 rfl rfl)
  have g_words_in := ok_words_in (P := P) (w := w) (base := base) (T := Tt2 K) (defAt_of c X N 39 59 rfl rfl)
  have g_names_in := ok_names_in (P := P) (w := w) (base := base) (T := Tt2 K) B (defAt_of c X N 40 60 rfl rfl) g_is_name
  have g_pairs_in := ok_pairs_in (P := P) (w := w) (base := base) (T := Tt2 K) B (defAt_of c X N 41 61 rfl rfl)
  have g_read_order := ok_read_order (P := P) (w := w) (base := base) (T := Tt2 K) B G (defAt_of c X N 42 62 rfl rfl) g_words_in g_names_in g_pairs_in g_made_order
  have g_shown_table := ok_shown_table (P := P) (w := w) (base := base) (T := Tt2 K) B (defAt_of c X N 43 63 rfl rfl)
  have g__law_turn := ok__law_turn (P := P) (w := w) (base := base) (defAt_of c X N 44 64 rfl rfl)
  have g__law_stirred := ok__law_stirred (P := P) (w := w) (base := base) (defAt_of c X N 45 65 rfl rfl)
  have g__law_digit_order := ok__law_digit_order (P := P) (w := w) (base := base) (T := Tt2 K) B (defAt_of c X N 46 66 rfl rfl)
  have g__law_order := ok__law_order (P := P) (w := w) (base := base) (T := Tt2 K) B (defAt_of c X N 47 67 rfl rfl) g__law_turn g__law_digit_order
  have g__law_names := ok__law_names (P := P) (w := w) (base := base) (T := Tt2 K) B (defAt_of c X N 48 68 rfl rfl) g__law_turn
  have g__law_other_text := ok__law_other_text (P := P) (w := w) (base := base) (T := Tt2 K) B (defAt_of c X N 49 69 rfl rfl) g__law_turn g__law_nexts
  have g_thing_of := ok_thing_of (P := P) (w := w) (base := base) B (defAt_of c X N 50 70 rfl rfl)
  have g_yes_or_no := ok_yes_or_no (P := P) (w := w) (base := base) (defAt_of c X N 51 71 rfl rfl)
  have g_told_of_two_things := ok_told_of_two_things (P := P) (w := w) (base := base) (T := Tt2 K) B (defAt_of c X N 52 72 rfl rfl) g_signs_table g_chain_many
  have g_told_of_one := ok_told_of_one (P := P) (w := w) (base := base) (T := Tt2 K) B (defAt_of c X N 53 73 rfl rfl) g_shown_table g_signs_table g_yes_or_no g_ranks_bar
  have g_told_of_two := ok_told_of_two (P := P) (w := w) (base := base) (T := Tt2 K) B G (defAt_of c X N 54 74 rfl rfl) g_product g_shown_order
  have g_held := ok_held (P := P) (w := w) (base := base) GD (defAtM_of c 0 20 rfl rfl)
  have g_take := ok_take (P := P) (w := w) (base := base) (T := Tt2 K) GD (defAtM_of c 1 21 rfl rfl) g_read_order
  have g_asked := ok_asked (P := P) (w := w) (base := base) (T := Tt2 K) B GD (defAtM_of c 2 22 rfl rfl) g_held g_thing_of g_told_of_two g_told_of_two_things g_told_of_one
  have g__law_asked := ok__law_asked (P := P) (w := w) (base := base) (T := Tt2 K) B (defAt_of c X N 55 75 rfl rfl) g__law_signs g_asked g__law_chains
  have g__law_all_asked := ok__law_all_asked (P := P) (w := w) (base := base) (T := Tt2 K) B (defAt_of c X N 56 76 rfl rfl) g__law_product g_asked g__law_text g__law_ranked g__law_asked
  have g_Desk : MkG P w K mg base 1 "Desk" (He.ga K "Desk") (spInit (He.ga K "Desk")) := by
    obtain ⟨fd, F⟩ := c.t.d.def_ 3 (d := mkM "__init__" "Desk.__init__" s___init__) rfl
    exact ⟨_, fd, He.glo_ok X N (fact_of c 17 (f := .glo "Desk") rfl), He.mkr_ok (fact_of c 23 (f := .mkr "Desk") rfl), FunD.bindsN F (fun _ _ _ _ _ _ us hl => match us, hl with | [_], _ => rfl), ok___init__ GD F⟩
  exact ok_law (P := P) (w := w) (base := base) (T := Tt2 K) B DL g__law_stirred g__law_order g__law_names g__law_text g__law_other_text g_read_order g_shown_order g_signs_table g__law_signs g_Desk g_take g_asked g__law_all_asked g__law_ranked
theorem law_fn (c : He.SaysX fa fn tsF tfL exB w h K) (X : K.In h) (N : h.Ns mainGlobals mg) : ∃ fd : FuncData, mg "law" = some (.ref (He.ga K "law")) ∧ FunD K "law" "law" (defArgs s_law) (defBody s_law) (defScope s_law) [] [] (He.ga K "law") fd := by
  obtain ⟨fd, F⟩ := c.t.d.def_ 57 (d := mkD "law" s_law) rfl
  exact ⟨fd, He.glo_ok X N (fact_of c 77 (f := .glo "law") rfl), F⟩
end
/-! ### the part of the heap that the facts are read from -/
def refsAt (g : Addr → Option Obj) (l : List Addr) : List Addr := l.flatMap fun a => match g a with
  | some o => He.refsO o
  | none => []
def nsAt (g : Addr → Option Obj) (c : Addr) : List Addr := match g c with
  | some ⟨_, _, .cls cd, _⟩ => [cd.ns]
  | _ => []
def need0 : List Str := ["things_in", "set_of", "many_in", "has_thing", "ask_thing", "closed_under", "made_order", "above", "between", "least_things", "next_pairs", "_law_nexts", "shown_order", "_law_text", "signs_from", "signs_table", "one_step_more", "counts_from", "chains_by_steps", "chain_many", "_law_chains", "_law_signs", "next_above", "walked_down", "chosen", "spans", "least_spanned", "full_chain_least", "full_chain_most", "ranks_bar"]
def need1 : List Str := ["_law_ranked", "ask_many", "product", "_law_product", "is_name", "words_in", "names_in", "pairs_in", "read_order", "shown_table", "_law_turn", "_law_stirred", "_law_digit_order", "_law_order", "_law_names", "_law_other_text", "thing_of", "yes_or_no", "told_of_two_things", "told_of_one", "told_of_two", "_law_asked", "_law_all_asked", "law", "FORMS", "Desk"]
def needN : List Str := need0 ++ (need1)
def part1 (g : Addr → Option Obj) : List Addr := needN.map (He.ga (He.frG g [mainGlobals]))
def part3 (g : Addr → Option Obj) : List Addr := refsAt g (nsAt g (He.ga (He.frG g [mainGlobals]) "Desk"))
def asY (g : Addr → Option Obj) : List Addr := mainGlobals :: (part1 g ++ (refsAt g (part1 g) ++ (part3 g ++ refsAt g (part3 g))))
def obsY (g : Addr → Option Obj) : He.AlX := (He.obsT fa fn tsF (He.frT g (asY g)), exB (He.frT g (asY g)) && He.tabsB g tfL (He.frT g (asY g)))
theorem saysY_of {w : World} {h : Heap} (e : obsY h.get? = He.valX fn tsF w) : He.SaysX fa fn tsF tfL exB w h (He.frT h.get? (asY h.get?)) := by
  have e1 : He.obsT fa fn tsF (He.frT h.get? (asY h.get?)) = He.valT fn tsF w := congrArg Prod.fst e
  have e2 : (exB (He.frT h.get? (asY h.get?)) && He.tabsB h.get? tfL (He.frT h.get? (asY h.get?))) = true := congrArg Prod.snd e
  obtain ⟨h1, h2⟩ := He.ba e2
  have key : ∀ p ∈ tfL, PySem.W.codeHdIn (He.frT h.get? (asY h.get?)) (He.cT (He.frT h.get? (asY h.get?)) p).1 (He.cT (He.frT h.get? (asY h.get?)) p).2 = true ∧ ∃ o, h.get? (He.cT (He.frT h.get? (asY h.get?)) p).2 = some o ∧ He.emptyTab o = true := fun p hp => by
    obtain ⟨h3, h4⟩ := He.ba (List.all_eq_true.mp h2 p hp)
    refine ⟨h3, ?_⟩
    generalize h.get? (He.cT (He.frT h.get? (asY h.get?)) p).2 = r at h4
    cases r with
    | none => cases h4
    | some o => exact ⟨o, rfl, h4⟩
  refine ⟨e1, h1, fun p hp => (key p hp).1, fun p hp => ?_, fun p hp => ?_⟩
  · obtain ⟨_, o, q, z⟩ := key p hp
    exact He.frT_none q z
  · obtain ⟨_, o, q, z⟩ := key p hp
    rw [q, He.emptyTab_eq z]
/-! ### the run of the top -/
abbrev RR : PySem.W.OpenRow := PySem.W.OpenLaw.row PySem.Challenge.rw_sumsway_k96_whole_from_text_to_signs
def hk : PySem.W.Hook where
  α := He.AlX
  obs := fun s => obsY s.heap.get?
  val := fun w => He.valX fn tsF w
  says := fun w h => ∃ K : PySem.W.Frag, K.In h ∧ He.SaysX fa fn tsF tfL exB w h K
  of := fun _ _ e => ⟨_, He.frT_in, saysY_of e⟩
  keeps := fun _ _ _ ⟨K, hK, c⟩ k => ⟨K, PySem.W.Frag.In.keeps hK k, ⟨c.t, c.more, c.hd, c.out, fun p hp => k _ _ (c.empty p hp)⟩⟩
def ob (s : PySem.W.SharedT) : He.AlX := obsY (HandSHeadRun.getT s)
theorem ob_eq (s : PySem.W.SharedT) : ob s = hk.obs s.abs := by
  show obsY (HandSHeadRun.getT s) = obsY s.abs.heap.get?
  rw [show HandSHeadRun.getT s = s.abs.heap.get? from funext (HandSHeadRun.getT_eq s)]
def loose0 : List Str := ["SumError", "NoOrder", "NoThing", "TooMany", "NoMeet", "NoJoin", "NoLattice", "NoText", "NoName", "Ring", "things_in", "set_of", "many_in", "MOST_THINGS", "has_thing", "ask_thing", "closed_under", "ring_from", "made_order", "above", "between", "next_pairs", "least_things", "upside_down", "counts_from", "one_step_more", "chains_by_steps", "chain_many", "MOST_DOWNSETS", "count_within"]
def loose1 : List Str := ["downset_many", "all_downsets", "downsets", "next_things", "ways_on", "full_many", "MOST", "ask_many", "product", "longer_by", "own_numbers", "over", "polynomial_at", "keeping_many", "strict_many", "meet_or_none", "meet", "join", "lattice_bar", "is_lattice", "meet_rows", "join_rows", "spread_bar", "is_spread", "signs_from", "signs_table", "next_above", "walked_down", "chosen", "spans"]
def loose2 : List Str := ["least_spanned", "full_chain_least", "full_chain_most", "ranks_bar", "classes_told", "classes_of", "stands_alike", "row_behind", "shape_row", "same_shape", "LETTERS", "LONGEST", "is_name", "shown_order", "words_in", "names_in", "pairs_in", "read_order", "shown_table", "FIGURES", "MOST_ROWS", "FORMS", "number_of", "thing_of", "yes_or_no", "shape_word", "met_or_none", "told_of_two_things", "told_of_one", "told_of_rows"]
def loose3 : List Str := ["told_of_two", "Desk", "_law_stirred", "_law_turn", "_law_digit_order", "_law_order", "_law_names", "_law_nexts", "_law_text", "_law_other_text", "_law_signs", "_law_chains", "_law_product", "_law_ranked", "_law_asked", "_law_all_asked"]
def looseN : List Str := loose0 ++ (loose1 ++ (loose2 ++ (loose3)))
end SW

/-! ## SwRun -/
/-! The run of the top: a dict's display asks the world one thing; the run once for each answer. -/
namespace SW
open PySem PySem.Spec PyProof.Rows L2 Bits TL
theorem runF (w : World) : HandSHeadRun.RunEq RR (PySem.W.view RR.prog [122]) hk ob 20000 looseN (w.withFollow "special-get-raises" false) := by
  intro os
  kernel_rfl
theorem runT (w : World) : HandSHeadRun.RunEq RR (PySem.W.view RR.prog [122]) hk ob 20000 looseN (w.withFollow "special-get-raises" true) := by
  intro os
  kernel_rfl
theorem run (w : World) : HandSHeadRun.RunEq RR (PySem.W.view RR.prog [122]) hk ob 20000 looseN w :=
  PySem.W.byRow2 "special-get-raises" (P := fun w => HandSHeadRun.RunEq RR (PySem.W.view RR.prog [122]) hk ob 20000 looseN w) runF runT w
end SW

/-! ## SwEnd -/
/-! The end: the row holds. -/
namespace SW
open PySem PySem.Spec PyProof.Rows L2 Bits TL
theorem tabs_of {H : Hp} {K : PySem.W.Frag} (h : ∀ p ∈ [He.cT K ("signs_from", none), He.cT K ("counts_from", none)], H p.2 = some (.tbl #[])) : LamX.Tabs (Tt2 K) H := by
  have one : ∀ (a : Addr) (q : Str), H a = some (.tbl #[]) → LamX.TabS H a q := fun a q e => ⟨#[], e, by first | exact trivial | (intro _ hm; cases hm) | (unfold LamX.TriplesOk; exact trivial), fun pos cv hc => by cases hc⟩
  intro p hp
  rcases List.mem_cons.mp hp with e | e
  · rw [e]
    exact one _ _ (h _ List.mem_cons_self)
  · rw [List.mem_singleton.mp e]
    exact one _ _ (h _ (List.mem_cons_of_mem _ List.mem_cons_self))
theorem at_law (w : World) (mg : Str → Option Value) (fa' : Addr) (h : Heap) (Y : hk.says w h) (G : h.Ns mainGlobals mg) (hmg : mg ("law" : Str) = some (.ref fa')) :
    ∃ K : PySem.W.Frag, K.In h ∧ LamX.LawAtS PySem.Challenge.rw_sumsway_k96_whole_from_text_to_signs w K CX0 19 63 "_law_script" mg fa' h := by
  obtain ⟨K, KX, c⟩ := Y
  obtain ⟨fd, hg, F⟩ := law_fn c KX G
  have e := hmg.symm.trans hg
  cases e
  have hin : ∀ p ∈ [He.cT K ("signs_from", none), He.cT K ("counts_from", none)], ∃ d ∈ tfL, p = He.cT K d := fun p hp => by
    rcases List.mem_cons.mp hp with z | z
    · exact ⟨_, List.mem_cons_self, z⟩
    · exact ⟨_, List.mem_cons_of_mem _ List.mem_cons_self, List.mem_singleton.mp z⟩
  refine ⟨K, KX, fd, [He.cT K ("signs_from", none), He.cT K ("counts_from", none)], spLaw (Tt2 K) K, fun p hp => ?_, fun p hp => ?_, fun p hp => ?_, fun s u => ?_, fun H a ns hl _ hT hS => ?_, fun base _ _ tb => ?_⟩
  · obtain ⟨d, hd, rfl⟩ := hin p hp
    exact c.empty d hd
  · obtain ⟨d, hd, rfl⟩ := hin p hp
    exact c.out d hd
  · obtain ⟨d, hd, rfl⟩ := hin p hp
    exact PySem.W.codeHd_of_K KX (c.hd d hd)
  · have b := FunD.bindsA (ps := ["_law_script"]) F fun _ _ _ _ _ _ us hl => match us, hl with | [_], _ => rfl
    exact b s [u] rfl
  · exact ⟨a, ns, rfl, hS, hl, tabs_of hT, fun _ => rfl⟩
  · exact law_ok F c KX G (tb _ List.mem_cons_self) (tb _ (List.mem_cons_of_mem _ List.mem_cons_self))
end SW
open PySem PySem.W PySem.Calls PyProof.Rows
theorem PySem.Challenge.cw_sumsway_k96_whole_from_text_to_signs_holds : PySem.Challenge.rw_sumsway_k96_whole_from_text_to_signs.Holds := by
  w_on; o_law
  refine HandSHeadRun.head_any (r := SW.RR) (q := view SW.RR.prog [122]) (H := SW.hk) (ob := SW.ob) (M := 20000) (loose := SW.looseN) (d := HandSHeadRun.topDef SW.RR.prog 122) (kwd := []) SW.ob_eq
    (by kernel_rfl) (fun s => by kernel_rfl) SW.run (by kernel_rfl) (by kernel_rfl) (by kernel_rfl) (by rfl) (by first | assumption | decide +kernel) (by decide +kernel) ⟨rfl, rfl, rfl, rfl, rfl, by decide +kernel⟩ ?hw ?hc
  case hw => w_witness2
  case hc =>
    refine LamX.walk_ofTsE (l := PySem.Challenge.rw_sumsway_k96_whole_from_text_to_signs) (n := 63) (k := 19) (x := "_law_script") (CX := fun _ => L2.CX0) rfl (by decide) (by kernel_rfl) ⟨rfl, by decide, by decide⟩ ?F (fun _ _ _ _ _ z => z)
    intro w mg fa h Y G hmg0
    have hmg : mg ("law" : PySem.Str) = some (.ref fa) := by
      have e : (HandSHeadRun.topDef SW.RR.prog 122).name = ("law" : PySem.Str) := by kernel_rfl
      rw [← e]
      exact hmg0
    exact SW.at_law w mg fa h Y G hmg

