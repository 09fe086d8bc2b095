import PyProof.Rows.All
import Wide.All
import OpenK.AllK
import Wide.FinOn
import PySem.Challenge.RW_everyturn_k11_first_states
import HandS.ForMost
import HandS.IsInst
import HandS.More
import HandS.Exc
import HandS.WordsExc
import KE.KExcSuper
set_option Elab.async false
set_option linter.all false
set_option maxRecDepth 100000
set_option maxHeartbeats 4000000
/-! The text by places, heaps, the box of draws. -/
namespace Fst
open PySem PySem.Spec PyProof.Rows L2

/-! ### the text -/
def topS (i : Nat) : Stmt := PySem.Challenge.pw_everyturn_k11_first_states.main.body.getD i (.Pass ⟨0, 0, 0, 0⟩)
abbrev sExpr : Stmt := topS 3
abbrev sThing : Stmt := topS 4
abbrev sNames : Stmt := topS 9
abbrev sKind : Stmt := topS 10
abbrev sLock : Stmt := topS 11
abbrev sFirst : Stmt := topS 14
abbrev sCell : Stmt := topS 16
abbrev sDigits : Stmt := topS 17
abbrev sDraw : Stmt := topS 18
abbrev sSame : Stmt := topS 19
abbrev sTree : Stmt := topS 20
abbrev sName : Stmt := topS 21
abbrev sOfK : Stmt := topS 22
abbrev sShared : Stmt := topS 23
abbrev sIns : Stmt := topS 24
abbrev sThr : Stmt := topS 25
abbrev sProg : Stmt := topS 26
abbrev sLNames : Stmt := topS 28
abbrev sLFirst : Stmt := topS 31
abbrev sTreeOf : Stmt := topS 32
abbrev sLThing : Stmt := topS 34
abbrev sLaw : Stmt := topS 35

/-- the built-in names that stay what they are -/
structure Zt (mg : Str → Option Value) : Prop where
  z_len : mg "len" = none
  z_int : mg "int" = none
  z_tuple : mg "tuple" = none
  z_range : mg "range" = none
  z_str : mg "str" = none
  z_isinstance : mg "isinstance" = none
  z_list : mg "list" = none
  z_bool : mg "bool" = none
/-- a def that may be called by its name, with its promise -/
structure Ca (P : Program) (w : World) (K : PySem.W.Frag) (mg : Str → Option Value) (base : Heap) (CX : CXT) (k : Nat) (x : Str) (ps : List Str) (sp : Sp) (f : Addr) (fd : FuncData) : Prop where
  G : FnOk P w K mg base CX k f fd ps sp
  g : mg x = some (.ref f)
  kp : PySem.W.keepIn K (.ref f) = true
  b : Binds K fd ps []

/-! ### a statement, a word, the rest -/
def tMid (t u : TS) : TS := fun D σ H => ∃ Mid : L2.St → Hp → Prop, t { D with nx := Mid } σ H ∧ ∀ σ' H', Mid σ' H' → u D σ' H'
theorem pss_mid {X : Cx} {st : Stmt} {rest : List Stmt} {t u : TS} (h1 : PS X st t) (h2 : PSs X rest u) : PSs X (st :: rest) (tMid t u) := by
  refine ⟨fun pins s σ H D I h => ?_⟩
  obtain ⟨Mid, hm, hu⟩ := h
  refine wpAny_execs_cons (thn (h1.run pins s σ H { D with nx := Mid } I hm) fun f s1 q => ?_)
  cases f with
  | next =>
    obtain ⟨σ', H', I', q'⟩ := q
    exact h2.run pins s1 σ' H' D I' (hu σ' H' q')
  | ret v => exact q
  | brk => exact q
  | cont => exact q

/-! ### heaps -/
theorem same_upd {H : Hp} {p : Addr} {o : HO} (h : H p = none) : Same H (upd H p o) := fun b x e => by
  rw [upd_ne (ne_of_none e h)]
  exact e
/-- all that was tracked is as it was, the box at b apart: it holds the same digits -/
structure Keep (b : Addr) (H H' : Hp) : Prop where
  st : ∀ x o, x ≠ b → H x = some o → H' x = some o
  bx : ∀ dg (n : Nat), H b = some (.lst [.ref dg, .int n]) → ∃ m : Nat, H' b = some (.lst [.ref dg, .int m])
instance (b : Addr) (H H' : Hp) : CoeFun (Keep b H H') (fun _ => ∀ x o, x ≠ b → H x = some o → H' x = some o) := ⟨Keep.st⟩
theorem Keep.refl (b : Addr) (H : Hp) : Keep b H H := ⟨fun _ _ _ h => h, fun _ n h => ⟨n, h⟩⟩
theorem Keep.trans {b : Addr} {H H1 H2 : Hp} (k : Keep b H H1) (l : Keep b H1 H2) : Keep b H H2 := ⟨fun x o n h => l x o n (k x o n h), fun dg n h => by
  obtain ⟨m, h1⟩ := k.bx dg n h
  exact l.bx dg m h1⟩
theorem Keep.of {b : Addr} {H H' : Hp} (s : Same H H') : Keep b H H' := ⟨fun x o _ h => s x o h, fun dg n h => ⟨n, s _ _ h⟩⟩
theorem keep_new {b p : Addr} {H : Hp} {o : HO} (h : H p = none) : Keep b H (upd H p o) := Keep.of (same_upd h)
/-- the box of draws: its digits, the place of the next one -/
def Box (H : Hp) (b : Addr) : Prop := ∃ (dg : Addr) (n : Nat) (ns : List Int), H b = some (.lst [.ref dg, .int n]) ∧ H dg = some (.lst (ns.map V.int))
theorem Box.same {H H' : Hp} {b : Addr} (h : Box H b) (s : Same H H') : Box H' b := by
  obtain ⟨dg, n, ns, h1, h2⟩ := h
  exact ⟨dg, n, ns, s _ _ h1, s _ _ h2⟩
theorem Box.new {H : Hp} {b p : Addr} {o : HO} (h : Box H b) (hp : H p = none) : Box (upd H p o) b := h.same (same_upd hp)
/-- a thing that stands in H and is no box at b -/
theorem Box.ne {H : Hp} {b x : Addr} {o : HO} (h : Box H b) (hx : H x = some o) (ho : ∀ dg n, o ≠ .lst [.ref dg, .int n]) : x ≠ b := fun z => by
  obtain ⟨dg, n, ns, h1, h2⟩ := h
  rw [z, h1] at hx
  exact ho dg n (Option.some.inj hx).symm
theorem Box.ne_tup {H : Hp} {b x : Addr} {xs : List V} (h : Box H b) (hx : H x = some (.tup xs)) : x ≠ b := h.ne hx fun _ _ z => by cases z
theorem Box.ne_new {H : Hp} {b x : Addr} (h : Box H b) (hx : H x = none) : x ≠ b := fun z => by
  obtain ⟨dg, n, ns, h1, h2⟩ := h
  rw [z, h1] at hx
  cases hx
theorem Keep.box {b : Addr} {H H' : Hp} (k : Keep b H H') (h : Box H b) : Box H' b := by
  obtain ⟨dg, n, ns, h1, h2⟩ := h
  have ne : dg ≠ b := fun z => by
    rw [z, h1] at h2
    have e := HO.lst.inj (Option.some.inj h2)
    cases ns with
    | nil => cases e
    | cons x r => cases e
  obtain ⟨m, h3⟩ := k.bx dg n h1
  exact ⟨dg, m, ns, h3, k dg _ ne h2⟩
/-- a list that is new since H changes -/
theorem Keep.put {b l : Addr} {H H' : Hp} {o : HO} (k : Keep b H H') (h : Box H b) (hl : H l = none) : Keep b H (upd H' l o) := by
  have nb : b ≠ l := fun z => h.ne_new hl z.symm
  refine ⟨fun x u hx e => ?_, fun dg n e => ?_⟩
  · rw [upd_ne (ne_of_none e hl)]
    exact k x u hx e
  · obtain ⟨m, h3⟩ := k.bx dg n e
    refine ⟨m, ?_⟩
    rw [upd_ne nb]
    exact h3

/-! ### _law_draw -/
theorem scDraw : FnScope ["_law_box", "_law_many", "_law_at"] ["_law_box", "_law_many"] (defScope sDraw) := ⟨rfl, rfl, rfl, by decide +kernel, rfl, by decide +kernel, by decide +kernel⟩
def spDraw : Sp := fun vs H Q _ => ∃ (b : Addr) (n : Int), vs = [.ref b, .int n] ∧ 0 < n ∧ Box H b ∧ ∀ (k : Int) (H' : Hp), 0 ≤ k → k < n → Box H' b → Keep b H H' → Q (.int k) H'
section
variable {P : Program} {w : World} {K : PySem.W.Frag} {mg : Str → Option Value} {base : Heap}
theorem ok_draw {f : Addr} {fd : FuncData} (F : Fun K "_law_draw" "_law_draw" sDraw f fd) (T : Zt mg) : FnOk P w K mg base CX0 1 f fd ["_law_box", "_law_many"] spDraw := by
  refine F.ok scDraw (fun vs H Q E h => ?_) (fun cdv A outer s H vs Q E hr h => ?_)
  · obtain ⟨b, n, rfl, _⟩ := h
    rfl
  · obtain ⟨b, n, rfl, hn, ⟨dg, at_, ns, hb, hd⟩, q⟩ := h
    refine ⟨_, (pss_cons (ps_set (i := 2) scDraw.nd rfl (.inl rfl) (pe_ix ix_list (pv 0) pe_int (fun _ _ => rfl)))
      (pss_cons (ps_asg (pe_op op_add (pv 2) pe_int) (pg_sub (pv 0) pe_int set_list))
      (pss_cons (ps_if (pt_cmpR op_lt (pv 2) (pe_callB call_len_seq (by rfl) T.z_len PySem.boot_len (pa_cons (pe_ix ix_list (pv 0) pe_int (fun _ _ => rfl)) pa_nil)) (nomark _))
      (pss_one (ps_ret (pe_op op_mod (pe_callTy call_int1 (by rfl) T.z_int (by decide +kernel) (pa_cons (pe_ix ix_list (pe_ix ix_list (pv 0) pe_int (fun _ _ => rfl)) (pv 2) (fun _ _ => rfl)) pa_nil)) (pv 1))))
      pss_nil)
      (pss_one (ps_ret pe_int))))), ?_⟩
    have hne : dg ≠ b := fun z => by
      rw [z, hb] at hd
      have e := HO.lst.inj (Option.some.inj hd)
      cases ns with
      | nil => cases e
      | cons x r => cases e
    have hl : SqL K H b [.ref dg, .int at_] := .of hb
    refine ⟨.ref b, rfl, b, _, 1, .int at_, rfl, rfl, hl, atI_nat (j := 1) rfl, ?_⟩
    refine ⟨_, rfl, at_, 1, rfl, rfl, .ref b, rfl, b, _, 1, 1, rfl, rfl, hb, rfl, ?_⟩
    have hb' : upd H b (.lst [.ref dg, .int ((at_ : Int) + 1)]) b = some (.lst [.ref dg, .int ((at_ : Int) + 1)]) := upd_same
    have hd' : upd H b (.lst [.ref dg, .int ((at_ : Int) + 1)]) dg = some (.lst (ns.map V.int)) := by
      rw [upd_ne hne]
      exact hd
    have bx : Box (upd H b (.lst [.ref dg, .int ((at_ : Int) + 1)])) b := ⟨dg, at_ + 1, ns, hb', hd'⟩
    have kp : Keep b H (upd H b (.lst [.ref dg, .int ((at_ : Int) + 1)])) := ⟨fun x o hx e => by
      rw [upd_ne hx]
      exact e, fun dg2 m e => by
      rw [hb] at e
      cases e
      exact ⟨at_ + 1, hb'⟩⟩
    refine ⟨_, rfl, .ref b, rfl, b, _, 0, .ref dg, rfl, rfl, .of hb', atI_nat (j := 0) rfl, dg, _, rfl, .inl (.of hd'), at_, _, rfl, rfl, _, rfl, ite2 (fun c => ?_) (fun c => ?_)⟩
    · have hlt : at_ < ns.length := by
        have e := of_decide_eq_true c
        rw [List.length_map] at e
        omega
      refine ⟨.ref b, rfl, b, _, 0, .ref dg, rfl, rfl, .of hb', atI_nat (j := 0) rfl, .int at_, rfl, dg, _, at_, .int ns[at_], rfl, rfl, .of hd', atI_nat (j := at_) ?_, .inl ⟨ns[at_], rfl, .int n, rfl, ns[at_], n, rfl, rfl, hn, ?_⟩⟩
      · rw [List.getElem?_map, List.getElem?_eq_getElem hlt]
        rfl
      · exact q _ _ (Int.emod_nonneg _ (by omega)) (Int.emod_lt_of_pos _ hn) bx kp
    · exact q 0 _ (by omega) hn bx kp
end
end Fst

/-! The digits of a script: a list of whole numbers, whatever they are. -/
namespace Fst
open PySem PySem.Spec PyProof.Rows L2

/-! ### _law_cell -/
theorem scCell : FnScope ["_law_script", "_law_k"] ["_law_script", "_law_k"] (defScope sCell) := ⟨rfl, rfl, rfl, by decide +kernel, rfl, by decide +kernel, by decide +kernel⟩
def spCellF (K : PySem.W.Frag) : Sp := fun vs H Q _ => ∃ (a : Addr) (ns : List Int) (k : Nat), vs = [.ref a, .int k] ∧ SqL K H a (ns.map V.int) ∧ ∀ i : Int, Q (.int i) H
section
variable {P : Program} {w : World} {K : PySem.W.Frag} {mg : Str → Option Value} {base : Heap}
theorem ok_cell {f : Addr} {fd : FuncData} (F : Fun K "_law_cell" "_law_cell" sCell f fd) (T : Zt mg) : FnOk P w K mg base CX0 1 f fd ["_law_script", "_law_k"] (spCellF K) := by
  refine F.ok scCell (fun vs H Q E h => ?_) (fun cdv A outer s H vs Q E hr h => ?_)
  · obtain ⟨a, ns, k, rfl, _⟩ := h
    rfl
  · obtain ⟨a, ns, k, rfl, hS, q⟩ := h
    refine ⟨_, (pss_cons (ps_if (pt_cmpR op_lt (pv 1) (pe_callB call_len_seq (by rfl) T.z_len PySem.boot_len (pa_cons (pv 0) pa_nil)) (nomark _))
      (pss_one (ps_ret (pe_ix ix_list (pv 0) (pv 1) (fun _ _ => rfl))))
      pss_nil)
      (pss_one (ps_ret pe_int))), ?_⟩
    refine ⟨_, rfl, .ref a, rfl, a, _, rfl, .inl hS, k, _, rfl, rfl, _, rfl, ite2 (fun c => ?_) (fun c => ?_)⟩
    · have hlt : k < ns.length := by
        have e := of_decide_eq_true c
        rw [List.length_map] at e
        omega
      refine ⟨.ref a, rfl, .int k, rfl, a, _, k, .int ns[k], rfl, rfl, hS, atI_nat (j := k) ?_, q _⟩
      rw [List.getElem?_map, List.getElem?_eq_getElem hlt]
      rfl
    · exact q 0

/-! ### _law_digits -/
theorem scDig : FnScope ["_law_script", "_law_first_here", "_law_last", "_law_digits_here", "_law_k", "_law_cell_here", "_law_turn", "_law_seed"] ["_law_script", "_law_first_here", "_law_last"] (defScope sDigits) :=
  ⟨rfl, rfl, rfl, by decide +kernel, rfl, by decide +kernel, by decide +kernel⟩
def spDig (K : PySem.W.Frag) : Sp := fun vs H Q _ => ∃ (a : Addr) (ns : List Int), vs = [.ref a, .int 0, .int 63] ∧ SqL K H a (ns.map V.int) ∧
  ∀ (H' : Hp) (p : Addr) (ds : List Int), Same H H' → H p = none → H' p = some (.lst (ds.map V.int)) → Q (.ref p) H'
/-- the list at p, with at most n items; all else as it was -/
def Dgs (H : Hp) (p : Addr) (n : Nat) (H' : Hp) : Prop := Same H H' ∧ ∃ ds : List Int, H' p = some (.lst (ds.map V.int)) ∧ ds.length ≤ n
theorem Dgs.app {H H' : Hp} {p : Addr} {n m : Nat} (hp : H p = none) (h : Dgs H p n H') (i : Int) (hm : n + 1 ≤ m) :
    ∃ ds : List Int, H' p = some (.lst (ds.map V.int)) ∧ ds.length ≤ n ∧ Dgs H p m (upd H' p (.lst (ds.map V.int ++ [.int i]))) := by
  obtain ⟨s, ds, hd, hl⟩ := h
  refine ⟨ds, hd, hl, fun b o e => ?_, ds ++ [i], ?_, ?_⟩
  · rw [upd_ne (ne_of_none e hp)]
    exact s b o e
  · rw [upd_same, List.map_append]
    rfl
  · rw [List.length_append]
    show ds.length + 1 ≤ m
    omega
theorem Dgs.mono {H H' : Hp} {p : Addr} {n m : Nat} (h : Dgs H p n H') (hm : n ≤ m) : Dgs H p m H' := ⟨h.1, let ⟨ds, a, b⟩ := h.2; ⟨ds, a, Nat.le_trans b hm⟩⟩
theorem ok_digits {f fC : Addr} {fd fdC : FuncData} (F : Fun K "_law_digits" "_law_digits" sDigits f fd) (T : Zt mg) (C_law_cell : Ca P w K mg base CX0 1 "_law_cell" ["_law_script", "_law_k"] (spCellF K) fC fdC) :
    FnOk P w K mg base CX0 2 f fd ["_law_script", "_law_first_here", "_law_last"] (spDig K) := by
  refine F.ok scDig (fun vs H Q E h => ?_) (fun cdv A outer s H vs Q E hr h => ?_)
  · obtain ⟨a, ns, rfl, _⟩ := h
    rfl
  · obtain ⟨a, ns, rfl, hS, q⟩ := h
    refine ⟨_, (pss_cons (ps_set (i := 3) scDig.nd rfl (.inl rfl) (pe_lst pa_nil))
      (pss_cons (ps_for PassesOwn.never rfl (pi_range2 (by rfl) T.z_range (pa_cons (pv 1) (pa_cons (pv 2) pa_nil))) (pg_name (i := 4) scDig.nd rfl (.inl rfl))
      (pss_cons (ps_set (i := 5) scDig.nd rfl (.inl rfl) (pe_call C_law_cell.G hr (by rfl) C_law_cell.g C_law_cell.kp C_law_cell.b .nil pass0 (pa_cons (pv 0) (pa_cons (pv 4) pa_nil))))
      (pss_mid (ps_if (pt_cmpR op_lt (pv 5) pe_int (nomark _))
      (pss_one (ps_set (i := 5) scDig.nd rfl (.inl rfl) (pe_op op_sub pe_int (pe_op op_mul pe_int (pv 5)))))
      pss_nil)
      (pss_one (ps_if (pt_cmpR op_ge (pv 5) (pe_op op_pow pe_int pe_int) (nomark _))
      (pss_one (ps_for PassesOwn.never rfl (pi_range1 (by rfl) T.z_range (pa_cons pe_int pa_nil)) (pg_name (i := 6) scDig.nd rfl (.inl rfl))
      (pss_one (ps_if (pt_cmpR op_gt (pv 5) pe_int (nomark _))
      (pss_cons (ps_expr (pe_bm PySem.F.plainAttrs_list PySem.F.slot_list_append PySem.F.type_list_append mt_append (pv 3) (pa_cons (pe_op op_mod (pe_callTy call_int1 (by rfl) T.z_int (by decide +kernel) (pa_cons (pv 5) pa_nil)) pe_int) pa_nil)))
      (pss_one (ps_set (i := 5) scDig.nd rfl (.inl rfl) (pe_op op_fdiv (pv 5) pe_int))))
      pss_nil))))
      (pss_cons (ps_set (i := 7) scDig.nd rfl (.inl rfl) (pe_op op_mod (pe_callTy call_int1 (by rfl) T.z_int (by decide +kernel) (pa_cons (pe_op op_add (pe_op op_add (pe_op op_mul (pv 5) pe_int) (pe_op op_mul (pv 4) pe_int)) pe_int) pa_nil)) pe_int))
      (pss_one (ps_for PassesOwn.never rfl (pi_range1 (by rfl) T.z_range (pa_cons pe_int pa_nil)) (pg_name (i := 6) scDig.nd rfl (.inl rfl))
      (pss_cons (ps_set (i := 7) scDig.nd rfl (.inl rfl) (pe_op op_mod (pe_callTy call_int1 (by rfl) T.z_int (by decide +kernel) (pa_cons (pe_op op_add (pe_op op_add (pe_op op_mul (pv 7) pe_int) (pe_op op_mul pe_int (pv 6))) pe_int) pa_nil)) pe_int))
      (pss_one (ps_expr (pe_bm PySem.F.plainAttrs_list PySem.F.slot_list_append PySem.F.type_list_append mt_append (pv 3) (pa_cons (pe_op op_mod (pe_callTy call_int1 (by rfl) T.z_int (by decide +kernel) (pa_cons (pe_op op_fdiv (pv 7) pe_int) pa_nil)) pe_int) pa_nil)))))))))))))
      (pss_one (ps_ret (pv 3))))), ?_⟩
    refine ⟨Nat.zero_le _, fun p np => ?_⟩
    refine ⟨_, rfl, _, rfl, 0, 63, rfl, ⟨by decide, by decide, by decide, by decide⟩, for_range (lo := 0) (n := 63)
      (fun i σ H3 => ∃ y4 y5 y6 y7, σ = [some (.ref a), some (.int 0), some (.int 63), some (.ref p), y4, y5, y6, y7] ∧ Dgs H p (60 * i) H3) ⟨none, none, none, none, rfl, same_upd np, [], upd_same, Nat.le_refl _⟩ ?_ ?_⟩
    · rintro i σ H3 hi ⟨y4, y5, y6, y7, rfl, D⟩
      have hA : SqL K H3 a (ns.map V.int) := D.1.seq hS
      refine ⟨_, rfl, _, rfl, a, ns, i, ?_, hA, fun c => ?_⟩
      · rw [Int.zero_add]
        rfl
      refine ⟨fun σ' H' => H' = H3 ∧ ∃ c, σ' = [some (.ref a), some (.int 0), some (.int 63), some (.ref p), some (.int (0 + (i : Int))), some (.int c), y6, y7], ?_, ?_⟩
      · refine ⟨_, rfl, c, 0, rfl, rfl, _, rfl, ite2 (fun _ => ?_) (fun _ => ?_)⟩
        · exact ⟨_, rfl, 2, c, rfl, rfl, .inl ⟨by decide, by decide⟩, 1, _, rfl, rfl, rfl, _, rfl⟩
        · exact ⟨rfl, c, rfl⟩
      · rintro σ' H' ⟨rfl, c, rfl⟩
        refine ⟨_, rfl, 10, 18, rfl, rfl, ⟨by decide, by decide, by decide⟩, _, _, rfl, rfl, _, rfl, ite2 (fun _ => ?_) (fun _ => ?_)⟩
        · refine ⟨60, rfl, by decide, by decide, for_range (lo := 0) (n := 60) (fun j σ H3 => ∃ c y6, σ = [some (.ref a), some (.int 0), some (.int 63), some (.ref p), some (.int (0 + (i : Int))), some (.int c), y6, y7] ∧ Dgs H p (60 * i + j) H3) ⟨c, _, rfl, D⟩ ?_ ?_⟩
          · rintro j σ H4 hj ⟨c, y6, rfl, D4⟩
            refine ⟨_, rfl, _, _, rfl, rfl, _, rfl, ite2 (fun _ => ?_) (fun _ => ?_)⟩
            · obtain ⟨ds, hd, hl, D5⟩ := D4.app np (m := 60 * i + (j + 1)) (c % 1000) (by omega)
              refine ⟨.ref p, rfl, .inl ⟨rfl, _, .of hd⟩, _, rfl, .inl ⟨c, rfl, c, 1000, rfl, rfl, (show (0 : Int) < 1000 by decide), p, _, _, rfl, rfl, hd, ?_, ?_⟩⟩
              · rw [List.length_map]
                refine Nat.lt_of_le_of_lt hl (Nat.lt_of_lt_of_le (m := 4000) (by omega) (by decide))
              · exact ⟨_, rfl, c, 1000, rfl, rfl, ⟨by decide, by decide⟩, _, _, rfl, D5⟩
            · exact ⟨c, _, rfl, D4.mono (by omega)⟩
          · rintro σ H4 ⟨c, y6, rfl, D4⟩
            exact ⟨_, _, _, _, rfl, D4.mono (by omega)⟩
        · refine ⟨_, rfl, c, 48271, rfl, rfl, .inr ⟨by decide, by decide⟩, _, rfl, _, 69621, rfl, rfl, .inr ⟨by decide, by decide⟩, _, _, rfl, rfl, _, 11, rfl, rfl, .inl ⟨_, rfl, _, 2147483647, rfl, rfl, (show (0 : Int) < 2147483647 by decide), ?_⟩⟩
          refine ⟨12, rfl, by decide, by decide, for_range (lo := 0) (n := 12) (fun j σ H3 => ∃ sd y6, σ = [some (.ref a), some (.int 0), some (.int 63), some (.ref p), some (.int (0 + (i : Int))), some (.int c), y6, some (.int sd)] ∧ Dgs H p (60 * i + j) H3) ⟨_, _, rfl, D⟩ ?_ ?_⟩
          · rintro j σ H4 hj ⟨sd, y6, rfl, D4⟩
            refine ⟨_, rfl, sd, 16807, rfl, rfl, .inr ⟨by decide, by decide⟩, _, rfl, 7, _, rfl, rfl, .inl ⟨by decide, by decide⟩, _, _, rfl, rfl, _, 1, rfl, rfl, .inl ⟨_, rfl, _, 2147483647, rfl, rfl, (show (0 : Int) < 2147483647 by decide), ?_⟩⟩
            obtain ⟨ds, hd, hl, D5⟩ := D4.app np (m := 60 * i + (j + 1)) (((sd * 16807 + 7 * (0 + (j : Int)) + 1) % 2147483647) / 997 % 1000) (by omega)
            refine ⟨.ref p, rfl, .inl ⟨rfl, _, .of hd⟩, _, rfl, _, 997, rfl, rfl, ⟨by decide, by decide⟩, .inl ⟨_, rfl, _, 1000, rfl, rfl, (show (0 : Int) < 1000 by decide), p, _, _, rfl, rfl, hd, ?_, ?_⟩⟩
            · rw [List.length_map]
              refine Nat.lt_of_le_of_lt hl (Nat.lt_of_lt_of_le (m := 4000) (by omega) (by decide))
            · exact ⟨_, _, rfl, D5⟩
          · rintro σ H4 ⟨sd, y6, rfl, D4⟩
            exact ⟨_, _, _, _, rfl, D4.mono (by omega)⟩
    · rintro σ H3 ⟨y4, y5, y6, y7, rfl, sm, ds, hd, _⟩
      exact ⟨_, rfl, q _ _ ds sm np hd⟩
end
end Fst

/-! Equal data, and _law_same. -/
namespace Fst
open PySem PySem.Spec PyProof.Rows L2

/-- a number, a text, None -/
inductive Flat : V → Prop
  | non : Flat .non
  | int (i : Int) : Flat (.int i)
  | str (s : Str) : Flat (.str s)
/-- the same data, tuples of tuples to the depth n -/
def Eq2 : Nat → Hp → V → V → Prop
  | 0, _, _, _ => False
  | n + 1, H, x, y => (x = y ∧ Flat x) ∨ ∃ (a b : Addr) (xs ys : List V), x = .ref a ∧ y = .ref b ∧ H a = some (.tup xs) ∧ H b = some (.tup ys) ∧ xs.length = ys.length ∧ xs.length ≤ 1000 ∧
      ∀ (i : Nat) (u v : V), xs[i]? = some u → ys[i]? = some v → Eq2 n H u v
theorem Eq2.flat {n : Nat} {H : Hp} {x : V} (h : Flat x) : Eq2 (n + 1) H x x := .inl ⟨rfl, h⟩
/-- tuples stay -/
def Tups (H H' : Hp) : Prop := ∀ a xs, H a = some (.tup xs) → H' a = some (.tup xs)
theorem Tups.of {H H' : Hp} (s : Same H H') : Tups H H' := fun a xs h => s a _ h
theorem Tups.keep {b : Addr} {H H' : Hp} (bx : Box H b) (k : Keep b H H') : Tups H H' := fun a xs h => k a _ (bx.ne_tup h) h
theorem Eq2.mono : ∀ {n : Nat} {H H' : Hp} {x y : V}, Eq2 n H x y → Tups H H' → Eq2 n H' x y
  | 0, _, _, _, _, h, _ => h
  | n + 1, _, _, _, _, h, t => by
    rcases h with h | ⟨a, b, xs, ys, e1, e2, ha, hb, hl, hm, hi⟩
    · exact .inl h
    · exact .inr ⟨a, b, xs, ys, e1, e2, t _ _ ha, t _ _ hb, hl, hm, fun i u v h1 h2 => (hi i u v h1 h2).mono t⟩
theorem Eq2.up : ∀ {n m : Nat} {H : Hp} {x y : V}, Eq2 n H x y → n ≤ m → Eq2 m H x y
  | 0, _, _, _, _, h, _ => h.elim
  | n + 1, 0, _, _, _, _, hm => absurd hm (Nat.not_succ_le_zero n)
  | n + 1, m + 1, _, _, _, h, hm => by
    rcases h with h | ⟨a, b, xs, ys, e1, e2, ha, hb, hl, hz, hi⟩
    · exact .inl h
    · exact .inr ⟨a, b, xs, ys, e1, e2, ha, hb, hl, hz, fun i u v h1 h2 => (hi i u v h1 h2).up (Nat.le_of_succ_le_succ hm)⟩

/-! ### _law_same -/
theorem scSame : FnScope ["_law_actual", "_law_due", "_law_k"] ["_law_actual", "_law_due"] (defScope sSame) := ⟨rfl, rfl, rfl, by decide +kernel, rfl, by decide +kernel, by decide +kernel⟩
def spSame (n : Nat) : Sp := fun vs H Q _ => ∃ x y : V, vs = [x, y] ∧ Eq2 n H x y ∧ Q (.bl true) H
section
variable {P : Program} {w : World} {K : PySem.W.Frag} {mg : Str → Option Value} {base : Heap}
theorem ok_same {f : Addr} {fd : FuncData} (F : Fun K "_law_same" "_law_same" sSame f fd) (T : Zt mg) (g : mg "_law_same" = some (.ref f)) (b : Binds K fd ["_law_actual", "_law_due"] []) : ∀ n : Nat, FnOk P w K mg base CX0 (n + 1) f fd ["_law_actual", "_law_due"] (spSame n)
  | 0 => by
    refine F.ok scSame (fun vs H Q E h => ?_) (fun cdv A outer s H vs Q E hr h => ?_)
    · obtain ⟨x, y, rfl, _⟩ := h
      rfl
    · obtain ⟨x, y, rfl, h, _⟩ := h
      exact h.elim
  | n + 1 => by
    have C_law_same : Ca P w K mg base CX0 (n + 1) "_law_same" ["_law_actual", "_law_due"] (spSame n) f fd := ⟨ok_same F T g b n, g, F.kp, b⟩
    refine F.ok scSame (fun vs H Q E h => ?_) (fun cdv A outer s H vs Q E hr h => ?_)
    · obtain ⟨x, y, rfl, _⟩ := h
      rfl
    · obtain ⟨x, y, rfl, h, q⟩ := h
      refine ⟨_, (pss_cons (ps_if (PW.pt (pw_or (pt_val (pe_callB call_isi (by rfl) T.z_isinstance (by decide +kernel) (pa_cons (pv 1) (pa_cons (pe_bltn (v := .ty "list") (by rfl) T.z_list (by decide +kernel) rfl) pa_nil)))) (pw_or1 (pt_val (pe_callB call_isi (by rfl) T.z_isinstance (by decide +kernel) (pa_cons (pv 1) (pa_cons (pe_bltn (v := .ty "tuple") (by rfl) T.z_tuple (by decide +kernel) rfl) pa_nil)))))))
      (pss_cons (ps_if (PW.pt (pw_or (pt_cmpR op_ne (pe_callB call_isi (by rfl) T.z_isinstance (by decide +kernel) (pa_cons (pv 1) (pa_cons (pe_bltn (v := .ty "list") (by rfl) T.z_list (by decide +kernel) rfl) pa_nil))) (pe_callB call_isi (by rfl) T.z_isinstance (by decide +kernel) (pa_cons (pv 0) (pa_cons (pe_bltn (v := .ty "list") (by rfl) T.z_list (by decide +kernel) rfl) pa_nil))) (nomark _)) (pw_or1 (pt_cmpR op_ne (pe_callB call_isi (by rfl) T.z_isinstance (by decide +kernel) (pa_cons (pv 1) (pa_cons (pe_bltn (v := .ty "tuple") (by rfl) T.z_tuple (by decide +kernel) rfl) pa_nil))) (pe_callB call_isi (by rfl) T.z_isinstance (by decide +kernel) (pa_cons (pv 0) (pa_cons (pe_bltn (v := .ty "tuple") (by rfl) T.z_tuple (by decide +kernel) rfl) pa_nil))) (nomark _)))))
      (pss_one (ps_ret pe_bl))
      pss_nil)
      (pss_cons (ps_if (pt_cmpR op_ne (pe_callB call_len_seq (by rfl) T.z_len PySem.boot_len (pa_cons (pv 0) pa_nil)) (pe_callB call_len_seq (by rfl) T.z_len PySem.boot_len (pa_cons (pv 1) pa_nil)) (nomark _))
      (pss_one (ps_ret pe_bl))
      pss_nil)
      (pss_cons (ps_for PassesOwn.never rfl (pi_range1 (by rfl) T.z_range (pa_cons (pe_callB call_len_seq (by rfl) T.z_len PySem.boot_len (pa_cons (pv 1) pa_nil)) pa_nil)) (pg_name (i := 2) scSame.nd rfl (.inl rfl))
      (pss_one (ps_if (pt_not (pt_val (pe_call C_law_same.G hr (by rfl) C_law_same.g C_law_same.kp C_law_same.b .nil pass0 (pa_cons (pe_ix ix_tup (pv 0) (pv 2) (fun _ _ => rfl)) (pa_cons (pe_ix ix_tup (pv 1) (pv 2) (fun _ _ => rfl)) pa_nil)))))
      (pss_one (ps_ret pe_bl))
      pss_nil)))
      (pss_one (ps_ret pe_bl)))))
      pss_nil)
      (pss_cons (ps_if (pt_cmpR op_isN (pv 1) pe_non (nomark _))
      (pss_one (ps_ret (pe_cmpR op_isN (pv 0) pe_non (nomark _))))
      pss_nil)
      (pss_cons (ps_if (pt_val (pe_callB call_isi (by rfl) T.z_isinstance (by decide +kernel) (pa_cons (pv 1) (pa_cons (pe_bltn (v := .ty "bool") (by rfl) T.z_bool (by decide +kernel) rfl) pa_nil))))
      (pss_one (ps_ret (pe_and (pe_callB call_isi (by rfl) T.z_isinstance (by decide +kernel) (pa_cons (pv 0) (pa_cons (pe_bltn (v := .ty "bool") (by rfl) T.z_bool (by decide +kernel) rfl) pa_nil))) (pe_one (pe_cmpR op_eq (pv 0) (pv 1) (nomark _))))))
      pss_nil)
      (pss_cons (ps_if (pt_val (pe_callB call_isi (by rfl) T.z_isinstance (by decide +kernel) (pa_cons (pv 1) (pa_cons (pe_bltn (v := .ty "str") (by rfl) T.z_str (by decide +kernel) rfl) pa_nil))))
      (pss_one (ps_ret (pe_and (pe_callB call_isi (by rfl) T.z_isinstance (by decide +kernel) (pa_cons (pv 0) (pa_cons (pe_bltn (v := .ty "str") (by rfl) T.z_str (by decide +kernel) rfl) pa_nil))) (pe_one (pe_cmpR op_eq (pv 0) (pv 1) (nomark _))))))
      pss_nil)
      (pss_one (ps_ret (pe_and (pe_callB call_isi (by rfl) T.z_isinstance (by decide +kernel) (pa_cons (pv 0) (pa_cons (pe_bltn (v := .ty "int") (by rfl) T.z_int (by decide +kernel) rfl) pa_nil))) (pe_and (pe_not (pe_callB call_isi (by rfl) T.z_isinstance (by decide +kernel) (pa_cons (pv 0) (pa_cons (pe_bltn (v := .ty "bool") (by rfl) T.z_bool (by decide +kernel) rfl) pa_nil)))) (pe_one (pe_cmpR op_eq (pv 0) (pv 1) (nomark _))))))))))), ?_⟩
      rcases h with ⟨rfl, hf⟩ | ⟨a, b, xs, ys, rfl, rfl, ha, hb, hl, hz, hi⟩
      · cases hf with
        | non =>
          refine ⟨_, rfl, _, _, _, _, false, rfl, .ty _, .base .non, kit_ty (by decide +kernel), false, rfl, iteF ⟨_, rfl, _, _, _, _, false, rfl, .ty _, .base .non, kit_ty (by decide +kernel), false, rfl, iteF ?_⟩⟩
          refine ⟨_, rfl, rfl, true, rfl, iteT ?_⟩
          exact ⟨_, rfl, rfl, q⟩
        | int i =>
          refine ⟨_, rfl, _, _, _, _, false, rfl, .ty _, .base (.int i), kit_ty (by decide +kernel), false, rfl, iteF ⟨_, rfl, _, _, _, _, false, rfl, .ty _, .base (.int i), kit_ty (by decide +kernel), false, rfl, iteF ?_⟩⟩
          refine ⟨_, rfl, rfl, false, rfl, iteF ?_⟩
          refine ⟨_, rfl, _, _, _, _, false, rfl, .ty _, .base (.int i), kit_ty (by decide +kernel), false, rfl, iteF ?_⟩
          refine ⟨_, rfl, _, _, _, _, false, rfl, .ty _, .base (.int i), kit_ty (by decide +kernel), false, rfl, iteF ?_⟩
          refine ⟨_, rfl, _, _, _, _, true, rfl, .ty _, .base (.int i), kit_ty (by decide +kernel), true, rfl, iteT ?_⟩
          refine ⟨_, rfl, _, _, _, _, false, rfl, .ty _, .base (.int i), kit_ty (by decide +kernel), false, rfl, true, rfl, iteT ?_⟩
          refine ⟨_, rfl, _, rfl, rfl, ?_⟩
          rw [decide_eq_true rfl]
          exact q
        | str s =>
          refine ⟨_, rfl, _, _, _, _, false, rfl, .ty _, .base (.str s), kit_ty (by decide +kernel), false, rfl, iteF ⟨_, rfl, _, _, _, _, false, rfl, .ty _, .base (.str s), kit_ty (by decide +kernel), false, rfl, iteF ?_⟩⟩
          refine ⟨_, rfl, rfl, false, rfl, iteF ?_⟩
          refine ⟨_, rfl, _, _, _, _, false, rfl, .ty _, .base (.str s), kit_ty (by decide +kernel), false, rfl, iteF ?_⟩
          refine ⟨_, rfl, _, _, _, _, true, rfl, .ty _, .base (.str s), kit_ty (by decide +kernel), true, rfl, iteT ?_⟩
          refine ⟨_, rfl, _, _, _, _, true, rfl, .ty _, .base (.str s), kit_ty (by decide +kernel), true, rfl, iteT ?_⟩
          refine ⟨_, rfl, _, rfl, rfl, ?_⟩
          rw [decide_eq_true rfl]
          exact q
      · refine ⟨_, rfl, _, _, _, _, false, rfl, .ty _, .base (.tup hb), kit_ty (by decide +kernel), false, rfl, iteF ⟨_, rfl, _, _, _, _, true, rfl, .ty _, .base (.tup hb), kit_ty (by decide +kernel), true, rfl, iteT ?_⟩⟩
        -- the kinds agree
        refine ⟨_, rfl, _, _, _, _, false, rfl, .ty _, .base (.tup hb), kit_ty (by decide +kernel), _, rfl, _, _, _, _, false, rfl, .ty _, .base (.tup ha), kit_ty (by decide +kernel), rfl, false, rfl, iteF ?_⟩
        refine ⟨_, rfl, _, _, _, _, true, rfl, .ty _, .base (.tup hb), kit_ty (by decide +kernel), _, rfl, _, _, _, _, true, rfl, .ty _, .base (.tup ha), kit_ty (by decide +kernel), rfl, false, rfl, iteF ?_⟩
        -- the lengths agree
        refine ⟨_, rfl, a, xs, rfl, .inr (.of ha), _, rfl, b, ys, rfl, .inr (.of hb), rfl, _, rfl, iteNS (by rw [hl]) ?_⟩
        -- item by item
        refine ⟨_, rfl, b, ys, rfl, .inr (.of hb), (ys.length : Int), rfl, by omega, by omega, for_range (lo := 0) (n := ys.length) (fun i σ H3 => (∃ y, σ = [some (.ref a), some (.ref b), y]) ∧ H3 = H) ⟨⟨none, rfl⟩, rfl⟩ ?_ ?_⟩
        · rintro i σ H3 hlt ⟨⟨y, rfl⟩, rfl⟩
          have h1 : i < xs.length := by omega
          have e1 : (0 : Int) + (i : Int) = ((i : Nat) : Int) := by omega
          refine ⟨_, rfl, _, rfl, a, xs, _, xs[i], rfl, rfl, .of ha, at_of e1 (List.getElem?_eq_getElem h1), _, rfl, _, rfl, b, ys, _, ys[i], rfl, rfl, .of hb, at_of e1 (List.getElem?_eq_getElem hlt), ?_⟩
          refine ⟨_, _, rfl, hi i _ _ (List.getElem?_eq_getElem h1) (List.getElem?_eq_getElem hlt), true, rfl, iteF ?_⟩
          exact ⟨⟨_, rfl⟩, rfl⟩
        · rintro σ H3 ⟨⟨y, rfl⟩, rfl⟩
          exact q
end
end Fst

/-! Drawn expressions: some data of small depth. -/
namespace Fst
open PySem PySem.Spec PyProof.Rows L2

theorem Eq2.tup {n : Nat} {H : Hp} {p : Addr} {xs : List V} (hp : H p = some (.tup xs)) (hl : xs.length ≤ 1000) (h : ∀ v ∈ xs, Eq2 n H v v) : Eq2 (n + 1) H (.ref p) (.ref p) :=
  .inr ⟨p, p, xs, xs, rfl, rfl, hp, hp, rfl, hl, fun i u v h1 h2 => by
    rw [h1] at h2
    cases h2
    exact h u (List.mem_of_getElem? h1)⟩
/-- an item at a place within -/
theorem at_in {α : Type} {xs : List α} {k : Int} (h0 : 0 ≤ k) (hk : k < (xs.length : Int)) : ∃ v, v ∈ xs ∧ atI xs k = some v := by
  have hlt : k.toNat < xs.length := by omega
  have h := atI_nat (xs := xs) (j := k.toNat) (List.getElem?_eq_getElem hlt)
  rw [Int.toNat_of_nonneg h0] at h
  exact ⟨_, List.getElem_mem hlt, h⟩
theorem line1000 : 1000 ≤ sizeLine := Nat.le_of_lt (small1000 (Nat.le_refl _))

/-! ### _law_tree -/
theorem scTree : FnScope ["_law_box", "_law_depth", "_law_kind", "_law_sign", "_law_left"] ["_law_box", "_law_depth"] (defScope sTree) := ⟨rfl, rfl, rfl, by decide +kernel, rfl, by decide +kernel, by decide +kernel⟩
/-- at the depth n - 1 -/
def spTree (n : Nat) : Sp := fun vs H Q _ => ∃ (b : Addr) (d : Nat), vs = [.ref b, .int d] ∧ d + 1 = n ∧ Box H b ∧ ∀ (v : V) (H' : Hp), Box H' b → Keep b H H' → Eq2 (n + 1) H' v v → Q v H'
section
variable {P : Program} {w : World} {K : PySem.W.Frag} {mg : Str → Option Value} {base : Heap}
theorem ok_tree {f fD : Addr} {fd fdD : FuncData} (F : Fun K "_law_tree" "_law_tree" sTree f fd) (g : mg "_law_tree" = some (.ref f)) (b : Binds K fd ["_law_box", "_law_depth"] [])
    (C_law_draw : Ca P w K mg base CX0 1 "_law_draw" ["_law_box", "_law_many"] spDraw fD fdD) : ∀ n : Nat, FnOk P w K mg base CX0 (n + 1) f fd ["_law_box", "_law_depth"] (spTree n)
  | 0 => by
    refine F.ok scTree (fun vs H Q E h => ?_) (fun cdv A outer s H vs Q E hr h => ?_)
    · obtain ⟨b, d, rfl, _⟩ := h
      rfl
    · obtain ⟨b, d, rfl, h, _⟩ := h
      omega
  | n + 1 => by
    have C_law_tree : Ca P w K mg base CX0 (n + 1) "_law_tree" ["_law_box", "_law_depth"] (spTree n) f fd := ⟨ok_tree F g b C_law_draw n, g, F.kp, b⟩
    refine F.ok scTree (fun vs H Q E h => ?_) (fun cdv A outer s H vs Q E hr h => ?_)
    · obtain ⟨b, d, rfl, _⟩ := h
      rfl
    · obtain ⟨b, d, rfl, hdn, bx, q⟩ := h
      have hr1 : Room 1 _ := hr.mono (by omega)
      refine ⟨_, (pss_cons (ps_set (i := 2) scTree.nd rfl (.inl rfl) (pe_call C_law_draw.G hr1 (by rfl) C_law_draw.g C_law_draw.kp C_law_draw.b .nil pass0 (pa_cons (pv 0) (pa_cons pe_int pa_nil))))
      (pss_cons (ps_if (PW.pt (pw_or (pt_cmpR op_eq (pv 1) pe_int (nomark _)) (pw_or1 (pt_cmpR op_lt (pv 2) pe_int (nomark _)))))
      (pss_one (ps_ret (pe_tup (pa_cons pe_str (pa_cons (pe_ix ix_str pe_str (pe_call C_law_draw.G hr1 (by rfl) C_law_draw.g C_law_draw.kp C_law_draw.b .nil pass0 (pa_cons (pv 0) (pa_cons pe_int pa_nil))) (fun _ _ => rfl)) pa_nil)))))
      pss_nil)
      (pss_cons (ps_if (pt_cmpR op_eq (pv 2) pe_int (nomark _))
      (pss_one (ps_ret (pe_tup (pa_cons pe_str (pa_cons (pe_ix ix_list (pe_lst (pa_cons pe_int (pa_cons pe_int (pa_cons pe_int (pa_cons pe_int (pa_cons pe_int (pa_cons pe_int pa_nil))))))) (pe_call C_law_draw.G hr1 (by rfl) C_law_draw.g C_law_draw.kp C_law_draw.b .nil pass0 (pa_cons (pv 0) (pa_cons pe_int pa_nil))) (fun _ _ => rfl)) pa_nil)))))
      pss_nil)
      (pss_cons (ps_if (pt_cmpR op_eq (pv 2) pe_int (nomark _))
      (pss_one (ps_ret (pe_tup (pa_cons pe_str (pa_cons (pe_call C_law_tree.G hr (by rfl) C_law_tree.g C_law_tree.kp C_law_tree.b .nil pass0 (pa_cons (pv 0) (pa_cons (pe_op op_sub (pv 1) pe_int) pa_nil))) pa_nil)))))
      pss_nil)
      (pss_cons (ps_if (pt_cmpR op_eq (pv 2) pe_int (nomark _))
      (pss_one (ps_ret (pe_tup (pa_cons pe_str (pa_cons (pe_call C_law_tree.G hr (by rfl) C_law_tree.g C_law_tree.kp C_law_tree.b .nil pass0 (pa_cons (pv 0) (pa_cons (pe_op op_sub (pv 1) pe_int) pa_nil))) pa_nil)))))
      pss_nil)
      (pss_cons (ps_set (i := 3) scTree.nd rfl (.inl rfl) (pe_ix ix_list (pe_lst (pa_cons pe_str (pa_cons pe_str (pa_cons pe_str (pa_cons pe_str (pa_cons pe_str (pa_cons pe_str (pa_cons pe_str (pa_cons pe_str pa_nil))))))))) (pe_call C_law_draw.G hr1 (by rfl) C_law_draw.g C_law_draw.kp C_law_draw.b .nil pass0 (pa_cons (pv 0) (pa_cons pe_int pa_nil))) (fun _ _ => rfl)))
      (pss_cons (ps_set (i := 4) scTree.nd rfl (.inl rfl) (pe_call C_law_tree.G hr (by rfl) C_law_tree.g C_law_tree.kp C_law_tree.b .nil pass0 (pa_cons (pv 0) (pa_cons (pe_op op_sub (pv 1) pe_int) pa_nil))))
      (pss_one (ps_ret (pe_tup (pa_cons pe_str (pa_cons (pv 3) (pa_cons (pv 4) (pa_cons (pe_call C_law_tree.G hr (by rfl) C_law_tree.g C_law_tree.kp C_law_tree.b .nil pass0 (pa_cons (pv 0) (pa_cons (pe_op op_sub (pv 1) pe_int) pa_nil))) pa_nil)))))))))))))), ?_⟩
      refine ⟨_, rfl, b, 9, rfl, by decide, bx, fun k H1 k0 k9 bx1 kp1 => ?_⟩
      -- a register
      have reg : ∀ {σ : L2.St} {H : Hp} {Q : VK}, Box H b → σ[0]? = some (some (.ref b)) → (∀ (v : V) (H' : Hp), Box H' b → Keep b H H' → Eq2 2 H' v v → Q v H') →
          tTup (tCons (tC (.str "reg")) (tCons (tOp rIxS (tC (.str "abcd")) (tCall spDraw [] E0 (tCons (tVar 0) (tCons (tC (.int 4)) tNil)))) tNil)) σ H Q := by
        intro σ H Q bx s0 q
        refine ⟨_, s0, b, 4, rfl, by decide, bx, fun k H1 k0 k4 bx1 kp1 => ?_⟩
        obtain ⟨c, _, hc⟩ := at_in (xs := (PySem.Str.ofString "abcd").cps.toList) k0 (by exact k4)
        refine ⟨_, k, c, rfl, rfl, by decide, hc, (by show 2 ≤ sizeLine; decide), fun p np => ?_⟩
        refine q _ _ (bx1.new np) (kp1.trans (keep_new np)) (Eq2.tup upd_same (by show 2 ≤ 1000; decide) fun v hv => ?_)
        rcases List.mem_cons.mp hv with rfl | hv
        · exact Eq2.flat (.str _)
        rcases List.mem_cons.mp hv with rfl | hv
        · exact Eq2.flat (.str _)
        cases hv
      have fin : ∀ (v : V) (H' : Hp), Box H' b → Keep b H1 H' → Eq2 2 H' v v → Q v H' := fun v H' h1 h2 h3 => q v H' h1 (kp1.trans h2) (h3.up (by omega))
      refine ⟨_, rfl, rfl, _, rfl, ite2 (fun _ => ?_) (fun hd0 => ?_)⟩
      · exact iteT (reg bx1 rfl fin)
      · have hd : d ≠ 0 := fun z => hd0 (decide_eq_true (by rw [z]; rfl))
        refine ⟨_, rfl, k, 2, rfl, rfl, _, rfl, ite2 (fun _ => ?_) (fun _ => ?_)⟩
        · exact reg bx1 rfl fin
        · -- the tree below
          have sub : ∀ {σ : L2.St} {H : Hp} {Q : VK}, Box H b → σ[0]? = some (some (.ref b)) → σ[1]? = some (some (.int d)) → (∀ (v : V) (H' : Hp), Box H' b → Keep b H H' → Eq2 (n + 1) H' v v → Q v H') →
              tCall (spTree n) [] E0 (tCons (tVar 0) (tCons (tOp (rI0 fun i j => .int (i - j)) (tVar 1) (tC (.int 1))) tNil)) σ H Q := by
            intro σ H Q bx s0 s1 q
            refine ⟨_, s0, _, s1, _, _, rfl, rfl, b, d - 1, ?_, by omega, bx, q⟩
            have e : ((d : Int) - 1) = ((d - 1 : Nat) : Int) := by omega
            exact congrArg (fun z => [V.ref b, V.int z]) e
          have one : ∀ {t : Str} {v : V} {H2 : Hp} {Q : VK}, Box H2 b → Keep b H1 H2 → Eq2 (n + 1) H2 v v → (∀ (v : V) (H' : Hp), Box H' b → Keep b H1 H' → Eq2 (n + 2) H' v v → Q v H') →
              [V.str t, v].length ≤ sizeLine ∧ ∀ p, H2 p = none → Q (.ref p) (upd H2 p (.tup [.str t, v])) := by
            intro t v H2 Q bx2 kp2 hv q
            refine ⟨(by show 2 ≤ sizeLine; decide), fun p np => q _ _ (bx2.new np) (kp2.trans (keep_new np)) (Eq2.tup upd_same (by show 2 ≤ 1000; decide) fun u hu => ?_)⟩
            rcases List.mem_cons.mp hu with rfl | hu
            · exact Eq2.flat (.str _)
            rcases List.mem_cons.mp hu with rfl | hu
            · exact hv.mono (Tups.of (same_upd np))
            cases hu
          have fin2 : ∀ (v : V) (H' : Hp), Box H' b → Keep b H1 H' → Eq2 (n + 2) H' v v → Q v H' := fun v H' h1 h2 h3 => q v H' h1 (kp1.trans h2) h3
          refine ⟨_, rfl, rfl, _, rfl, ite2 (fun _ => ?_) (fun _ => ?_)⟩
          · -- a number
            refine ⟨by show 6 ≤ sizeLine; decide, fun l nl => ?_⟩
            refine ⟨_, rfl, b, 6, rfl, by decide, bx1.new nl, fun k H2 k0 k6 bx2 kp2 => ?_⟩
            obtain ⟨c, hc, hat⟩ := at_in (xs := [V.int 0, .int 1, .int 2, .int 9, .int 10, .int 99]) k0 (by exact k6)
            have hc' : Flat c := by
              simp only [List.mem_cons, List.not_mem_nil, or_false] at hc
              rcases hc with rfl | rfl | rfl | rfl | rfl | rfl <;> exact .int _
            refine ⟨l, _, k, c, rfl, rfl, .of (kp2 l _ (bx1.ne_new nl) upd_same), hat, (by show 2 ≤ sizeLine; decide), fun p np => ?_⟩
            refine fin _ _ (bx2.new np) ((keep_new nl).trans (kp2.trans (keep_new np))) (Eq2.tup upd_same (by show 2 ≤ 1000; decide) fun v hv => ?_)
            rcases List.mem_cons.mp hv with rfl | hv
            · exact Eq2.flat (.str _)
            rcases List.mem_cons.mp hv with rfl | hv
            · exact Eq2.flat hc'
            cases hv
          refine ⟨_, rfl, rfl, _, rfl, ite2 (fun _ => ?_) (fun _ => ?_)⟩
          · exact sub bx1 rfl rfl fun v H2 bx2 kp2 hv => one bx2 kp2 hv fin2
          refine ⟨_, rfl, rfl, _, rfl, ite2 (fun _ => ?_) (fun _ => ?_)⟩
          · exact sub bx1 rfl rfl fun v H2 bx2 kp2 hv => one bx2 kp2 hv fin2
          -- an operation
          refine ⟨by show 8 ≤ sizeLine; decide, fun l nl => ?_⟩
          refine ⟨_, rfl, b, 8, rfl, by decide, bx1.new nl, fun k H2 k0 k8 bx2 kp2 => ?_⟩
          obtain ⟨c, hc, hat⟩ := at_in (xs := [V.str "+", .str "-", .str "*", .str "=", .str "<", .str "and", .str "or", .str "+"]) k0 (by exact k8)
          have hc' : Flat c := by
            simp only [List.mem_cons, List.not_mem_nil, or_false] at hc
            rcases hc with rfl | rfl | rfl | rfl | rfl | rfl | rfl | rfl <;> exact .str _
          refine ⟨l, _, k, c, rfl, rfl, .of (kp2 l _ (bx1.ne_new nl) upd_same), hat, ?_⟩
          refine sub bx2 rfl rfl fun v3 H3 bx3 kp3 hv3 => ?_
          refine ⟨_, rfl, _, rfl, ?_⟩
          refine sub bx3 rfl rfl fun v4 H4 bx4 kp4 hv4 => ?_
          refine ⟨(by show 4 ≤ sizeLine; decide), fun p np => ?_⟩
          refine fin2 _ _ (bx4.new np) ((keep_new nl).trans (kp2.trans (kp3.trans (kp4.trans (keep_new np))))) (Eq2.tup upd_same (by show 4 ≤ 1000; decide) fun v hv => ?_)
          rcases List.mem_cons.mp hv with rfl | hv
          · exact Eq2.flat (.str _)
          rcases List.mem_cons.mp hv with rfl | hv
          · exact Eq2.flat hc'
          rcases List.mem_cons.mp hv with rfl | hv
          · exact (hv3.mono (Tups.keep bx3 kp4)).mono (Tups.of (same_upd np))
          rcases List.mem_cons.mp hv with rfl | hv
          · exact hv4.mono (Tups.of (same_upd np))
          cases hv
end
end Fst

/-! Drawn names: texts of at most eight signs, none of them zzzzzzz9. -/
namespace Fst
open PySem PySem.Spec PyProof.Rows L2

/-! ### two rules: a test whose answer is let go; a list of written texts -/
def tAny (t : TT) : TT := fun σ H Q => ∃ M : Hp → Prop, t σ H (fun _ H1 => M H1) ∧ ∀ b H1, M H1 → Q b H1
theorem pt_any {X : Cx} {e : Expr} {t : TT} (h : PT X e t) : PT X e (tAny t) := ⟨fun pins s σ H Q I hw => by
  obtain ⟨M, h1, h2⟩ := hw
  refine thn (h.run pins s σ H _ I h1) fun b s1 hb => ?_
  obtain ⟨H1, I1, m⟩ := hb
  exact ⟨H1, I1, h2 b H1 m⟩⟩
def strOf : Expr → Option Str
  | .Constant (.str x) _ _ => some x
  | _ => none
def strsOf : List Expr → List Str
  | [] => []
  | e :: r => (strOf e).getD "" :: strsOf r
theorem strsOf_length : ∀ es : List Expr, (strsOf es).length = es.length
  | [] => rfl
  | _ :: r => congrArg (· + 1) (strsOf_length r)
theorem pa_strs {X : Cx} : ∀ {es : List Expr}, (es.all fun e => (strOf e).isSome) = true → PA X es (fun _ H Q => Q ((strsOf es).map V.str) H)
  | [], _ => pa_nil
  | e :: r, h => by
    rw [List.all_cons, Bool.and_eq_true] at h
    have ih := pa_strs (X := X) h.2
    match e, h.1 with
    | .Constant (.str x) j p, _ => exact pa_cons pe_str ih
theorem strs_flat (ss : List Str) : (ss.map V.str).all flatV = true := by
  rw [List.all_map]
  exact List.all_eq_true.mpr fun _ _ => rfl
/-- a list of texts is no box -/
theorem Box.ne_strs {H : Hp} {b x : Addr} {ss : List Str} (h : Box H b) (hx : H x = some (.lst (ss.map V.str))) : x ≠ b := h.ne hx fun dg n z => by
  have e := HO.lst.inj z
  cases ss with
  | nil => cases e
  | cons s r => cases e

/-! ### what a name is while it is made, and at the end -/
def bad : Str := "zzzzzzz9"
theorem bad_cps : bad.cps.toList = [122, 122, 122, 122, 122, 122, 122, 57] := by decide +kernel
/-- short, or with an x among the first eight signs -/
def NmOk (s : Str) : Prop := s.length ≤ 5 ∨ 120 ∈ s.cps.toList.take 8
theorem len_cps (s : Str) : s.cps.toList.length = s.length := by
  show s.cps.toList.length = s.cps.size
  exact Array.length_toList
theorem NmOk.app {s t : Str} (h : NmOk s) : NmOk ((s ++ "x") ++ t) := by
  have e : ((s ++ "x") ++ t).cps.toList = s.cps.toList ++ (120 :: t.cps.toList) := by
    rw [cps_toList_append, cps_toList_append]
    have z : (PySem.Str.ofString "x").cps.toList = [120] := by decide +kernel
    show s.cps.toList ++ (PySem.Str.ofString "x").cps.toList ++ _ = _
    rw [z, List.append_assoc]
    rfl
  right
  rw [e, List.take_append]
  rcases h with h | h
  · refine List.mem_append_right _ ?_
    rw [len_cps]
    obtain ⟨m, hm⟩ : ∃ m, 8 - s.length = m + 1 := ⟨7 - s.length, by omega⟩
    rw [hm]
    exact List.mem_cons_self
  · exact List.mem_append_left _ h
theorem NmOk.not_bad {s : Str} (h : NmOk s) : cutS s none (some 8) ≠ bad := fun z => by
  have e : (cutS s none (some 8)).cps.toList = s.cps.toList.take 8 := by
    have e8 : HT.sIx s.length s.length (some 8) = min 8 s.length := HT.sIx_nat s.length s.length 8
    show ((s.cps.toList.drop (HT.sIx s.length 0 none)).take (HT.sIx s.length s.length (some 8) - HT.sIx s.length 0 none)) = _
    rw [HT.sIx_none, e8, List.drop_zero, Nat.sub_zero]
    rcases Nat.le_total 8 s.length with h8 | h8
    · rw [Nat.min_eq_left h8]
    · rw [Nat.min_eq_right h8, List.take_of_length_le (by rw [len_cps]; exact Nat.le_refl _), List.take_of_length_le (by rw [len_cps]; exact h8)]
  rw [z, bad_cps] at e
  rcases h with h | h
  · have el := congrArg List.length e
    rw [List.length_take, len_cps] at el
    have : ([122, 122, 122, 122, 122, 122, 122, 57] : List Nat).length = 8 := rfl
    omega
  · rw [← e] at h
    exact absurd h (by decide)

/-! ### _law_name -/
theorem scName : FnScope ["_law_box", "_law_taken", "_law_letters", "_law_reserved", "_law_name_here", "_law_k", "_law_turn"] ["_law_box", "_law_taken"] (defScope sName) := ⟨rfl, rfl, rfl, by decide +kernel, rfl, by decide +kernel, by decide +kernel⟩
def spName : Sp := fun vs H Q _ => ∃ (b tk : Addr) (ts : List Str), vs = [.ref b, .ref tk] ∧ Box H b ∧ H tk = some (.lst (ts.map V.str)) ∧ ∀ (s : Str) (H' : Hp), Box H' b → Keep b H H' → s ≠ bad → Q (.str s) H'
def digit_len (j : Nat) (h : j < 9) : (PySem.Str.ofString (toString (0 + (j : Int)))).length ≤ 11 := by
  match j, h with
  | 0, _ => decide +kernel
  | 1, _ => decide +kernel
  | 2, _ => decide +kernel
  | 3, _ => decide +kernel
  | 4, _ => decide +kernel
  | 5, _ => decide +kernel
  | 6, _ => decide +kernel
  | 7, _ => decide +kernel
  | 8, _ => decide +kernel
section
variable {P : Program} {w : World} {K : PySem.W.Frag} {mg : Str → Option Value} {base : Heap}
theorem ok_name {f fD : Addr} {fd fdD : FuncData} (F : Fun K "_law_name" "_law_name" sName f fd) (T : Zt mg)
    (C_law_draw : Ca P w K mg base CX0 1 "_law_draw" ["_law_box", "_law_many"] spDraw fD fdD) : FnOk P w K mg base CX0 2 f fd ["_law_box", "_law_taken"] spName := by
  refine F.ok scName (fun vs H Q E h => ?_) (fun cdv A outer s H vs Q E hr h => ?_)
  · obtain ⟨b, tk, ts, rfl, _⟩ := h
    rfl
  · obtain ⟨b, tk, ts, rfl, bx, ht, q⟩ := h
    refine ⟨_, (pss_cons (ps_set (i := 2) scName.nd rfl (.inl rfl) pe_str)
      (pss_cons (ps_set (i := 3) scName.nd rfl (.inl rfl) (pe_lst (pa_strs rfl)))
      (pss_cons (ps_set (i := 4) scName.nd rfl (.inl rfl) (pe_ix ix_str (pv 2) (pe_call C_law_draw.G hr (by rfl) C_law_draw.g C_law_draw.kp C_law_draw.b .nil pass0 (pa_cons (pv 0) (pa_cons pe_int pa_nil))) (fun _ _ => rfl)))
      (pss_cons (ps_for PassesOwn.never rfl (pi_range1 (by rfl) T.z_range (pa_cons (pe_call C_law_draw.G hr (by rfl) C_law_draw.g C_law_draw.kp C_law_draw.b .nil pass0 (pa_cons (pv 0) (pa_cons pe_int pa_nil))) pa_nil)) (pg_name (i := 5) scName.nd rfl (.inl rfl))
      (pss_one (ps_set (i := 4) scName.nd rfl (.inl rfl) (pe_op op_add_str (pv 4) (pe_ix ix_str (pe_op op_add_str (pv 2) pe_str) (pe_call C_law_draw.G hr (by rfl) C_law_draw.g C_law_draw.kp C_law_draw.b .nil pass0 (pa_cons (pv 0) (pa_cons pe_int pa_nil))) (fun _ _ => rfl))))))
      (pss_cons (ps_for PassesOwn.never rfl (pi_range1 (by rfl) T.z_range (pa_cons pe_int pa_nil)) (pg_name (i := 6) scName.nd rfl (.inl rfl))
      (pss_one (ps_if (pt_any (PW.pt (pw_or (pt_cmpR op_in_seq (pv 4) (pv 3) rfl) (pw_or (pt_cmpR op_in_seq (pv 4) (pv 1) rfl) (pw_or1 (pt_cmpR op_in_seq (pv 4) (pe_lst (pa_cons pe_str (pa_cons pe_str (pa_cons pe_str (pa_cons pe_str pa_nil))))) rfl))))))
      (pss_one (ps_set (i := 4) scName.nd rfl (.inl rfl) (pe_op op_add_str (pe_op op_add_str (pv 4) pe_str) (pe_callTy call_str_int (by rfl) T.z_str (by decide +kernel) (pa_cons (pv 6) pa_nil)))))
      pss_nil)))
      (pss_one (ps_ret (pe_slice sl_str (pv 4) po_none (po_some pe_int))))))))), ?_⟩
    have ntk := bx.ne_strs ht
    -- the letters, the reserved words
    refine ⟨by rw [List.length_map, strsOf_length]; decide, fun rs nrs => ?_⟩
    -- the first letter
    refine ⟨_, rfl, _, rfl, b, 26, rfl, by decide, bx.new nrs, fun k H1 k0 k26 bx1 kp1 => ?_⟩
    obtain ⟨c, _, hc⟩ := at_in (xs := (PySem.Str.ofString "abcdefghijklmnopqrstuvwxyz").cps.toList) k0 (by exact k26)
    refine ⟨_, k, c, rfl, rfl, by decide, hc, ?_⟩
    have hrs1 := kp1 rs _ (bx.ne_new nrs) upd_same
    have kp1' : Keep b H H1 := (keep_new nrs).trans kp1
    -- further signs
    refine ⟨_, rfl, b, 5, rfl, by decide, bx1, fun m H2 m0 m5 bx2 kp2 => ?_⟩
    refine ⟨m, rfl, by omega, by omega, for_range (lo := 0) (n := m.toNat) (fun i σ H3 => ∃ (y : Option V) (s : Str), σ = [some (.ref b), some (.ref tk), some (.str "abcdefghijklmnopqrstuvwxyz"), some (.ref rs), some (.str s), y, none] ∧ s.length = 1 + i ∧ Box H3 b ∧ Keep b H2 H3)
      ⟨none, _, rfl, rfl, bx2, Keep.refl _ _⟩ ?_ ?_⟩
    · rintro i σ H3 hi ⟨y, s, rfl, hl, bx3, kp3⟩
      refine ⟨_, rfl, _, rfl, _, _, rfl, rfl, by decide, _, rfl, b, 36, rfl, by decide, bx3, fun k H4 k0 k36 bx4 kp4 => ?_⟩
      obtain ⟨c, _, hc⟩ := at_in (xs := ((PySem.Str.ofString "abcdefghijklmnopqrstuvwxyz") ++ (PySem.Str.ofString "0123456789")).cps.toList) k0 (by exact k36)
      refine ⟨_, k, c, rfl, rfl, by decide, hc, _, _, rfl, rfl, ?_, ?_⟩
      · rw [hl]
        refine Nat.le_trans (m := 10) ?_ (by decide)
        show 1 + i + 1 ≤ 10
        omega
      · refine ⟨_, _, rfl, ?_, bx4, kp3.trans kp4⟩
        rw [PySem.Str.length_append, hl]
        rfl
    · rintro σ H3 ⟨y, s, rfl, hl, bx3, kp3⟩
      have hl5 : s.length ≤ 5 := by omega
      -- nine turns
      refine ⟨9, rfl, by decide, by decide, for_range (lo := 0) (n := 9) (fun j σ H4 => ∃ (z : Option V) (s : Str), σ = [some (.ref b), some (.ref tk), some (.str "abcdefghijklmnopqrstuvwxyz"), some (.ref rs), some (.str s), y, z] ∧ s.length ≤ 5 + 12 * j ∧ NmOk s ∧ Box H4 b ∧ Keep b H3 H4)
        ⟨none, s, rfl, hl5, .inl hl5, bx3, Keep.refl _ _⟩ ?_ ?_⟩
      · rintro j σ H4 hj ⟨z, s, rfl, hs, hn, bx4, kp4⟩
        have hrs4 : H4 rs = some (.lst ((strsOf _).map V.str)) := kp4 rs _ (bx.ne_new nrs) (kp3 rs _ (bx.ne_new nrs) (kp2 rs _ (bx.ne_new nrs) hrs1))
        have htk4 : H4 tk = some (.lst (ts.map V.str)) := kp4 tk _ ntk (kp3 tk _ ntk (kp2 tk _ ntk (kp1' tk _ ntk ht)))
        refine ⟨fun H5 => Box H5 b ∧ Keep b H4 H5, ?_, fun c H5 m => ?_⟩
        · refine ⟨_, rfl, _, rfl, rs, _, rfl, .inl (.of hrs4), rfl, strs_flat _, _, rfl, ite2 (fun _ => ⟨bx4, Keep.refl _ _⟩) (fun _ => ?_)⟩
          refine ⟨_, rfl, _, rfl, tk, _, rfl, .inl (.of htk4), rfl, strs_flat _, _, rfl, ite2 (fun _ => ⟨bx4, Keep.refl _ _⟩) (fun _ => ?_)⟩
          refine ⟨_, rfl, (by show 4 ≤ sizeLine; decide), fun l nl => ⟨l, _, rfl, .inl (.of upd_same), rfl, rfl, _, rfl, bx4.new nl, keep_new nl⟩⟩
        · obtain ⟨bx5, kp5⟩ := m
          cases c with
          | true =>
            have hd := digit_len j hj
            refine iteT ⟨_, rfl, _, _, rfl, rfl, ?_, _, rfl, _, rfl, ?_, _, _, rfl, rfl, ?_, ?_⟩
            · refine Nat.le_trans (m := 200) ?_ (by decide)
              show s.length + 1 ≤ 200
              omega
            · show (0 + (j : Int)).natAbs.log2 < 1920
              refine Nat.lt_of_le_of_lt (Nat.log2_le_self _) ?_
              omega
            · refine Nat.le_trans (m := 200) ?_ (by decide)
              rw [PySem.Str.length_append]
              show s.length + 1 + _ ≤ 200
              omega
            · refine ⟨_, _, rfl, ?_, hn.app, bx5, kp4.trans kp5⟩
              rw [PySem.Str.length_append, PySem.Str.length_append]
              show s.length + 1 + _ ≤ _
              omega
          | false => exact iteF ⟨_, s, rfl, by omega, hn, bx5, kp4.trans kp5⟩
      · rintro σ H4 ⟨z, s, rfl, hs, hn, bx4, kp4⟩
        refine ⟨_, rfl, 8, rfl, s, rfl, ?_, ?_⟩
        · exact Nat.le_trans hs (by decide)
        · exact q _ _ bx4 (kp1'.trans (kp2.trans (kp3.trans kp4))) hn.not_bad
end
end Fst

/-! Drawn shared things: each with a name of its own. -/
namespace Fst
open PySem PySem.Spec PyProof.Rows L2

inductive Thing where
  | var (n : Str) (v : Int)
  | lock (n : Str)
  | cond (n l : Str)
  | queue (n : Str) (k : Int)
def Thing.kind : Thing → Str
  | .var _ _ => "var"
  | .lock _ => "lock"
  | .cond _ _ => "cond"
  | .queue _ _ => "queue"
def Thing.name : Thing → Str
  | .var n _ => n
  | .lock n => n
  | .cond n _ => n
  | .queue n _ => n
/-- what stands behind the name -/
def Thing.tail : Thing → List V
  | .var _ v => [.int v]
  | .lock _ => []
  | .cond _ l => [.str l]
  | .queue _ k => [.int k]
def Thing.cells (t : Thing) : List V := .str t.kind :: .str t.name :: t.tail
theorem Thing.cells_le : ∀ t : Thing, t.cells.length ≤ 3
  | .var _ _ => Nat.le_refl 3
  | .lock _ => Nat.le_succ 2
  | .cond _ _ => Nat.le_refl 3
  | .queue _ _ => Nat.le_refl 3
abbrev Sh := List (Addr × Thing)
def shV (sh : Sh) : List V := sh.map fun p => .ref p.1
def nms (sh : Sh) : List Str := sh.map fun p => p.2.name
/-- the things stand where they are said to -/
def ThAt (H : Hp) (sh : Sh) : Prop := ∀ p ∈ sh, H p.1 = some (.tup p.2.cells)
theorem ThAt.mono {H H' : Hp} {sh : Sh} (h : ThAt H sh) (t : Tups H H') : ThAt H' sh := fun p hp => t _ _ (h p hp)
/-- a good row of shared things -/
structure ShOk (H : Hp) (sh : Sh) : Prop where
  at_ : ThAt H sh
  nd : (nms sh).Nodup
  nb : bad ∉ nms sh
  len : sh.length ≤ 6
theorem ShOk.mono {H H' : Hp} {sh : Sh} (h : ShOk H sh) (t : Tups H H') : ShOk H' sh := ⟨h.at_.mono t, h.nd, h.nb, h.len⟩
theorem ThAt.snoc {H : Hp} {sh : Sh} {a : Addr} {t : Thing} (h : ThAt H sh) (ha : H a = some (.tup t.cells)) : ThAt H (sh ++ [(a, t)]) := fun p hp => by
  rcases List.mem_append.mp hp with hp | hp
  · exact h p hp
  · have e : p = (a, t) := by simpa using hp
    rw [e]
    exact ha
theorem nms_snoc (sh : Sh) (a : Addr) (t : Thing) : nms (sh ++ [(a, t)]) = nms sh ++ [t.name] := by
  unfold nms
  rw [List.map_append]
  rfl
theorem shV_snoc (sh : Sh) (a : Addr) (t : Thing) : shV (sh ++ [(a, t)]) = shV sh ++ [.ref a] := by
  unfold shV
  rw [List.map_append]
  rfl
theorem shV_length (sh : Sh) : (shV sh).length = sh.length := List.length_map _
theorem nms_length (sh : Sh) : (nms sh).length = sh.length := List.length_map _
theorem nodup_snoc {α : Type} {l : List α} {x : α} (h : l.Nodup) (hx : x ∉ l) : (l ++ [x]).Nodup := by
  rw [List.nodup_append]
  refine ⟨h, by simp, fun a ha b hb e => ?_⟩
  have eb : b = x := by simpa using hb
  rw [e, eb] at ha
  exact hx ha
/-- in, of texts -/
theorem inV_strs (s : Str) : ∀ ss : List Str, inV (.str s) (ss.map V.str) = decide (s ∈ ss)
  | [] => by simp [inV]
  | t :: r => by
    have ih := inV_strs s r
    unfold inV at ih ⊢
    rw [List.map_cons, List.any_cons, ih]
    have e : eqV (.str t) (.str s) = decide (s = t) := by
      show decide _ = _
      by_cases h : s = t
      · subst h
        simp
      · have h' : ¬ t = s := fun z => h z.symm
        simp [h, h']
    rw [e]
    by_cases h : s = t
    · simp [h]
    · simp [h]

/-! ### _law_shared -/
theorem scShared : FnScope ["_law_box", "_law_shared_here", "_law_names", "_law_locks", "_law_k", "_law_kind", "_law_name_here"] ["_law_box"] (defScope sShared) := ⟨rfl, rfl, rfl, by decide +kernel, rfl, by decide +kernel, by decide +kernel⟩
def spShared : Sp := fun vs H Q _ => ∃ b : Addr, vs = [.ref b] ∧ Box H b ∧ ∀ (l : Addr) (sh : Sh) (H' : Hp), Keep b H H' → H l = none → H' l = some (.lst (shV sh)) → ShOk H' sh → Q (.ref l) H'
/-- the three lists while the things are drawn -/
structure ShInv (b l1 l2 l3 : Addr) (H H3 : Hp) (i : Nat) (sh : Sh) (lk : List Str) : Prop where
  kp : Keep b H H3
  h1 : H3 l1 = some (.lst (shV sh))
  h2 : H3 l2 = some (.lst ((nms sh).map V.str))
  h3 : H3 l3 = some (.lst (lk.map V.str))
  at_ : ThAt H3 sh
  nd : (nms sh).Nodup
  nb : bad ∉ nms sh
  len : sh.length ≤ i
  len3 : lk.length ≤ i
section
variable {P : Program} {w : World} {K : PySem.W.Frag} {mg : Str → Option Value} {base : Heap}
theorem ok_shared {f fD fN : Addr} {fd fdD fdN : FuncData} (F : Fun K "_law_shared" "_law_shared" sShared f fd) (T : Zt mg)
    (C_law_draw : Ca P w K mg base CX0 1 "_law_draw" ["_law_box", "_law_many"] spDraw fD fdD) (C_law_name : Ca P w K mg base CX0 2 "_law_name" ["_law_box", "_law_taken"] spName fN fdN) : FnOk P w K mg base CX0 3 f fd ["_law_box"] spShared := by
  refine F.ok scShared (fun vs H Q E h => ?_) (fun cdv A outer s H vs Q E hr h => ?_)
  · obtain ⟨b, rfl, _⟩ := h
    rfl
  · obtain ⟨b, rfl, bx, q⟩ := h
    have hr1 : Room 1 _ := hr.mono (by decide)
    refine ⟨_, (pss_cons (ps_set (i := 1) scShared.nd rfl (.inl rfl) (pe_lst pa_nil))
      (pss_cons (ps_set (i := 2) scShared.nd rfl (.inl rfl) (pe_lst pa_nil))
      (pss_cons (ps_set (i := 3) scShared.nd rfl (.inl rfl) (pe_lst pa_nil))
      (pss_cons (ps_for PassesOwn.never rfl (pi_range1 (by rfl) T.z_range (pa_cons (pe_call C_law_draw.G hr1 (by rfl) C_law_draw.g C_law_draw.kp C_law_draw.b .nil pass0 (pa_cons (pv 0) (pa_cons pe_int pa_nil))) pa_nil)) (pg_name (i := 4) scShared.nd rfl (.inl rfl))
      (pss_cons (ps_set (i := 5) scShared.nd rfl (.inl rfl) (pe_call C_law_draw.G hr1 (by rfl) C_law_draw.g C_law_draw.kp C_law_draw.b .nil pass0 (pa_cons (pv 0) (pa_cons pe_int pa_nil))))
      (pss_cons (ps_set (i := 6) scShared.nd rfl (.inl rfl) (pe_call C_law_name.G hr (by rfl) C_law_name.g C_law_name.kp C_law_name.b .nil pass0 (pa_cons (pv 0) (pa_cons (pv 2) pa_nil))))
      (pss_one (ps_if (pt_cmpR op_notIn_seq (pv 6) (pv 2) rfl)
      (pss_cons (ps_expr (pe_bm PySem.F.plainAttrs_list PySem.F.slot_list_append PySem.F.type_list_append mt_append (pv 2) (pa_cons (pv 6) pa_nil)))
      (pss_one (ps_if (PW.pt (pw_or (pt_cmpR op_eq (pv 5) pe_int (nomark _)) (pw_or1 (PW.pt (pw_and (pt_cmpR op_eq (pv 5) pe_int (nomark _)) (pw_and1 (pt_cmpR op_eq (pe_callB call_len_seq (by rfl) T.z_len PySem.boot_len (pa_cons (pv 3) pa_nil)) pe_int (nomark _))))))))
      (pss_one (ps_expr (pe_bm PySem.F.plainAttrs_list PySem.F.slot_list_append PySem.F.type_list_append mt_append (pv 1) (pa_cons (pe_tup (pa_cons pe_str (pa_cons (pv 6) (pa_cons (pe_op op_sub (pe_call C_law_draw.G hr1 (by rfl) C_law_draw.g C_law_draw.kp C_law_draw.b .nil pass0 (pa_cons (pv 0) (pa_cons pe_int pa_nil))) pe_int) pa_nil)))) pa_nil))))
      (pss_one (ps_if (pt_cmpR op_eq (pv 5) pe_int (nomark _))
      (pss_cons (ps_expr (pe_bm PySem.F.plainAttrs_list PySem.F.slot_list_append PySem.F.type_list_append mt_append (pv 3) (pa_cons (pv 6) pa_nil)))
      (pss_one (ps_expr (pe_bm PySem.F.plainAttrs_list PySem.F.slot_list_append PySem.F.type_list_append mt_append (pv 1) (pa_cons (pe_tup (pa_cons pe_str (pa_cons (pv 6) pa_nil))) pa_nil)))))
      (pss_one (ps_if (pt_cmpR op_eq (pv 5) pe_int (nomark _))
      (pss_one (ps_expr (pe_bm PySem.F.plainAttrs_list PySem.F.slot_list_append PySem.F.type_list_append mt_append (pv 1) (pa_cons (pe_tup (pa_cons pe_str (pa_cons (pv 6) (pa_cons (pe_ix ix_list (pv 3) (pe_call C_law_draw.G hr1 (by rfl) C_law_draw.g C_law_draw.kp C_law_draw.b .nil pass0 (pa_cons (pv 0) (pa_cons (pe_callB call_len_seq (by rfl) T.z_len PySem.boot_len (pa_cons (pv 3) pa_nil)) pa_nil))) (fun _ _ => rfl)) pa_nil)))) pa_nil))))
      (pss_one (ps_expr (pe_bm PySem.F.plainAttrs_list PySem.F.slot_list_append PySem.F.type_list_append mt_append (pv 1) (pa_cons (pe_tup (pa_cons pe_str (pa_cons (pv 6) (pa_cons (pe_op op_add pe_int (pe_call C_law_draw.G hr1 (by rfl) C_law_draw.g C_law_draw.kp C_law_draw.b .nil pass0 (pa_cons (pv 0) (pa_cons pe_int pa_nil)))) pa_nil)))) pa_nil)))))))))))
      pss_nil)))))
      (pss_one (ps_ret (pv 1))))))), ?_⟩
    refine ⟨Nat.zero_le _, fun l1 n1 => ⟨Nat.zero_le _, fun l2 n2 => ⟨Nat.zero_le _, fun l3 n3 => ?_⟩⟩⟩
    have n21 : l2 ≠ l1 := fun z => by
      rw [z, upd_same] at n2
      cases n2
    have n2' : H l2 = none := by
      rw [upd_ne n21] at n2
      exact n2
    have n32 : l3 ≠ l2 := fun z => by
      rw [z, upd_same] at n3
      cases n3
    have n31 : l3 ≠ l1 := fun z => by
      rw [upd_ne n32, z, upd_same] at n3
      cases n3
    have n3' : H l3 = none := by
      rw [upd_ne n32, upd_ne n31] at n3
      exact n3
    have b1 := bx.ne_new n1
    have b2 := bx.ne_new n2'
    have b3 := bx.ne_new n3'
    have kp0 : Keep b H (upd (upd (upd H l1 (.lst [])) l2 (.lst [])) l3 (.lst [])) := (((Keep.refl b H).put bx n1).put bx n2').put bx n3'
    refine ⟨_, rfl, b, 7, rfl, by decide, kp0.box bx, fun m H2 m0 m7 bx2 kp2 => ?_⟩
    have start : ShInv b l1 l2 l3 H H2 0 [] [] := by
      refine ⟨kp0.trans kp2, kp2 l1 _ b1 ?_, kp2 l2 _ b2 ?_, kp2 l3 _ b3 upd_same, fun p hp => absurd hp List.not_mem_nil, List.nodup_nil, List.not_mem_nil, Nat.le_refl _, Nat.le_refl _⟩
      · rw [upd_ne (Ne.symm n31), upd_ne (Ne.symm n21), upd_same]
        rfl
      · rw [upd_ne (Ne.symm n32), upd_same]
        rfl
    refine ⟨m, rfl, by omega, by omega, for_range (lo := 0) (n := m.toNat) (fun i σ H3 => ∃ (y4 y5 y6 : Option V) (sh : Sh) (lk : List Str), σ = [some (.ref b), some (.ref l1), some (.ref l2), some (.ref l3), y4, y5, y6] ∧ ShInv b l1 l2 l3 H H3 i sh lk)
      ⟨none, none, none, [], [], rfl, start⟩ ?_ ?_⟩
    · rintro i σ H3 hi ⟨y4, y5, y6, sh, lk, rfl, J⟩
      have i6 : i < 6 := by omega
      refine ⟨_, rfl, b, 4, rfl, by decide, J.kp.box bx, fun k H4 k0 k4 bx4 kp4 => ?_⟩
      refine ⟨_, rfl, _, rfl, b, l2, nms sh, rfl, bx4, kp4 l2 _ b2 J.h2, fun s H5 bx5 kp5 hs => ?_⟩
      have kp35 := kp4.trans kp5
      have t35 : Tups H3 H5 := Tups.keep (J.kp.box bx) kp35
      have J5 : ShInv b l1 l2 l3 H H5 i sh lk := ⟨J.kp.trans kp35, kp35 l1 _ b1 J.h1, kp35 l2 _ b2 J.h2, kp35 l3 _ b3 J.h3, J.at_.mono t35, J.nd, J.nb, J.len, J.len3⟩
      have up : ∀ {Hz : Hp}, ShInv b l1 l2 l3 H Hz i sh lk → ShInv b l1 l2 l3 H Hz (i + 1) sh lk := fun J => ⟨J.kp, J.h1, J.h2, J.h3, J.at_, J.nd, J.nb, Nat.le_succ_of_le J.len, Nat.le_succ_of_le J.len3⟩
      refine ⟨_, rfl, _, rfl, l2, _, rfl, .inl (.of J5.h2), rfl, strs_flat _, _, rfl, ?_⟩
      show if (!inV (.str s) ((nms sh).map V.str)) = true then _ else _
      rw [inV_strs]
      refine ite2 (fun c => ?_) (fun _ => ⟨_, _, _, sh, lk, rfl, up J5⟩)
      have hnew : s ∉ nms sh := by simpa using c
      -- names.append(name)
      refine ⟨_, rfl, .inl ⟨rfl, _, .of J5.h2⟩, _, rfl, l2, _, _, rfl, rfl, J5.h2, ?_, ?_⟩
      · rw [List.length_map, nms_length]
        exact small1000 (by have := J5.len; omega)
      -- behind it: the list of names is ahead by one
      have end_ : ∀ {H6 : Hp} {a : Addr} {t : Thing} {lk' : List Str} {y : V}, t.name = s → Keep b H H6 → H6 l1 = some (.lst (shV sh ++ [.ref a])) → H6 l2 = some (.lst ((nms sh).map V.str ++ [.str s])) → H6 l3 = some (.lst (lk'.map V.str)) → ThAt H6 sh → H6 a = some (.tup t.cells) → lk'.length ≤ i + 1 →
          ShInv b l1 l2 l3 H H6 (i + 1) (sh ++ [(a, t)]) lk' := by
        intro H6 a t lk' y et kp6 e1 e2 e3 at6 ea e7
        refine ⟨kp6, ?_, ?_, e3, at6.snoc ea, ?_, ?_, ?_, e7⟩
        · rw [shV_snoc]
          exact e1
        · rw [nms_snoc, List.map_append, et]
          exact e2
        · rw [nms_snoc, et]
          exact nodup_snoc J.nd hnew
        · rw [nms_snoc, et]
          intro z
          rcases List.mem_append.mp z with z | z
          · exact J.nb z
          · have ez : bad = s := by simpa using z
            exact hs ez.symm
        · rw [List.length_append]
          have := J.len
          show sh.length + 1 ≤ i + 1
          omega
      have kp6 : Keep b H (upd H5 l2 (.lst ((nms sh).map V.str ++ [.str s]))) := J5.kp.put bx n2'
      have g1 : upd H5 l2 (.lst ((nms sh).map V.str ++ [.str s])) l1 = some (.lst (shV sh)) := by
        rw [upd_ne (Ne.symm n21)]
        exact J5.h1
      have g3 : upd H5 l2 (.lst ((nms sh).map V.str ++ [.str s])) l3 = some (.lst (lk.map V.str)) := by
        rw [upd_ne n32]
        exact J5.h3
      have gt : Tups H5 (upd H5 l2 (.lst ((nms sh).map V.str ++ [.str s]))) := fun a xs e => by
        rw [upd_ne]
        · exact e
        · intro z
          rw [z, J5.h2] at e
          cases e
      -- a thing is laid: shared.append(thing)
      have put : ∀ {H7 : Hp} {t : Thing} {lk' : List Str} {k : Int}, t.name = s → Keep b H H7 → H7 l1 = some (.lst (shV sh)) → H7 l2 = some (.lst ((nms sh).map V.str ++ [.str s])) → H7 l3 = some (.lst (lk'.map V.str)) → ThAt H7 sh → lk'.length ≤ i + 1 →
          t.cells.length ≤ sizeLine ∧ ∀ p, H7 p = none → rAppend (.ref l1) [.ref p] (upd H7 p (.tup t.cells)) (fun _ H' => ∃ y4 y5 y6 sh lk,
            [some (V.ref b), some (.ref l1), some (.ref l2), some (.ref l3), some (.int (0 + (i : Int))), some (.int k), some (.str s)] = [some (.ref b), some (.ref l1), some (.ref l2), some (.ref l3), y4, y5, y6] ∧ ShInv b l1 l2 l3 H H' (i + 1) sh lk) := by
        intro H7 t lk' k et kp7 e1 e2 e3 at7 e7
        refine ⟨?_, fun p np => ?_⟩
        · exact Nat.le_trans t.cells_le (by decide)
        · have np' : H p = none := by
            cases z : H p with
            | none => rfl
            | some o =>
              by_cases hb : p = b
              · have zb := kp7.box bx
                exact absurd hb (zb.ne_new np)
              · rw [kp7 p o hb z] at np
                cases np
          refine ⟨l1, _, _, rfl, rfl, (by rw [upd_ne (ne_of_none e1 np)]; exact e1), ?_, _, _, _, _, lk', rfl, end_ (y := .non) et ?_ upd_same ?_ ?_ ?_ ?_ e7⟩
          · rw [shV_length]
            exact small1000 (by have := J.len; omega)
          · exact (kp7.put bx np').put bx n1
          · rw [upd_ne n21, upd_ne (ne_of_none e2 np)]
            exact e2
          · rw [upd_ne n31, upd_ne (ne_of_none e3 np)]
            exact e3
          · intro x hx
            rw [upd_ne, upd_ne (ne_of_none (at7 x hx) np)]
            · exact at7 x hx
            · intro z
              have y := at7 x hx
              rw [z, e1] at y
              cases y
          · rw [upd_ne, upd_same]
            exact (ne_of_none e1 np).symm
      -- a draw ahead of the thing
      have drw : ∀ {H6 H7 : Hp} {lk' : List Str}, Keep b H H6 → Keep b H6 H7 → H6 l1 = some (.lst (shV sh)) → H6 l2 = some (.lst ((nms sh).map V.str ++ [.str s])) → H6 l3 = some (.lst (lk'.map V.str)) → ThAt H6 sh →
          Keep b H H7 ∧ H7 l1 = some (.lst (shV sh)) ∧ H7 l2 = some (.lst ((nms sh).map V.str ++ [.str s])) ∧ H7 l3 = some (.lst (lk'.map V.str)) ∧ ThAt H7 sh := fun a c e1 e2 e3 e4 =>
        ⟨a.trans c, c l1 _ b1 e1, c l2 _ b2 e2, c l3 _ b3 e3, e4.mono (Tups.keep (a.box bx) c)⟩
      have at6 : ThAt (upd H5 l2 (.lst ((nms sh).map V.str ++ [.str s]))) sh := J5.at_.mono gt
      have len3 : lk.length ≤ i + 1 := Nat.le_succ_of_le J.len3
      refine ⟨_, rfl, rfl, _, rfl, ite2 (fun _ => iteT ?_) (fun _ => ?_)⟩
      · -- a variable
        refine ⟨_, rfl, .inl ⟨rfl, _, .of g1⟩, _, rfl, _, rfl, b, 199, rfl, by decide, kp6.box bx, fun v H7 v0 v9 bx7 kp7 => ⟨_, _, rfl, rfl, ?_⟩⟩
        obtain ⟨a1, a2, a3, a4, a5⟩ := drw kp6 kp7 g1 upd_same g3 at6
        exact put (t := .var s (v - 99)) rfl a1 a2 a3 a4 a5 len3
      refine ⟨_, rfl, rfl, _, rfl, ite2 (fun c2 => ⟨_, rfl, l3, _, rfl, .inl (.of g3), rfl, _, rfl, ite2 (fun _ => ?_) (fun hn => ?_)⟩) (fun c2 => iteF ?_)⟩
      · -- a variable, for want of a lock
        refine ⟨_, rfl, .inl ⟨rfl, _, .of g1⟩, _, rfl, _, rfl, b, 199, rfl, by decide, kp6.box bx, fun v H7 v0 v9 bx7 kp7 => ⟨_, _, rfl, rfl, ?_⟩⟩
        obtain ⟨a1, a2, a3, a4, a5⟩ := drw kp6 kp7 g1 upd_same g3 at6
        exact put (t := .var s (v - 99)) rfl a1 a2 a3 a4 a5 len3
      all_goals
        have hc : k = 2 → 0 < lk.length := by
          intro hk
          first
          | (refine Nat.pos_of_ne_zero fun z => hn (decide_eq_true ?_)
             rw [List.length_map, z]
             rfl)
          | exact absurd (decide_eq_true (by rw [hk])) c2
        refine ⟨_, rfl, rfl, _, rfl, ite2 (fun _ => ?_) (fun _ => ?_)⟩
        · -- a lock
          refine ⟨_, rfl, .inl ⟨rfl, _, .of g3⟩, _, rfl, l3, _, _, rfl, rfl, g3, ?_, ?_⟩
          · rw [List.length_map]
            exact small1000 (by have := J.len3; omega)
          · have e1 : upd (upd H5 l2 (.lst ((nms sh).map V.str ++ [.str s]))) l3 (.lst (lk.map V.str ++ [.str s])) l1 = some (.lst (shV sh)) := by
              rw [upd_ne (Ne.symm n31)]
              exact g1
            have e2 : upd (upd H5 l2 (.lst ((nms sh).map V.str ++ [.str s]))) l3 (.lst (lk.map V.str ++ [.str s])) l2 = some (.lst ((nms sh).map V.str ++ [.str s])) := by
              rw [upd_ne (Ne.symm n32)]
              exact upd_same
            have e3 : upd (upd H5 l2 (.lst ((nms sh).map V.str ++ [.str s]))) l3 (.lst (lk.map V.str ++ [.str s])) l3 = some (.lst ((lk ++ [s]).map V.str)) := by
              rw [upd_same, List.map_append]
              rfl
            refine ⟨_, rfl, .inl ⟨rfl, _, .of e1⟩, _, rfl, put (t := .lock s) (lk' := lk ++ [s]) rfl (kp6.put bx n3') e1 e2 e3 (at6.mono fun a xs e => ?_) ?_⟩
            · rw [upd_ne]
              · exact e
              · intro z
                rw [z, g3] at e
                cases e
            · rw [List.length_append]
              have := J.len3
              show lk.length + 1 ≤ i + 1
              omega
        refine ⟨_, rfl, rfl, _, rfl, ite2 (fun c3 => ?_) (fun _ => ?_)⟩
        · -- a condition
          have hk2 : k = 2 := V.int.inj (of_decide_eq_true c3)
          have hpos : (0 : Int) < ((lk.map V.str).length : Nat) := by
            rw [List.length_map]
            exact Int.ofNat_lt.mpr (hc hk2)
          refine ⟨_, rfl, .inl ⟨rfl, _, .of g1⟩, _, rfl, _, rfl, _, rfl, _, rfl, l3, _, rfl, .inl (.of g3), b, _, rfl, hpos, kp6.box bx, fun v H7 v0 v9 bx7 kp7 => ?_⟩
          obtain ⟨a1, a2, a3, a4, a5⟩ := drw kp6 kp7 g1 upd_same g3 at6
          obtain ⟨c, hcm, hat⟩ := at_in (xs := lk.map V.str) v0 v9
          obtain ⟨l, _, rfl⟩ := List.mem_map.mp hcm
          exact ⟨l3, _, v, _, rfl, rfl, .of a4, hat, put (t := .cond s l) rfl a1 a2 a3 a4 a5 len3⟩
        · -- a queue
          refine ⟨_, rfl, .inl ⟨rfl, _, .of g1⟩, _, rfl, _, rfl, b, 3, rfl, by decide, kp6.box bx, fun v H7 v0 v9 bx7 kp7 => ⟨_, _, rfl, rfl, ?_⟩⟩
          obtain ⟨a1, a2, a3, a4, a5⟩ := drw kp6 kp7 g1 upd_same g3 at6
          exact put (t := .queue s (1 + v)) rfl a1 a2 a3 a4 a5 len3
    · rintro σ H3 ⟨y4, y5, y6, sh, lk, rfl, J⟩
      exact ⟨_, rfl, q l1 sh H3 J.kp n1 J.h1 ⟨J.at_, J.nd, J.nb, by have := J.len; omega⟩⟩
end
end Fst

/-! The names of a kind; the lock of a condition. -/
namespace Fst
open PySem PySem.Spec PyProof.Rows L2

/-- the names of a kind, in order -/
def nmsK (kd : Str) : Sh → List Str
  | [] => []
  | p :: r => if p.2.kind = kd then p.2.name :: nmsK kd r else nmsK kd r
theorem nmsK_app (kd : Str) (r : Sh) : ∀ l : Sh, nmsK kd (l ++ r) = nmsK kd l ++ nmsK kd r
  | [] => rfl
  | p :: l => by
    show (if p.2.kind = kd then p.2.name :: nmsK kd (l ++ r) else nmsK kd (l ++ r)) = (if p.2.kind = kd then p.2.name :: nmsK kd l else nmsK kd l) ++ nmsK kd r
    rw [nmsK_app kd r l]
    by_cases h : p.2.kind = kd
    · rw [if_pos h, if_pos h]
      rfl
    · rw [if_neg h, if_neg h]
theorem nmsK_le (kd : Str) : ∀ l : Sh, (nmsK kd l).length ≤ l.length
  | [] => Nat.le_refl 0
  | p :: l => by
    have ih := nmsK_le kd l
    show (if p.2.kind = kd then p.2.name :: nmsK kd l else nmsK kd l).length ≤ l.length + 1
    by_cases h : p.2.kind = kd
    · rw [if_pos h]
      exact Nat.succ_le_succ ih
    · rw [if_neg h]
      exact Nat.le_succ_of_le ih
theorem nmsK_yes {kd : Str} {l : Sh} {i : Nat} {p : Addr × Thing} (h : l[i]? = some p) (hk : p.2.kind = kd) : nmsK kd (l.take (i + 1)) = nmsK kd (l.take i) ++ [p.2.name] := by
  rw [List.take_add_one, h, nmsK_app]
  show _ ++ (if p.2.kind = kd then [p.2.name] else []) = _
  rw [if_pos hk]
theorem nmsK_no {kd : Str} {l : Sh} {i : Nat} {p : Addr × Thing} (h : l[i]? = some p) (hk : ¬ p.2.kind = kd) : nmsK kd (l.take (i + 1)) = nmsK kd (l.take i) := by
  rw [List.take_add_one, h, nmsK_app]
  show _ ++ (if p.2.kind = kd then [p.2.name] else []) = _
  rw [if_neg hk, List.append_nil]
theorem shV_at {sh : Sh} {i : Nat} {x : V} (h : (shV sh)[i]? = some x) : ∃ p, sh[i]? = some p ∧ x = .ref p.1 ∧ p ∈ sh := by
  unfold shV at h
  rw [List.getElem?_map] at h
  cases e : sh[i]? with
  | none =>
    rw [e] at h
    cases h
  | some p =>
    rw [e] at h
    exact ⟨p, rfl, (Option.some.inj h).symm, List.mem_of_getElem? e⟩
theorem dec_str2 {a b : Str} (h : decide (V.str a = V.str b) = true) : a = b := V.str.inj (of_decide_eq_true h)
theorem dec_str3 {a b : Str} (h : ¬ decide (V.str a = V.str b) = true) : ¬ a = b := fun z => h (decide_eq_true (congrArg V.str z))

/-- one turn of such a comprehension -/
theorem lc_step {K : PySem.W.Frag} {H H3 : Hp} {sh : Sh} {kd : Str} {D : Addr} {i : Nat} {p : Addr × Thing} (nD : H D = none) (hs : Same H H3) (hD : H3 D = some (.lst ((nmsK kd (sh.take i)).map V.str))) (hp : sh[i]? = some p) (hk : p.2.kind = kd) :
    Same H (upd H3 D (.lst ((nmsK kd (sh.take i)).map V.str ++ [.str p.2.name]))) ∧ upd H3 D (.lst ((nmsK kd (sh.take i)).map V.str ++ [.str p.2.name])) D = some (.lst ((nmsK kd (sh.take (i + 1))).map V.str)) := by
  refine ⟨fun b o e => ?_, ?_⟩
  · rw [upd_ne (ne_of_none e nD)]
    exact hs b o e
  · rw [upd_same, nmsK_yes hp hk, List.map_append]
    rfl
theorem take_le {sh : Sh} (kd : Str) (i : Nat) (h : sh.length ≤ 6) : ((nmsK kd (sh.take i)).map V.str).length < sizeLine := by
  rw [List.length_map]
  refine small1000 ?_
  have h1 := nmsK_le kd (sh.take i)
  rw [List.length_take] at h1
  omega

/-- a program's shared things -/
structure PgS (H : Hp) (p : Addr) (sh : Sh) : Prop where
  ex : ∃ sa ta : Addr, H p = some (.tup [.ref sa, .ref ta]) ∧ H sa = some (.tup (shV sh))
  ok : ShOk H sh
theorem PgS.mono {H H' : Hp} {p : Addr} {sh : Sh} (h : PgS H p sh) (t : Tups H H') : PgS H' p sh := by
  obtain ⟨sa, ta, h1, h2⟩ := h.ex
  exact ⟨⟨sa, ta, t _ _ h1, t _ _ h2⟩, h.ok.mono t⟩

theorem scOfK : FnScope ["_law_shared_here", "_law_kind", "_law_thing_here"] ["_law_shared_here", "_law_kind"] (defScope sOfK) := ⟨rfl, rfl, rfl, by decide +kernel, rfl, by decide +kernel, by decide +kernel⟩
theorem scNames : FnScope ["program", "kind", "thing"] ["program", "kind"] (defScope sNames) := ⟨rfl, rfl, rfl, by decide +kernel, rfl, by decide +kernel, by decide +kernel⟩
theorem scLNames : FnScope ["_law_program_here", "_law_kind", "_law_thing_here"] ["_law_program_here", "_law_kind"] (defScope sLNames) := ⟨rfl, rfl, rfl, by decide +kernel, rfl, by decide +kernel, by decide +kernel⟩
theorem scLock : FnScope ["program", "cond", "thing"] ["program", "cond"] (defScope sLock) := ⟨rfl, rfl, rfl, by decide +kernel, rfl, by decide +kernel, by decide +kernel⟩
def spOfK : Sp := fun vs H Q _ => ∃ (l : Addr) (kd : Str) (sh : Sh), vs = [.ref l, .str kd] ∧ H l = some (.lst (shV sh)) ∧ ThAt H sh ∧ sh.length ≤ 6 ∧ ∀ (p : Addr) (H' : Hp), Same H H' → H p = none → H' p = some (.lst ((nmsK kd sh).map V.str)) → Q (.ref p) H'
def spNames : Sp := fun vs H Q _ => ∃ (a : Addr) (kd : Str) (sh : Sh), vs = [.ref a, .str kd] ∧ PgS H a sh ∧ ∀ (p : Addr) (H' : Hp), Same H H' → H p = none → H' p = some (.tup ((nmsK kd sh).map V.str)) → Q (.ref p) H'
def spLNames : Sp := fun vs H Q _ => ∃ (a : Addr) (kd : Str) (sh : Sh), vs = [.ref a, .str kd] ∧ PgS H a sh ∧ ∀ (p : Addr) (H' : Hp), Same H H' → H p = none → H' p = some (.lst ((nmsK kd sh).map V.str)) → Q (.ref p) H'
def spLock : Sp := fun vs H Q _ => ∃ (a x : Addr) (c l : Str) (sh : Sh), vs = [.ref a, .str c] ∧ PgS H a sh ∧ (x, Thing.cond c l) ∈ sh ∧ Q (.str l) H
section
variable {P : Program} {w : World} {K : PySem.W.Frag} {mg : Str → Option Value} {base : Heap}
theorem ok_ofk {f : Addr} {fd : FuncData} (F : Fun K "_law_of_kind" "_law_of_kind" sOfK f fd) : FnOk P w K mg base CX0 1 f fd ["_law_shared_here", "_law_kind"] spOfK := by
  refine F.ok scOfK (fun vs H Q E h => ?_) (fun cdv A outer s H vs Q E hr h => ?_)
  · obtain ⟨l, kd, sh, rfl, _⟩ := h
    rfl
  · obtain ⟨l, kd, sh, rfl, hl, ht, h6, q⟩ := h
    refine ⟨_, (pss_one (ps_ret (pe_lc (own := [("_law_thing_here", 2)]) (g := gName 2) rfl scOfK.nd (pi_list (pv 0)) (blkOk_by (N := ["_law_shared_here", "_law_kind", "_law_thing_here"]) (sc := defScope sOfK) (by decide +kernel)) (fun _ _ _ _ _ => pg_name (i := 2) scOfK.nd rfl (.inl rfl)) (fun _ _ _ _ _ => pts_one (pt_cmpR op_eq (pe_ix (r := rIxT K) ix_tup (pv 2) pe_int (fun _ _ => rfl)) (pv 1) (nomark _))) (fun _ _ _ _ _ => (pe_ix (r := rIxT K) ix_tup (pv 2) pe_int (fun _ _ => rfl)))))), ?_⟩
    refine ⟨_, rfl, l, rfl, ⟨_, .of hl⟩, fun D nD => lc_list (K := K) (a := l) (xs := shV sh) (fun i H3 => Same H H3 ∧ H3 D = some (.lst ((nmsK kd (sh.take i)).map V.str))) ⟨same_upd nD, upd_same⟩ (fun i H3 _ z => z.1.seq (.of hl)) ?_ ?_⟩
    · rintro i x H3 hx ⟨hs, hD⟩
      obtain ⟨p, hp, rfl, hm⟩ := shV_at hx
      have hc := hs _ _ (ht p hm)
      refine ⟨rfl, _, rfl, p.1, _, 0, _, rfl, rfl, .of hc, atI_nat (j := 0) rfl, _, rfl, rfl, _, rfl, ite2 (fun c => ?_) (fun c => ?_)⟩
      · refine ⟨_, rfl, p.1, _, 1, _, rfl, rfl, .of hc, atI_nat (j := 1) rfl, _, hD, take_le kd i h6, lc_step (K := K) nD hs hD hp (dec_str2 c)⟩
      · exact ⟨hs, by rw [nmsK_no hp (dec_str3 c)]; exact hD⟩
    · rintro H3 ⟨hs, hD⟩
      rw [shV_length, List.take_length] at hD
      exact q D H3 hs nD hD
theorem ok_names {f : Addr} {fd : FuncData} (F : Fun K "names_of" "names_of" sNames f fd) (T : Zt mg) : FnOk P w K mg base CX0 1 f fd ["program", "kind"] spNames := by
  refine F.ok scNames (fun vs H Q E h => ?_) (fun cdv A outer s H vs Q E hr h => ?_)
  · obtain ⟨a, kd, sh, rfl, _⟩ := h
    rfl
  · obtain ⟨a, kd, sh, rfl, pg, q⟩ := h
    obtain ⟨sa, ta, h1, h2⟩ := pg.ex
    refine ⟨_, (pss_one (ps_ret (pe_callTy call_tuple_of (by rfl) T.z_tuple (by decide +kernel) (pa_cons (pe_lc (own := [("thing", 2)]) (g := gName 2) rfl scNames.nd (pi_tup (pe_ix ix_tup (pv 0) pe_int (fun _ _ => rfl))) (blkOk_by (N := ["program", "kind", "thing"]) (sc := defScope sNames) (by decide +kernel)) (fun _ _ _ _ _ => pg_name (i := 2) scNames.nd rfl (.inl rfl)) (fun _ _ _ _ _ => pts_one (pt_cmpR op_eq (pe_ix (r := rIxT K) ix_tup (pv 2) pe_int (fun _ _ => rfl)) (pv 1) (nomark _))) (fun _ _ _ _ _ => (pe_ix (r := rIxT K) ix_tup (pv 2) pe_int (fun _ _ => rfl)))) pa_nil)))), ?_⟩
    refine ⟨_, rfl, a, _, 0, .ref sa, rfl, rfl, .of h1, atI_nat (j := 0) rfl, sa, rfl, ⟨_, .of h2⟩, fun D nD => lc_tup (K := K) (a := sa) (xs := shV sh) (fun i H3 => Same H H3 ∧ H3 D = some (.lst ((nmsK kd (sh.take i)).map V.str))) ⟨same_upd nD, upd_same⟩ (fun i H3 _ z => .of (z.1 _ _ h2)) ?_ ?_⟩
    · rintro i x H3 hx ⟨hs, hD⟩
      obtain ⟨p, hp, rfl, hm⟩ := shV_at hx
      have hc := hs _ _ (pg.ok.at_ p hm)
      refine ⟨rfl, _, rfl, p.1, _, 0, _, rfl, rfl, .of hc, atI_nat (j := 0) rfl, _, rfl, rfl, _, rfl, ite2 (fun c => ?_) (fun c => ?_)⟩
      · refine ⟨_, rfl, p.1, _, 1, _, rfl, rfl, .of hc, atI_nat (j := 1) rfl, _, hD, take_le kd i pg.ok.len, lc_step (K := K) nD hs hD hp (dec_str2 c)⟩
      · exact ⟨hs, by rw [nmsK_no hp (dec_str3 c)]; exact hD⟩
    · rintro H3 ⟨hs, hD⟩
      rw [shV_length, List.take_length] at hD
      refine ⟨D, _, rfl, .inl ⟨.of hD, fun p np => q p _ (hs.trans (same_upd np)) (hs.free np) upd_same⟩⟩
theorem ok_lnames {f : Addr} {fd : FuncData} (F : Fun K "_law_names_of" "_law_names_of" sLNames f fd) : FnOk P w K mg base CX0 1 f fd ["_law_program_here", "_law_kind"] spLNames := by
  refine F.ok scLNames (fun vs H Q E h => ?_) (fun cdv A outer s H vs Q E hr h => ?_)
  · obtain ⟨a, kd, sh, rfl, _⟩ := h
    rfl
  · obtain ⟨a, kd, sh, rfl, pg, q⟩ := h
    obtain ⟨sa, ta, h1, h2⟩ := pg.ex
    refine ⟨_, (pss_one (ps_ret (pe_lc (own := [("_law_thing_here", 2)]) (g := gName 2) rfl scLNames.nd (pi_tup (pe_ix ix_tup (pv 0) pe_int (fun _ _ => rfl))) (blkOk_by (N := ["_law_program_here", "_law_kind", "_law_thing_here"]) (sc := defScope sLNames) (by decide +kernel)) (fun _ _ _ _ _ => pg_name (i := 2) scLNames.nd rfl (.inl rfl)) (fun _ _ _ _ _ => pts_one (pt_cmpR op_eq (pe_ix (r := rIxT K) ix_tup (pv 2) pe_int (fun _ _ => rfl)) (pv 1) (nomark _))) (fun _ _ _ _ _ => (pe_ix (r := rIxT K) ix_tup (pv 2) pe_int (fun _ _ => rfl)))))), ?_⟩
    refine ⟨_, rfl, a, _, 0, .ref sa, rfl, rfl, .of h1, atI_nat (j := 0) rfl, sa, rfl, ⟨_, .of h2⟩, fun D nD => lc_tup (K := K) (a := sa) (xs := shV sh) (fun i H3 => Same H H3 ∧ H3 D = some (.lst ((nmsK kd (sh.take i)).map V.str))) ⟨same_upd nD, upd_same⟩ (fun i H3 _ z => .of (z.1 _ _ h2)) ?_ ?_⟩
    · rintro i x H3 hx ⟨hs, hD⟩
      obtain ⟨p, hp, rfl, hm⟩ := shV_at hx
      have hc := hs _ _ (pg.ok.at_ p hm)
      refine ⟨rfl, _, rfl, p.1, _, 0, _, rfl, rfl, .of hc, atI_nat (j := 0) rfl, _, rfl, rfl, _, rfl, ite2 (fun c => ?_) (fun c => ?_)⟩
      · refine ⟨_, rfl, p.1, _, 1, _, rfl, rfl, .of hc, atI_nat (j := 1) rfl, _, hD, take_le kd i pg.ok.len, lc_step (K := K) nD hs hD hp (dec_str2 c)⟩
      · exact ⟨hs, by rw [nmsK_no hp (dec_str3 c)]; exact hD⟩
    · rintro H3 ⟨hs, hD⟩
      rw [shV_length, List.take_length] at hD
      exact q D H3 hs nD hD
/-- two things of one name are one -/
theorem same_name {sh : Sh} (nd : (nms sh).Nodup) {i j : Nat} {p q : Addr × Thing} (hi : sh[i]? = some p) (hj : sh[j]? = some q) (e : p.2.name = q.2.name) : i = j := by
  refine nd_ix nd (x := p.2.name) ?_ ?_
  · unfold nms
    rw [List.getElem?_map, hi]
    rfl
  · unfold nms
    rw [List.getElem?_map, hj, e]
    rfl
theorem ok_lock {f : Addr} {fd : FuncData} (F : Fun K "lock_of" "lock_of" sLock f fd) : FnOk P w K mg base CX0 1 f fd ["program", "cond"] spLock := by
  refine F.ok scLock (fun vs H Q E h => ?_) (fun cdv A outer s H vs Q E hr h => ?_)
  · obtain ⟨a, x, c, l, sh, rfl, _⟩ := h
    rfl
  · obtain ⟨a, x, c, l, sh, rfl, pg, hx, q⟩ := h
    obtain ⟨sa, ta, h1, h2⟩ := pg.ex
    obtain ⟨j, hj⟩ := List.getElem?_of_mem hx
    refine ⟨_, (pss_cons (ps_for PassesOwn.never rfl (pi_tup (pe_ix ix_tup (pv 0) pe_int (fun _ _ => rfl))) (pg_name (i := 2) scLock.nd rfl (.inl rfl))
      (pss_one (ps_if (PW.pt (pw_and (pt_cmpR op_eq (pe_ix ix_tup (pv 2) pe_int (fun _ _ => rfl)) pe_str (nomark _)) (pw_and1 (pt_cmpR op_eq (pe_ix ix_tup (pv 2) pe_int (fun _ _ => rfl)) (pv 1) (nomark _)))))
      (pss_one (ps_ret (pe_ix ix_tup (pv 2) pe_int (fun _ _ => rfl))))
      pss_nil)))
      (pss_one ps_never)), ?_⟩
    refine ⟨_, rfl, a, _, 0, .ref sa, rfl, rfl, .of h1, atI_nat (j := 0) rfl, sa, rfl, ⟨_, .of h2⟩, for_tup (K := K) (a := sa) (xs := shV sh) (fun i σ H3 => (∃ y, σ = [some (.ref a), some (.str c), y]) ∧ H3 = H ∧ i ≤ j) ⟨⟨none, rfl⟩, rfl, Nat.zero_le _⟩ (fun i σ H3 _ z => by rw [z.2.1]; exact .of h2) ?_ ?_⟩
    · rintro i y σ H3 hy ⟨⟨y2, rfl⟩, rfl, hij⟩
      obtain ⟨p, hp, rfl, hm⟩ := shV_at hy
      have hc := pg.ok.at_ p hm
      refine ⟨_, rfl, p.1, _, 0, _, rfl, rfl, .of hc, atI_nat (j := 0) rfl, rfl, _, rfl, ?_⟩
      have other : ¬ p.2.name = c → i + 1 ≤ j := fun z => by
        refine Nat.lt_of_le_of_ne hij fun e => ?_
        rw [e, hj] at hp
        cases hp
        exact z rfl
      refine ite2 (fun _ => ?_) (fun hk => iteF ⟨⟨_, rfl⟩, rfl, ?_⟩)
      · refine ⟨_, rfl, p.1, _, 1, _, rfl, rfl, .of hc, atI_nat (j := 1) rfl, _, rfl, rfl, _, rfl, ite2 (fun hn => ?_) (fun hn => ⟨⟨_, rfl⟩, rfl, other (dec_str3 hn)⟩)⟩
        have e := same_name pg.ok.nd hp hj (dec_str2 hn)
        rw [e, hj] at hp
        cases hp
        exact ⟨_, rfl, x, _, 2, .str l, rfl, rfl, .of hc, atI_nat (j := 2) rfl, q⟩
      · refine Nat.lt_of_le_of_ne hij fun e => ?_
        rw [e, hj] at hp
        cases hp
        exact dec_str3 hk rfl
    · rintro σ H3 ⟨_, rfl, hij⟩
      have hlt : j < sh.length := (List.getElem?_eq_some_iff.mp hj).1
      rw [shV_length] at hij
      omega
end
end Fst

/-! Drawn instructions. -/
namespace Fst
open PySem PySem.Spec PyProof.Rows L2

/-- an instruction's tuple, by its kinds -/
inductive InsOk (H : Hp) : List V → Prop
  | two (k : Str) (x t : V) : k ∈ (["let", "go"] : List Str) → Flat x → Eq2 3 H t t → InsOk H [.str k, x, t]
  | put (k n : Str) (t : V) : k ∈ (["put", "add", "send"] : List Str) → Eq2 3 H t t → InsOk H [.str k, .str n, t]
  | chk (t : V) : Eq2 3 H t t → InsOk H [.str "check", t]
  | get (k : Str) (x n : Str) : k ∈ (["get", "take"] : List Str) → InsOk H [.str k, .str x, .str n]
  | one (k n : Str) : k ∈ (["lock", "unlock", "wait", "notify", "notifyall"] : List Str) → InsOk H [.str k, .str n]
  | bare (k : Str) : k ∈ (["stop", "begin", "end"] : List Str) → InsOk H [.str k]
theorem InsOk.mono {H H' : Hp} {cs : List V} (h : InsOk H cs) (t : Tups H H') : InsOk H' cs := by
  cases h with
  | two k x v hk hx hv => exact .two k x v hk hx (hv.mono t)
  | put k n v hk hv => exact .put k n v hk (hv.mono t)
  | chk v hv => exact .chk v (hv.mono t)
  | get k x n hk => exact .get k x n hk
  | one k n hk => exact .one k n hk
  | bare k hk => exact .bare k hk
theorem Box.ne_sh {H : Hp} {b x : Addr} {sh : Sh} (h : Box H b) (hx : H x = some (.lst (shV sh))) : x ≠ b := h.ne hx fun dg n z => by
  have e := HO.lst.inj z
  cases sh with
  | nil => cases e
  | cons p r =>
    cases r with
    | nil => cases e
    | cons p2 r2 => cases e

/-! ### written pairs of texts in a list -/
theorem pa_imp {X : Cx} {es : List Expr} {t t' : TA} (h : PA X es t) (hi : ∀ σ H Q, t' σ H Q → t σ H Q) : PA X es t' := ⟨fun pos pins s σ H Q I hw => h.run pos pins s σ H Q I (hi σ H Q hw)⟩
def pairOf : Expr → Option (Str × Str)
  | .Tuple [.Constant (.str x) _ _, .Constant (.str y) _ _] _ _ => some (x, y)
  | _ => none
/-- new tuples, one a pair -/
def PairsAt (H : Hp) : List Addr → List (Str × Str) → Prop
  | [], [] => True
  | a :: as, p :: ps => H a = some (.tup [.str p.1, .str p.2]) ∧ PairsAt H as ps
  | _, _ => False
theorem PairsAt.mono {H H' : Hp} (t : Tups H H') : ∀ {as : List Addr} {ps : List (Str × Str)}, PairsAt H as ps → PairsAt H' as ps
  | [], [], h => h
  | _ :: _, _ :: _, h => ⟨t _ _ h.1, h.2.mono t⟩
  | [], _ :: _, h => h.elim
  | _ :: _, [], h => h.elim
theorem PairsAt.get {H : Hp} : ∀ {as : List Addr} {ps : List (Str × Str)} {i : Nat} {a : Addr}, PairsAt H as ps → as[i]? = some a → ∃ p, p ∈ ps ∧ H a = some (.tup [.str p.1, .str p.2])
  | [], [], i, a, _, e => by simp at e
  | a :: as, p :: ps, 0, b, h, e => by
    have e' : a = b := Option.some.inj e
    subst e'
    exact ⟨p, List.mem_cons_self, h.1⟩
  | a :: as, p :: ps, i + 1, b, h, e => by
    obtain ⟨q, hq, hb⟩ := h.2.get (i := i) (a := b) e
    exact ⟨q, List.mem_cons_of_mem _ hq, hb⟩
  | [], _ :: _, _, _, h, _ => h.elim
  | _ :: _, [], _, _, h, _ => h.elim
def tPairs (ps : List (Str × Str)) : TA := fun _ H Q => ∀ (as : List Addr) (H' : Hp), Same H H' → as.length = ps.length → PairsAt H' as ps → Q (as.map V.ref) H'
theorem pa_pairs {X : Cx} : ∀ {es : List Expr} {ps : List (Str × Str)}, es.map pairOf = ps.map some → PA X es (tPairs ps)
  | [], [], _ => pa_imp pa_nil fun σ H Q h => h [] H (Same.refl H) rfl trivial
  | [], _ :: _, h => by cases h
  | _ :: _, [], h => by cases h
  | e :: r, p :: ps, h => by
    have h1 : pairOf e = some p := (List.cons.inj h).1
    have ih := pa_pairs (X := X) (List.cons.inj h).2
    match e, h1 with
    | .Tuple [.Constant (.str x) j1 q1, .Constant (.str y) j2 q2] c q, h1 =>
      have ep : (x, y) = p := Option.some.inj h1
      subst ep
      refine pa_imp (pa_cons (pe_tup (pa_cons pe_str (pa_cons pe_str pa_nil))) ih) fun σ H Q h => ?_
      refine ⟨(by show 2 ≤ sizeLine; decide), fun a na as H' hs hl ha => ?_⟩
      exact h (a :: as) H' ((same_upd na).trans hs) (congrArg (· + 1) hl) ⟨hs _ _ upd_same, ha⟩

/-! ### _law_instruction -/
def places : List (Str × Str) := [("get", "var"), ("put", "var"), ("add", "var"), ("lock", "lock"), ("unlock", "lock"), ("wait", "cond"), ("notify", "cond"), ("notifyall", "cond"), ("send", "queue"), ("take", "queue")]
theorem places_rest {p : Str × Str} (hp : p ∈ places) (h1 : p.1 ∉ (["get", "take"] : List Str)) (h2 : p.1 ∉ (["put", "add", "send"] : List Str)) : p.1 ∈ (["lock", "unlock", "wait", "notify", "notifyall"] : List Str) := by
  have all : ∀ q ∈ places, q.1 ∈ (["get", "take"] : List Str) ∨ q.1 ∈ (["put", "add", "send"] : List Str) ∨ q.1 ∈ (["lock", "unlock", "wait", "notify", "notifyall"] : List Str) := by decide +kernel
  rcases all p hp with h | h | h
  · exact absurd h h1
  · exact absurd h h2
  · exact h
theorem scIns : FnScope ["_law_box", "_law_shared_here", "_law_size", "_law_depth", "_law_kind", "_law_places", "_law_tree_here", "_law_letter", "_law_place_here", "_law_names", "_law_name_here"] ["_law_box", "_law_shared_here", "_law_size", "_law_depth"] (defScope sIns) :=
  ⟨rfl, rfl, rfl, by decide +kernel, rfl, by decide +kernel, by decide +kernel⟩
def spIns : Sp := fun vs H Q _ => ∃ (b l : Addr) (n : Nat) (sh : Sh), vs = [.ref b, .ref l, .int n, .int 1] ∧ Box H b ∧ H l = some (.lst (shV sh)) ∧ ThAt H sh ∧ sh.length ≤ 6 ∧
  ∀ (p : Addr) (cs : List V) (H' : Hp), Keep b H H' → H' p = some (.tup cs) → cs.length ≤ 3 → InsOk H' cs → Q (.ref p) H'
section
variable {P : Program} {w : World} {K : PySem.W.Frag} {mg : Str → Option Value} {base : Heap}
theorem ok_ins {f fD fT fK : Addr} {fd fdD fdT fdK : FuncData} (F : Fun K "_law_instruction" "_law_instruction" sIns f fd) (T : Zt mg)
    (C_law_draw : Ca P w K mg base CX0 1 "_law_draw" ["_law_box", "_law_many"] spDraw fD fdD) (C_law_tree : Ca P w K mg base CX0 3 "_law_tree" ["_law_box", "_law_depth"] (spTree 2) fT fdT)
    (C_law_of_kind : Ca P w K mg base CX0 1 "_law_of_kind" ["_law_shared_here", "_law_kind"] spOfK fK fdK) : FnOk P w K mg base CX0 4 f fd ["_law_box", "_law_shared_here", "_law_size", "_law_depth"] spIns := by
  refine F.ok scIns (fun vs H Q E h => ?_) (fun cdv A outer s H vs Q E hr h => ?_)
  · obtain ⟨b, l, n, sh, rfl, _⟩ := h
    rfl
  · obtain ⟨b, l, n, sh, rfl, bx, hl, ht, h6, q⟩ := h
    have hr1 : Room 1 _ := hr.mono (by decide)
    refine ⟨_, (pss_cons (ps_set (i := 4) scIns.nd rfl (.inl rfl) (pe_ix ix_list (pe_lst (pa_strs rfl)) (pe_call C_law_draw.G hr1 (by rfl) C_law_draw.g C_law_draw.kp C_law_draw.b .nil pass0 (pa_cons (pv 0) (pa_cons pe_int pa_nil))) (fun _ _ => rfl)))
      (pss_cons (ps_set (i := 5) scIns.nd rfl (.inl rfl) (pe_lst (pa_pairs (ps := places) rfl)))
      (pss_cons (ps_set (i := 6) scIns.nd rfl (.inl rfl) (pe_call C_law_tree.G hr (by rfl) C_law_tree.g C_law_tree.kp C_law_tree.b .nil pass0 (pa_cons (pv 0) (pa_cons (pv 3) pa_nil))))
      (pss_cons (ps_set (i := 7) scIns.nd rfl (.inl rfl) (pe_ix ix_str pe_str (pe_call C_law_draw.G hr1 (by rfl) C_law_draw.g C_law_draw.kp C_law_draw.b .nil pass0 (pa_cons (pv 0) (pa_cons pe_int pa_nil))) (fun _ _ => rfl)))
      (pss_cons (ps_for PassesOwn.never rfl (pi_list (pv 5)) (pg_name (i := 8) scIns.nd rfl (.inl rfl))
      (pss_one (ps_if (pt_cmpR op_eq (pe_ix ix_tup (pv 8) pe_int (fun _ _ => rfl)) (pv 4) (nomark _))
      (pss_cons (ps_set (i := 9) scIns.nd rfl (.inl rfl) (pe_call C_law_of_kind.G hr1 (by rfl) C_law_of_kind.g C_law_of_kind.kp C_law_of_kind.b .nil pass0 (pa_cons (pv 1) (pa_cons (pe_ix ix_tup (pv 8) pe_int (fun _ _ => rfl)) pa_nil))))
      (pss_cons (ps_if (pt_cmpR op_eq (pe_callB call_len_seq (by rfl) T.z_len PySem.boot_len (pa_cons (pv 9) pa_nil)) pe_int (nomark _))
      (pss_one (ps_ret (pe_tup (pa_cons pe_str (pa_cons (pv 7) (pa_cons (pv 6) pa_nil))))))
      pss_nil)
      (pss_cons (ps_set (i := 10) scIns.nd rfl (.inl rfl) (pe_ix ix_list (pv 9) (pe_call C_law_draw.G hr1 (by rfl) C_law_draw.g C_law_draw.kp C_law_draw.b .nil pass0 (pa_cons (pv 0) (pa_cons (pe_callB call_len_seq (by rfl) T.z_len PySem.boot_len (pa_cons (pv 9) pa_nil)) pa_nil))) (fun _ _ => rfl)))
      (pss_cons (ps_if (pt_cmpR op_in_seq (pv 4) (pe_lst (pa_cons pe_str (pa_cons pe_str pa_nil))) rfl)
      (pss_one (ps_ret (pe_tup (pa_cons (pv 4) (pa_cons (pv 7) (pa_cons (pv 10) pa_nil))))))
      pss_nil)
      (pss_cons (ps_if (pt_cmpR op_in_seq (pv 4) (pe_lst (pa_cons pe_str (pa_cons pe_str (pa_cons pe_str pa_nil)))) rfl)
      (pss_one (ps_ret (pe_tup (pa_cons (pv 4) (pa_cons (pv 10) (pa_cons (pv 6) pa_nil))))))
      pss_nil)
      (pss_one (ps_ret (pe_tup (pa_cons (pv 4) (pa_cons (pv 10) pa_nil))))))))))
      pss_nil)))
      (pss_cons (ps_if (pt_cmpR op_eq (pv 4) pe_str (nomark _))
      (pss_one (ps_ret (pe_tup (pa_cons pe_str (pa_cons (pv 6) pa_nil)))))
      pss_nil)
      (pss_cons (ps_if (pt_cmpR op_eq (pv 4) pe_str (nomark _))
      (pss_one (ps_ret (pe_tup (pa_cons pe_str (pa_cons (pe_call C_law_draw.G hr1 (by rfl) C_law_draw.g C_law_draw.kp C_law_draw.b .nil pass0 (pa_cons (pv 0) (pa_cons (pe_op op_add (pv 2) pe_int) pa_nil))) (pa_cons (pe_ix ix_list (pe_lst (pa_cons pe_non (pa_cons (pv 6) pa_nil))) (pe_call C_law_draw.G hr1 (by rfl) C_law_draw.g C_law_draw.kp C_law_draw.b .nil pass0 (pa_cons (pv 0) (pa_cons pe_int pa_nil))) (fun _ _ => rfl)) pa_nil))))))
      pss_nil)
      (pss_cons (ps_if (pt_cmpR op_eq (pv 4) pe_str (nomark _))
      (pss_one (ps_ret (pe_tup (pa_cons pe_str pa_nil))))
      pss_nil)
      (pss_one (ps_ret (pe_tup (pa_cons pe_str (pa_cons (pv 7) (pa_cons (pv 6) pa_nil)))))))))))))), ?_⟩
    -- the kind
    refine ⟨by rw [List.length_map, strsOf_length]; decide, fun lk nk => ?_⟩
    refine ⟨_, rfl, b, 18, rfl, by decide, bx.new nk, fun k H1 k0 k18 bx1 kp1 => ?_⟩
    obtain ⟨ss, hlk, h18⟩ : ∃ ss : List Str, H1 lk = some (.lst (ss.map V.str)) ∧ ss.length = 18 := ⟨_, kp1 lk _ (bx.ne_new nk) upd_same, strsOf_length _⟩
    obtain ⟨c, hc, hat⟩ := at_in (xs := ss.map V.str) k0 (by rw [List.length_map, h18]; exact k18)
    refine ⟨lk, _, k, c, rfl, rfl, .of hlk, hat, ?_⟩
    obtain ⟨kd, _, rfl⟩ := List.mem_map.mp hc
    clear hat hc
    have kp1' : Keep b H H1 := (keep_new nk).trans kp1
    -- the places
    intro as H2 s2 las pas
    refine ⟨by rw [List.length_map, las]; decide, fun lp np => ?_⟩
    have s2' : Same H1 (upd H2 lp (.lst (as.map V.ref))) := s2.trans (same_upd np)
    have bx2 : Box (upd H2 lp (.lst (as.map V.ref))) b := bx1.same s2'
    -- the expression, the letter
    refine ⟨_, rfl, _, rfl, b, 1, rfl, rfl, bx2, fun tr H3 bx3 kp3 htr => ?_⟩
    refine ⟨_, rfl, b, 4, rfl, by decide, bx3, fun k H4 k0 k4 bx4 kp4 => ?_⟩
    obtain ⟨c, _, hat⟩ := at_in (xs := (PySem.Str.ofString "abcd").cps.toList) k0 (by exact k4)
    refine ⟨_, k, c, rfl, rfl, by decide, hat, ?_⟩
    have kp24 := kp3.trans kp4
    have kpA : Keep b H H4 := kp1'.trans ((Keep.of s2').trans kp24)
    have nlp : lp ≠ b := fun z => by
      have e := bx1.same s2
      exact e.ne_new np z
    have hlp : H4 lp = some (.lst (as.map V.ref)) := kp24 lp _ nlp upd_same
    have hpa : PairsAt H4 as places := (pas.mono (Tups.of (same_upd np))).mono (Tups.keep bx2 kp24)
    have hl4 : H4 l = some (.lst (shV sh)) := kpA l _ (bx.ne_sh hl) hl
    have ht4 : ThAt H4 sh := ht.mono (Tups.keep bx kpA)
    have htr4 : Eq2 3 H4 tr tr := htr.mono (Tups.keep bx3 kp4)
    -- a tuple of two, of three items
    have out2 : ∀ {H5 : Hp} {x y : V}, Keep b H4 H5 → InsOk H5 [x, y] → [x, y].length ≤ sizeLine ∧ ∀ p, H5 p = none → Q (.ref p) (upd H5 p (.tup [x, y])) := fun {H5 x y} kp ok =>
      ⟨(by show 2 ≤ sizeLine; decide), fun p np => q p _ _ (kpA.trans (kp.trans (keep_new np))) upd_same (by show 2 ≤ 3; decide) (ok.mono (Tups.of (same_upd np)))⟩
    have out3 : ∀ {H5 : Hp} {x y z : V}, Keep b H4 H5 → InsOk H5 [x, y, z] → [x, y, z].length ≤ sizeLine ∧ ∀ p, H5 p = none → Q (.ref p) (upd H5 p (.tup [x, y, z])) := fun {H5 x y z} kp ok =>
      ⟨(by show 3 ≤ sizeLine; decide), fun p np => q p _ _ (kpA.trans (kp.trans (keep_new np))) upd_same (by show 3 ≤ 3; decide) (ok.mono (Tups.of (same_upd np)))⟩
    refine ⟨_, rfl, lp, rfl, ⟨_, .of hlp⟩, for_list (K := K) (a := lp) (xs := as.map V.ref) (fun i σ H5 => (∃ y8 y9 y10, σ = [some (.ref b), some (.ref l), some (.int n), some (.int 1), some (.str kd), some (.ref lp), some tr, some (.str ⟨#[c]⟩), y8, y9, y10]) ∧ H5 = H4)
      ⟨⟨none, none, none, rfl⟩, rfl⟩ (fun i σ H5 _ z => by rw [z.2]; exact .of hlp) ?_ ?_⟩
    · rintro i x σ H5 hx ⟨⟨y8, y9, y10, rfl⟩, rfl⟩
      rw [List.getElem?_map] at hx
      obtain ⟨a, ha, rfl⟩ : ∃ a, as[i]? = some a ∧ x = .ref a := by
        cases e : as[i]? with
        | none =>
          rw [e] at hx
          cases hx
        | some a =>
          rw [e] at hx
          exact ⟨a, rfl, (Option.some.inj hx).symm⟩
      obtain ⟨pr, hpr, hap⟩ := hpa.get ha
      refine ⟨_, rfl, a, _, 0, _, rfl, rfl, .of hap, atI_nat (j := 0) rfl, _, rfl, rfl, _, rfl, ite2 (fun hk => ?_) (fun _ => ⟨⟨_, _, _, rfl⟩, rfl⟩)⟩
      have ek : pr.1 = kd := dec_str2 hk
      -- the names of its kind
      refine ⟨_, rfl, _, rfl, a, _, 1, _, rfl, rfl, .of hap, atI_nat (j := 1) rfl, l, pr.2, sh, rfl, hl4, ht4, h6, fun ln H6 s6 nn hn => ?_⟩
      have bx6 := bx4.same s6
      have kp6 : Keep b H5 H6 := Keep.of s6
      refine ⟨_, rfl, ln, _, rfl, .inl (.of hn), rfl, _, rfl, ite2 (fun _ => ?_) (fun h0 => ?_)⟩
      · exact ⟨_, rfl, _, rfl, out3 kp6 (.two _ _ _ (by decide +kernel) (.str _) (htr4.mono (Tups.of s6)))⟩
      have hpos : (0 : Int) < (((nmsK pr.2 sh).map V.str).length : Nat) := by
        refine Int.ofNat_lt.mpr (Nat.pos_of_ne_zero fun z => h0 (decide_eq_true ?_))
        rw [z]
        rfl
      refine ⟨_, rfl, _, rfl, _, rfl, ln, _, rfl, .inl (.of hn), b, _, rfl, hpos, bx6, fun v H7 v0 v9 bx7 kp7 => ?_⟩
      obtain ⟨nm, hnm, hat⟩ := at_in v0 v9
      obtain ⟨ns, _, rfl⟩ := List.mem_map.mp hnm
      have kp67 := kp6.trans kp7
      refine ⟨ln, _, v, _, rfl, rfl, .of (kp7 ln _ (bx4.ne_new nn) hn), hat, ?_⟩
      have htr7 : Eq2 3 H7 tr tr := htr4.mono (Tups.keep bx4 kp67)
      -- get, take
      refine ⟨_, rfl, (by show 2 ≤ sizeLine; decide), fun l1 n1 => ⟨l1, _, rfl, .inl (.of upd_same), rfl, rfl, _, rfl, ?_⟩⟩
      show if inV (.str kd) ((["get", "take"] : List Str).map V.str) = true then _ else _
      rw [inV_strs]
      refine ite2 (fun hg => ?_) (fun hg => ?_)
      · exact ⟨_, rfl, _, rfl, _, rfl, out3 (kp67.trans (keep_new n1)) (.get kd _ _ (of_decide_eq_true hg))⟩
      -- put, add, send
      refine ⟨_, rfl, (by show 3 ≤ sizeLine; decide), fun l2 n2 => ⟨l2, _, rfl, .inl (.of upd_same), rfl, rfl, _, rfl, ?_⟩⟩
      show if inV (.str kd) ((["put", "add", "send"] : List Str).map V.str) = true then _ else _
      rw [inV_strs]
      have kp9 := kp67.trans ((keep_new (o := .lst ((["get", "take"] : List Str).map V.str)) n1).trans (keep_new (o := .lst ((["put", "add", "send"] : List Str).map V.str)) n2))
      refine ite2 (fun hp => ?_) (fun hp => ?_)
      · exact ⟨_, rfl, _, rfl, _, rfl, out3 kp9 (.put kd _ _ (of_decide_eq_true hp) (htr4.mono (Tups.keep bx4 kp9)))⟩
      · refine ⟨_, rfl, _, rfl, out2 kp9 (.one kd _ ?_)⟩
        rw [← ek]
        refine places_rest hpr ?_ ?_
        · rw [ek]
          exact fun z => hg (decide_eq_true z)
        · rw [ek]
          exact fun z => hp (decide_eq_true z)
    · rintro σ H5 ⟨⟨y8, y9, y10, rfl⟩, rfl⟩
      refine ⟨_, rfl, rfl, _, rfl, ite2 (fun _ => ?_) (fun _ => ?_)⟩
      · exact ⟨_, rfl, out2 (Keep.refl _ _) (.chk _ htr4)⟩
      refine ⟨_, rfl, rfl, _, rfl, ite2 (fun _ => ?_) (fun _ => ?_)⟩
      · -- go
        refine ⟨_, rfl, _, rfl, _, _, rfl, rfl, b, _, rfl, (by show (0 : Int) < (n : Int) + 1; omega), bx4, fun g H6 g0 g9 bx6 kp6 => ?_⟩
        refine ⟨_, rfl, (by show 2 ≤ sizeLine; decide), fun l1 n1 => ?_⟩
        refine ⟨_, rfl, b, 2, rfl, by decide, bx6.new n1, fun v H7 v0 v2 bx7 kp7 => ?_⟩
        obtain ⟨e, he, hat⟩ := at_in (xs := [V.non, tr]) v0 (by exact v2)
        have kp67 := kp6.trans ((keep_new n1).trans kp7)
        have hok : Eq2 3 H7 e e := by
          rcases List.mem_cons.mp he with rfl | he
          · exact Eq2.flat .non
          rcases List.mem_cons.mp he with rfl | he
          · exact htr4.mono (Tups.keep bx4 kp67)
          cases he
        exact ⟨l1, _, v, _, rfl, rfl, .of (kp7 l1 _ (bx6.ne_new n1) upd_same), hat, out3 kp67 (.two _ _ _ (by decide +kernel) (.int _) hok)⟩
      refine ⟨_, rfl, rfl, _, rfl, ite2 (fun _ => ?_) (fun _ => ?_)⟩
      · exact ⟨(by show 1 ≤ sizeLine; decide), fun p np => q p _ _ (kpA.trans (keep_new np)) upd_same (by show 1 ≤ 3; decide) (.bare _ (by decide +kernel))⟩
      · exact ⟨_, rfl, _, rfl, out3 (Keep.refl _ _) (.two _ _ _ (by decide +kernel) (.str _) htr4)⟩
end
end Fst

/-! Drawn threads and programs. -/
namespace Fst
open PySem PySem.Spec PyProof.Rows L2

/-- a thread: its instructions' tuples -/
abbrev Th := List (Addr × List V)
def insV (th : Th) : List V := th.map fun p => .ref p.1
def ThrAt (H : Hp) (th : Th) : Prop := ∀ p ∈ th, H p.1 = some (.tup p.2) ∧ InsOk H p.2
theorem ThrAt.mono {H H' : Hp} {th : Th} (h : ThrAt H th) (t : Tups H H') : ThrAt H' th := fun p hp => ⟨t _ _ (h p hp).1, (h p hp).2.mono t⟩
theorem ThrAt.snoc {H : Hp} {th : Th} {a : Addr} {cs : List V} (h : ThrAt H th) (ha : H a = some (.tup cs)) (ok : InsOk H cs) : ThrAt H (th ++ [(a, cs)]) := fun p hp => by
  rcases List.mem_append.mp hp with hp | hp
  · exact h p hp
  · have e : p = (a, cs) := by simpa using hp
    rw [e]
    exact ⟨ha, ok⟩
theorem ThrAt.set {H : Hp} {th : Th} {a : Addr} {cs : List V} {j : Nat} (h : ThrAt H th) (ha : H a = some (.tup cs)) (ok : InsOk H cs) : ThrAt H (th.set j (a, cs)) := fun p hp => by
  rcases List.mem_or_eq_of_mem_set hp with hp | hp
  · exact h p hp
  · rw [hp]
    exact ⟨ha, ok⟩
theorem insV_snoc (th : Th) (a : Addr) (cs : List V) : insV (th ++ [(a, cs)]) = insV th ++ [.ref a] := by
  unfold insV
  rw [List.map_append]
  rfl
theorem insV_set (th : Th) (a : Addr) (cs : List V) (j : Nat) : insV (th.set j (a, cs)) = (insV th).set j (.ref a) := by
  unfold insV
  rw [List.map_set]
theorem insV_length (th : Th) : (insV th).length = th.length := List.length_map _
/-- the threads of a program -/
abbrev Ths := List (Addr × Th)
def thsV (ts : Ths) : List V := ts.map fun p => .ref p.1
def ThsAt (H : Hp) (ts : Ths) : Prop := ∀ p ∈ ts, H p.1 = some (.tup (insV p.2)) ∧ ThrAt H p.2
theorem ThsAt.mono {H H' : Hp} {ts : Ths} (h : ThsAt H ts) (t : Tups H H') : ThsAt H' ts := fun p hp => ⟨t _ _ (h p hp).1, (h p hp).2.mono t⟩
theorem ThsAt.snoc {H : Hp} {ts : Ths} {a : Addr} {th : Th} (h : ThsAt H ts) (ha : H a = some (.tup (insV th))) (ok : ThrAt H th) : ThsAt H (ts ++ [(a, th)]) := fun p hp => by
  rcases List.mem_append.mp hp with hp | hp
  · exact h p hp
  · have e : p = (a, th) := by simpa using hp
    rw [e]
    exact ⟨ha, ok⟩
theorem thsV_snoc (ts : Ths) (a : Addr) (th : Th) : thsV (ts ++ [(a, th)]) = thsV ts ++ [.ref a] := by
  unfold thsV
  rw [List.map_append]
  rfl
theorem thsV_length (ts : Ths) : (thsV ts).length = ts.length := List.length_map _
/-- a whole program -/
structure Pg (H : Hp) (p : Addr) (sh : Sh) (ts : Ths) : Prop where
  ex : ∃ sa ta : Addr, H p = some (.tup [.ref sa, .ref ta]) ∧ H sa = some (.tup (shV sh)) ∧ H ta = some (.tup (thsV ts))
  ok : ShOk H sh
  at_ : ThsAt H ts
  len : ts.length ≤ 4
theorem Pg.mono {H H' : Hp} {p : Addr} {sh : Sh} {ts : Ths} (h : Pg H p sh ts) (t : Tups H H') : Pg H' p sh ts := by
  obtain ⟨sa, ta, h1, h2, h3⟩ := h.ex
  exact ⟨⟨sa, ta, t _ _ h1, t _ _ h2, t _ _ h3⟩, h.ok.mono t, h.at_.mono t, h.len⟩
theorem Pg.sh {H : Hp} {p : Addr} {sh : Sh} {ts : Ths} (h : Pg H p sh ts) : PgS H p sh := by
  obtain ⟨sa, ta, h1, h2, h3⟩ := h.ex
  exact ⟨⟨sa, ta, h1, h2⟩, h.ok⟩

theorem scThr : FnScope ["_law_box", "_law_shared_here", "_law_most", "_law_depth", "_law_size", "_law_thread_here", "_law_first_here", "_law_last", "_law_k"] ["_law_box", "_law_shared_here", "_law_most", "_law_depth"] (defScope sThr) :=
  ⟨rfl, rfl, rfl, by decide +kernel, rfl, by decide +kernel, by decide +kernel⟩
def spThr : Sp := fun vs H Q _ => ∃ (b l : Addr) (sh : Sh), vs = [.ref b, .ref l, .int 8, .int 1] ∧ Box H b ∧ H l = some (.lst (shV sh)) ∧ ThAt H sh ∧ sh.length ≤ 6 ∧
  ∀ (p : Addr) (th : Th) (H' : Hp), Keep b H H' → H' p = some (.tup (insV th)) → ThrAt H' th → th.length ≤ 8 → Q (.ref p) H'
theorem scProg : FnScope ["_law_box", "_law_threads", "_law_most", "_law_depth", "_law_shared_here", "_law_count", "_law_k"] ["_law_box", "_law_threads", "_law_most", "_law_depth"] (defScope sProg) :=
  ⟨rfl, rfl, rfl, by decide +kernel, rfl, by decide +kernel, by decide +kernel⟩
def spProg : Sp := fun vs H Q _ => ∃ b : Addr, vs = [.ref b, .int 4, .int 8, .int 1] ∧ Box H b ∧ ∀ (p : Addr) (sh : Sh) (ts : Ths) (H' : Hp), Keep b H H' → Pg H' p sh ts → Q (.ref p) H'
section
variable {P : Program} {w : World} {K : PySem.W.Frag} {mg : Str → Option Value} {base : Heap}
theorem ok_thr {f fD fI : Addr} {fd fdD fdI : FuncData} (F : Fun K "_law_thread" "_law_thread" sThr f fd) (T : Zt mg)
    (C_law_draw : Ca P w K mg base CX0 1 "_law_draw" ["_law_box", "_law_many"] spDraw fD fdD)
    (C_law_instruction : Ca P w K mg base CX0 4 "_law_instruction" ["_law_box", "_law_shared_here", "_law_size", "_law_depth"] spIns fI fdI) : FnOk P w K mg base CX0 5 f fd ["_law_box", "_law_shared_here", "_law_most", "_law_depth"] spThr := by
  refine F.ok scThr (fun vs H Q E h => ?_) (fun cdv A outer s H vs Q E hr h => ?_)
  · obtain ⟨b, l, sh, rfl, _⟩ := h
    rfl
  · obtain ⟨b, l, sh, rfl, bx, hl, ht, h6, q⟩ := h
    have hr1 : Room 1 _ := hr.mono (by decide)
    refine ⟨_, (pss_cons (ps_set (i := 4) scThr.nd rfl (.inr rfl) (pe_op op_add pe_int (pe_call C_law_draw.G hr1 (by rfl) C_law_draw.g C_law_draw.kp C_law_draw.b .nil pass0 (pa_cons (pv 0) (pa_cons (pv 2) pa_nil)))))
      (pss_cons (ps_setLc (i := 5) (own := [("_law_k", 8)]) (g := gName 8) (tt := tYes) rfl scThr.nd rfl rfl (sw_true rfl rfl rfl (by decide +kernel)) (pi_range1 (by rfl) T.z_range (pa_cons (pv 4) pa_nil)) (blkOk_by (N := ["_law_box", "_law_shared_here", "_law_most", "_law_depth", "_law_size", "_law_thread_here", "_law_first_here", "_law_last", "_law_k"]) (sc := defScope sThr) (by decide +kernel)) (fun _ _ _ _ _ => pg_name (i := 8) scThr.nd rfl (.inl rfl)) (fun _ _ _ _ _ => pts_nil) (fun _ _ _ _ _ => (pe_call C_law_instruction.G hr (by rfl) C_law_instruction.g C_law_instruction.kp C_law_instruction.b .nil pass0 (pa_cons (pv 0) (pa_cons (pv 1) (pa_cons (pv 4) (pa_cons (pv 3) pa_nil)))))))
      (pss_cons (ps_if (PW.pt (pw_and (pt_cmpR op_gt (pv 4) pe_int (nomark _)) (pw_and1 (pt_cmpR op_eq (pe_call C_law_draw.G hr1 (by rfl) C_law_draw.g C_law_draw.kp C_law_draw.b .nil pass0 (pa_cons (pv 0) (pa_cons pe_int pa_nil))) pe_int (nomark _)))))
      (pss_cons (ps_set (i := 6) scThr.nd rfl (.inl rfl) (pe_call C_law_draw.G hr1 (by rfl) C_law_draw.g C_law_draw.kp C_law_draw.b .nil pass0 (pa_cons (pv 0) (pa_cons (pe_op op_sub (pv 4) pe_int) pa_nil))))
      (pss_cons (ps_set (i := 7) scThr.nd rfl (.inl rfl) (pe_op op_add (pe_op op_add (pv 6) pe_int) (pe_call C_law_draw.G hr1 (by rfl) C_law_draw.g C_law_draw.kp C_law_draw.b .nil pass0 (pa_cons (pv 0) (pa_cons (pe_op op_sub (pe_op op_sub (pv 4) pe_int) (pv 6)) pa_nil)))))
      (pss_cons (ps_asg (pe_tup (pa_cons pe_str pa_nil)) (pg_sub (pv 5) (pv 6) set_list))
      (pss_one (ps_asg (pe_tup (pa_cons pe_str pa_nil)) (pg_sub (pv 5) (pv 7) set_list))))))
      pss_nil)
      (pss_one (ps_ret (pe_callTy call_tuple_of (by rfl) T.z_tuple (by decide +kernel) (pa_cons (pv 5) pa_nil))))))), ?_⟩
    refine ⟨_, rfl, _, rfl, b, 8, rfl, by decide, bx, fun m H1 m0 m8 bx1 kp1 => ⟨_, _, rfl, rfl, ?_⟩⟩
    -- the instructions
    refine ⟨_, rfl, 1 + m, rfl, by omega, by omega, fun D nD => lc_range (lo := 0) (n := (1 + m).toNat) (fun i H3 => Keep b H1 H3 ∧ ∃ th : Th, H3 D = some (.lst (insV th)) ∧ ThrAt H3 th ∧ th.length = i)
      ⟨keep_new nD, [], upd_same, fun p hp => absurd hp List.not_mem_nil, rfl⟩ ?_ ?_⟩
    · rintro i H3 hi ⟨kp3, th, hD, hth, hlen⟩
      have kp13 : Keep b H H3 := kp1.trans kp3
      have hsz : (1 + m) = (((1 + m).toNat : Nat) : Int) := by omega
      refine ⟨rfl, _, rfl, _, rfl, _, rfl, _, rfl, b, l, (1 + m).toNat, sh, ?_, kp13.box bx, kp13 l _ (bx.ne_sh hl) hl, ht.mono (Tups.keep bx kp13), h6, fun p cs H4 kp4 hp _ hok => ?_⟩
      · show [V.ref b, .ref l, .int (1 + m), .int 1] = _
        rw [← hsz]
      have nDb : D ≠ b := bx1.ne_new nD
      have hD4 := kp4 D _ nDb hD
      have bx3 := kp13.box bx
      refine ⟨_, hD4, ?_, (kp3.trans kp4).put bx1 nD, th ++ [(p, cs)], ?_, ?_, ?_⟩
      · rw [insV_length, hlen]
        exact small1000 (by omega)
      · rw [upd_same, insV_snoc]
      · have tp : Tups H4 (upd H4 D (.lst (insV th ++ [.ref p]))) := fun a xs e => by
          rw [upd_ne]
          · exact e
          · intro z
            rw [z, hD4] at e
            cases e
        exact ((hth.mono (Tups.keep bx3 kp4)).snoc hp hok).mono tp
      · rw [List.length_append, hlen]
        rfl
    · rintro H3 ⟨kp3, th, hD, hth, hlen⟩
      have kp13 : Keep b H H3 := kp1.trans kp3
      have bx3 := kp13.box bx
      have nDb : D ≠ b := bx1.ne_new nD
      have hlen8 : th.length ≤ 8 := by omega
      -- return tuple(thread)
      have fin : ∀ {H9 : Hp} {th : Th}, Keep b H H9 → H9 D = some (.lst (insV th)) → ThrAt H9 th → th.length ≤ 8 → ∃ (p : Addr) (ys : List V), [V.ref D] = [.ref p] ∧ ((SqL K H9 p ys ∧ ∀ l, H9 l = none → Q (.ref l) (upd H9 l (.tup ys))) ∨ (SqT K H9 p ys ∧ Q (.ref p) H9)) :=
        fun {H9 th} kp hD hth hl => ⟨D, _, rfl, .inl ⟨.of hD, fun x nx => q x th _ (kp.trans (keep_new nx)) upd_same (hth.mono (Tups.of (same_upd nx))) hl⟩⟩
      refine ⟨_, rfl, _, _, rfl, rfl, _, rfl, ite2 (fun h1 => ?_) (fun _ => iteF ⟨_, rfl, fin kp13 hD hth hlen8⟩)⟩
      have h1' : 1 < 1 + m := of_decide_eq_true h1
      refine ⟨_, rfl, b, 3, rfl, by decide, bx3, fun z H4 z0 z3 bx4 kp4 => ?_⟩
      have hD4 := kp4 D _ nDb hD
      have kp14 : Keep b H H4 := kp13.trans kp4
      have hth4 : ThrAt H4 th := hth.mono (Tups.keep bx3 kp4)
      refine ⟨rfl, _, rfl, ite2 (fun _ => ?_) (fun _ => ⟨_, rfl, fin kp14 hD4 hth4 hlen8⟩)⟩
      -- first, last
      refine ⟨_, rfl, _, rfl, _, _, rfl, rfl, b, _, rfl, (by show (0 : Int) < 1 + m - 1; omega), bx4, fun x H5 x0 x9 bx5 kp5 => ?_⟩
      refine ⟨_, rfl, _, _, rfl, rfl, _, rfl, _, rfl, _, _, rfl, rfl, _, rfl, _, _, rfl, rfl, b, _, rfl, (by show (0 : Int) < 1 + m - 1 - x; omega), bx5, fun y H6 y0 y9 bx6 kp6 => ⟨_, _, rfl, rfl, ?_⟩⟩
      have kp46 := kp5.trans kp6
      have hD6 := kp46 D _ nDb hD4
      have kp16 : Keep b H H6 := kp14.trans kp46
      have hth6 : ThrAt H6 th := hth4.mono (Tups.keep bx4 kp46)
      have hlm : (th.length : Int) = 1 + m := by omega
      have hx : ixN (insV th).length x = some x.toNat := by
        unfold ixN
        rw [insV_length, if_pos x0, if_pos (by omega)]
      have nD0 : H D = none := by
        cases e : H D with
        | none => rfl
        | some o => exact absurd (kp1 D o nDb e) (by rw [nD]; intro z; cases z)
      -- the begin
      refine ⟨(by show 1 ≤ sizeLine; decide), fun p np => ?_⟩
      have hDp : upd H6 p (.tup [.str "begin"]) D = some (.lst (insV th)) := by
        rw [upd_ne (ne_of_none hD6 np)]
        exact hD6
      refine ⟨_, rfl, _, rfl, D, _, x, _, rfl, rfl, hDp, hx, ?_⟩
      have kp7 : Keep b H (upd (upd H6 p (.tup [.str "begin"])) D (.lst ((insV th).set x.toNat (.ref p)))) := (kp16.trans (keep_new np)).put bx nD0
      have t7 : Tups (upd H6 p (.tup [.str "begin"])) (upd (upd H6 p (.tup [.str "begin"])) D (.lst ((insV th).set x.toNat (.ref p)))) := fun a xs e => by
        rw [upd_ne]
        · exact e
        · intro z
          rw [z, hDp] at e
          cases e
      have hth7 : ThrAt (upd (upd H6 p (.tup [.str "begin"])) D (.lst ((insV th).set x.toNat (.ref p)))) (th.set x.toNat (p, [.str "begin"])) :=
        ((hth6.mono (Tups.of (same_upd np))).set upd_same (.bare _ (by decide +kernel))).mono t7
      -- the end
      refine ⟨(by show 1 ≤ sizeLine; decide), fun p2 np2 => ?_⟩
      have hD7 : upd (upd H6 p (.tup [.str "begin"])) D (.lst ((insV th).set x.toNat (.ref p))) D = some (.lst (insV (th.set x.toNat (p, [.str "begin"])))) := by
        rw [upd_same, insV_set]
      have hDp2 : upd (upd (upd H6 p (.tup [.str "begin"])) D (.lst ((insV th).set x.toNat (.ref p)))) p2 (.tup [.str "end"]) D = some (.lst (insV (th.set x.toNat (p, [.str "begin"])))) := by
        rw [upd_ne (ne_of_none hD7 np2)]
        exact hD7
      have hy : ixN (insV (th.set x.toNat (p, [.str "begin"]))).length (x + 1 + y) = some (x + 1 + y).toNat := by
        unfold ixN
        rw [insV_length, List.length_set, if_pos (by omega), if_pos (by omega)]
      refine ⟨_, rfl, _, rfl, D, _, x + 1 + y, _, rfl, rfl, hDp2, hy, ?_⟩
      have t8 : Tups (upd (upd (upd H6 p (.tup [.str "begin"])) D (.lst ((insV th).set x.toNat (.ref p)))) p2 (.tup [.str "end"]))
          (upd (upd (upd (upd H6 p (.tup [.str "begin"])) D (.lst ((insV th).set x.toNat (.ref p)))) p2 (.tup [.str "end"])) D (.lst ((insV (th.set x.toNat (p, [.str "begin"]))).set (x + 1 + y).toNat (.ref p2)))) := fun a xs e => by
        rw [upd_ne]
        · exact e
        · intro z
          rw [z, hDp2] at e
          cases e
      refine ⟨_, rfl, fin (th := (th.set x.toNat (p, [.str "begin"])).set (x + 1 + y).toNat (p2, [.str "end"])) ((kp7.trans (keep_new np2)).put bx nD0) ?_ ?_ ?_⟩
      · rw [upd_same]
        simp only [insV_set]
      · exact ((hth7.mono (Tups.of (same_upd np2))).set upd_same (.bare _ (by decide +kernel))).mono t8
      · rw [List.length_set, List.length_set]
        exact hlen8
theorem ok_prog {f fD fS fT : Addr} {fd fdD fdS fdT : FuncData} (F : Fun K "_law_program" "_law_program" sProg f fd) (T : Zt mg)
    (C_law_draw : Ca P w K mg base CX0 1 "_law_draw" ["_law_box", "_law_many"] spDraw fD fdD) (C_law_shared : Ca P w K mg base CX0 3 "_law_shared" ["_law_box"] spShared fS fdS)
    (C_law_thread : Ca P w K mg base CX0 5 "_law_thread" ["_law_box", "_law_shared_here", "_law_most", "_law_depth"] spThr fT fdT) : FnOk P w K mg base CX0 6 f fd ["_law_box", "_law_threads", "_law_most", "_law_depth"] spProg := by
  refine F.ok scProg (fun vs H Q E h => ?_) (fun cdv A outer s H vs Q E hr h => ?_)
  · obtain ⟨b, rfl, _⟩ := h
    rfl
  · obtain ⟨b, rfl, bx, q⟩ := h
    have hr1 : Room 1 _ := hr.mono (by decide)
    have hr3 : Room 3 _ := hr.mono (by decide)
    refine ⟨_, (pss_cons (ps_set (i := 4) scProg.nd rfl (.inr rfl) (pe_call C_law_shared.G hr3 (by rfl) C_law_shared.g C_law_shared.kp C_law_shared.b .nil pass0 (pa_cons (pv 0) pa_nil)))
      (pss_cons (ps_set (i := 5) scProg.nd rfl (.inl rfl) (pe_op op_add pe_int (pe_call C_law_draw.G hr1 (by rfl) C_law_draw.g C_law_draw.kp C_law_draw.b .nil pass0 (pa_cons (pv 0) (pa_cons (pv 1) pa_nil)))))
      (pss_one (ps_ret (pe_tup (pa_cons (pe_callTy call_tuple_of (by rfl) T.z_tuple (by decide +kernel) (pa_cons (pv 4) pa_nil)) (pa_cons (pe_callTy call_tuple_of (by rfl) T.z_tuple (by decide +kernel) (pa_cons (pe_lc (own := [("_law_k", 6)]) (g := gName 6) (tt := tYes) rfl scProg.nd (pi_range1 (by rfl) T.z_range (pa_cons (pv 5) pa_nil)) (blkOk_by (N := ["_law_box", "_law_threads", "_law_most", "_law_depth", "_law_shared_here", "_law_count", "_law_k"]) (sc := defScope sProg) (by decide +kernel)) (fun _ _ _ _ _ => pg_name (i := 6) scProg.nd rfl (.inl rfl)) (fun _ _ _ _ _ => pts_nil) (fun _ _ _ _ _ => (pe_call C_law_thread.G hr (by rfl) C_law_thread.g C_law_thread.kp C_law_thread.b .nil pass0 (pa_cons (pv 0) (pa_cons (pv 4) (pa_cons (pv 2) (pa_cons (pv 3) pa_nil))))))) pa_nil)) pa_nil))))))), ?_⟩
    refine ⟨_, rfl, b, rfl, bx, fun l sh H1 kp1 nl hl ok => ?_⟩
    have bx1 := kp1.box bx
    refine ⟨_, rfl, _, rfl, b, 4, rfl, by decide, bx1, fun m H2 m0 m4 bx2 kp2 => ⟨_, _, rfl, rfl, ?_⟩⟩
    have nlb : l ≠ b := bx.ne_new nl
    have hl2 := kp2 l _ nlb hl
    have ok2 := ok.mono (Tups.keep bx1 kp2)
    -- tuple(shared)
    refine ⟨_, rfl, l, _, rfl, .inl ⟨.of hl2, fun sa nsa => ?_⟩⟩
    have bx3 := bx2.new (o := .tup (shV sh)) nsa
    have hl3 : upd H2 sa (.tup (shV sh)) l = some (.lst (shV sh)) := by
      rw [upd_ne (ne_of_none hl2 nsa)]
      exact hl2
    have ok3 : ShOk (upd H2 sa (.tup (shV sh))) sh := ok2.mono (Tups.of (same_upd nsa))
    have kp03 : Keep b H (upd H2 sa (.tup (shV sh))) := kp1.trans (kp2.trans (keep_new nsa))
    -- the threads
    refine ⟨_, rfl, 1 + m, rfl, by omega, by omega, fun D nD => lc_range (lo := 0) (n := (1 + m).toNat) (fun i H3 => Keep b (upd H2 sa (.tup (shV sh))) H3 ∧ ∃ ts : Ths, H3 D = some (.lst (thsV ts)) ∧ ThsAt H3 ts ∧ ts.length = i)
      ⟨keep_new nD, [], upd_same, fun p hp => absurd hp List.not_mem_nil, rfl⟩ ?_ ?_⟩
    · rintro i H3 hi ⟨kp3, ts, hD, hts, hlen⟩
      have nDb : D ≠ b := bx3.ne_new nD
      have bx4 := kp3.box bx3
      refine ⟨rfl, _, rfl, _, rfl, _, rfl, _, rfl, b, l, sh, rfl, bx4, kp3 l _ nlb hl3, ok3.at_.mono (Tups.keep bx3 kp3), ok.len, fun p th H4 kp4 hp hth _ => ?_⟩
      have hD4 := kp4 D _ nDb hD
      refine ⟨_, hD4, ?_, (kp3.trans kp4).put bx3 nD, ts ++ [(p, th)], ?_, ?_, ?_⟩
      · rw [thsV_length, hlen]
        exact small1000 (by omega)
      · rw [upd_same, thsV_snoc]
      · have tp : Tups H4 (upd H4 D (.lst (thsV ts ++ [.ref p]))) := fun a xs e => by
          rw [upd_ne]
          · exact e
          · intro z
            rw [z, hD4] at e
            cases e
        exact ((hts.mono (Tups.keep bx4 kp4)).snoc hp hth).mono tp
      · rw [List.length_append, hlen]
        rfl
    · rintro H3 ⟨kp3, ts, hD, hts, hlen⟩
      refine ⟨D, _, rfl, .inl ⟨.of hD, fun ta nta => ⟨(by show 2 ≤ sizeLine; decide), fun p np => ?_⟩⟩⟩
      have kpe : Keep b (upd H2 sa (.tup (shV sh))) (upd (upd H3 ta (.tup (thsV ts))) p (.tup [.ref sa, .ref ta])) := kp3.trans ((keep_new nta).trans (keep_new np))
      have te : Tups (upd H2 sa (.tup (shV sh))) (upd (upd H3 ta (.tup (thsV ts))) p (.tup [.ref sa, .ref ta])) := Tups.keep bx3 kpe
      have t3 : Tups H3 (upd (upd H3 ta (.tup (thsV ts))) p (.tup [.ref sa, .ref ta])) := Tups.of ((same_upd nta).trans (same_upd np))
      refine q p sh ts _ (kp03.trans kpe) ⟨⟨sa, ta, upd_same, te _ _ upd_same, (same_upd np) _ _ upd_same⟩, ok3.mono te, hts.mono t3, by omega⟩
end
end Fst

/-! What an instruction's tuple holds: its expression and the thing that it names, twice. -/
namespace Fst
open PySem PySem.Spec PyProof.Rows L2

def kinds : List Str := ["let", "go", "put", "add", "send", "check", "get", "take", "lock", "unlock", "wait", "notify", "notifyall", "stop", "begin", "end"]
def exprTab (k : Str) : Option Int := ([("let", 2), ("put", 2), ("add", 2), ("send", 2), ("check", 1), ("go", 2)] : List (Str × Int)).lookup k
def thingTab (k : Str) : Option Int := ([("get", 2), ("put", 1), ("add", 1), ("lock", 1), ("unlock", 1), ("wait", 1), ("notify", 1), ("notifyall", 1), ("send", 1), ("take", 2)] : List (Str × Int)).lookup k
abbrev L5 : List Str := ["let", "put", "add", "send", "go"]
abbrev L2' : List Str := ["get", "take"]
abbrev L6 : List Str := ["let", "check", "go", "begin", "end", "stop"]
theorem tabS {tab : Str → Option Int} {k : Str} {j : Int} {cs : List V} {e : V} (h : tab k = some j) (ha : atI cs j = some e) : ∀ i, tab k = some i → atI cs i = some e := fun i hi => by
  rw [h] at hi
  cases hi
  exact ha
theorem tabN {tab : Str → Option Int} {k : Str} {cs : List V} {e : V} (h : tab k = none) : ∀ i, tab k = some i → atI cs i = some e := fun i hi => by
  rw [h] at hi
  cases hi
theorem tabX {tab : Str → Option Int} {k : Str} {j : Int} {C : Prop} (h : tab k = some j) : tab k = none → C := fun hi => by
  rw [h] at hi
  cases hi
/-- an instruction of the kind k: its expression e, its thing th -/
structure Ins9 (H : Hp) (cs : List V) (k : Str) (e th : V) : Prop where
  head : ∃ r, cs = .str k :: r
  kin : k ∈ kinds
  eok : Eq2 3 H e e
  tok : Flat th
  eS : ∀ i, exprTab k = some i → atI cs i = some e
  eN : exprTab k = none → e = .non
  tS : ∀ i, thingTab k = some i → atI cs i = some th
  tN : thingTab k = none → th = .non
  l5 : k ∈ L5 → atI cs 2 = some e
  lc : k ∉ L5 → k = "check" → atI cs 1 = some e
  ln : k ∉ L5 → ¬ k = "check" → e = .non
  g2 : k ∈ L2' → atI cs 2 = some th
  g6 : k ∉ L2' → k ∈ L6 → th = .non
  g1 : k ∉ L2' → k ∉ L6 → atI cs 1 = some th
theorem InsOk.nine {H : Hp} {cs : List V} (h : InsOk H cs) : ∃ k e th, Ins9 H cs k e th := by
  cases h with
  | two k x t hk hx ht =>
    have hk' : k = "let" ∨ k = "go" := by simpa using hk
    have h1 : exprTab k = some 2 := by rcases hk' with rfl | rfl <;> decide +kernel
    have h2 : thingTab k = none := by rcases hk' with rfl | rfl <;> decide +kernel
    have h3 : k ∈ L5 := by rcases hk' with rfl | rfl <;> decide +kernel
    have h4 : k ∉ L2' := by rcases hk' with rfl | rfl <;> decide +kernel
    have h5 : k ∈ L6 := by rcases hk' with rfl | rfl <;> decide +kernel
    have h6 : k ∈ kinds := by rcases hk' with rfl | rfl <;> decide +kernel
    exact ⟨k, t, .non, ⟨_, rfl⟩, h6, ht, .non, tabS h1 (atI_nat (j := 2) rfl), tabX h1, tabN h2, fun _ => rfl, fun _ => atI_nat (j := 2) rfl, fun z => absurd h3 z, fun z => absurd h3 z, fun z => absurd z h4, fun _ _ => rfl, fun _ z => absurd h5 z⟩
  | put k n t hk ht =>
    have hk' : k = "put" ∨ k = "add" ∨ k = "send" := by simpa using hk
    have h1 : exprTab k = some 2 := by rcases hk' with rfl | rfl | rfl <;> decide +kernel
    have h2 : thingTab k = some 1 := by rcases hk' with rfl | rfl | rfl <;> decide +kernel
    have h3 : k ∈ L5 := by rcases hk' with rfl | rfl | rfl <;> decide +kernel
    have h4 : k ∉ L2' := by rcases hk' with rfl | rfl | rfl <;> decide +kernel
    have h5 : k ∉ L6 := by rcases hk' with rfl | rfl | rfl <;> decide +kernel
    have h6 : k ∈ kinds := by rcases hk' with rfl | rfl | rfl <;> decide +kernel
    exact ⟨k, t, .str n, ⟨_, rfl⟩, h6, ht, .str _, tabS h1 (atI_nat (j := 2) rfl), tabX h1, tabS h2 (atI_nat (j := 1) rfl), tabX h2, fun _ => atI_nat (j := 2) rfl, fun z => absurd h3 z, fun z => absurd h3 z, fun z => absurd z h4, fun _ z => absurd z h5, fun _ _ => atI_nat (j := 1) rfl⟩
  | chk t ht =>
    have h1 : exprTab "check" = some 1 := by decide +kernel
    have h2 : thingTab "check" = none := by decide +kernel
    have h3 : ("check" : Str) ∉ L5 := by decide +kernel
    have h4 : ("check" : Str) ∉ L2' := by decide +kernel
    have h5 : ("check" : Str) ∈ L6 := by decide +kernel
    exact ⟨"check", t, .non, ⟨_, rfl⟩, by decide +kernel, ht, .non, tabS h1 (atI_nat (j := 1) rfl), tabX h1, tabN h2, fun _ => rfl, fun z => absurd z h3, fun _ _ => atI_nat (j := 1) rfl, fun _ z => absurd rfl z, fun z => absurd z h4, fun _ _ => rfl, fun _ z => absurd h5 z⟩
  | get k x n hk =>
    have hk' : k = "get" ∨ k = "take" := by simpa using hk
    have h1 : exprTab k = none := by rcases hk' with rfl | rfl <;> decide +kernel
    have h2 : thingTab k = some 2 := by rcases hk' with rfl | rfl <;> decide +kernel
    have h3 : k ∉ L5 := by rcases hk' with rfl | rfl <;> decide +kernel
    have h7 : ¬ k = "check" := by rcases hk' with rfl | rfl <;> decide +kernel
    have h4 : k ∈ L2' := by rcases hk' with rfl | rfl <;> decide +kernel
    have h6 : k ∈ kinds := by rcases hk' with rfl | rfl <;> decide +kernel
    exact ⟨k, .non, .str n, ⟨_, rfl⟩, h6, Eq2.flat .non, .str _, tabN h1, fun _ => rfl, tabS h2 (atI_nat (j := 2) rfl), tabX h2, fun z => absurd z h3, fun _ z => absurd z h7, fun _ _ => rfl, fun _ => atI_nat (j := 2) rfl, fun z => absurd h4 z, fun z => absurd h4 z⟩
  | one k n hk =>
    have hk' : k = "lock" ∨ k = "unlock" ∨ k = "wait" ∨ k = "notify" ∨ k = "notifyall" := by simpa using hk
    have h1 : exprTab k = none := by rcases hk' with rfl | rfl | rfl | rfl | rfl <;> decide +kernel
    have h2 : thingTab k = some 1 := by rcases hk' with rfl | rfl | rfl | rfl | rfl <;> decide +kernel
    have h3 : k ∉ L5 := by rcases hk' with rfl | rfl | rfl | rfl | rfl <;> decide +kernel
    have h7 : ¬ k = "check" := by rcases hk' with rfl | rfl | rfl | rfl | rfl <;> decide +kernel
    have h4 : k ∉ L2' := by rcases hk' with rfl | rfl | rfl | rfl | rfl <;> decide +kernel
    have h5 : k ∉ L6 := by rcases hk' with rfl | rfl | rfl | rfl | rfl <;> decide +kernel
    have h6 : k ∈ kinds := by rcases hk' with rfl | rfl | rfl | rfl | rfl <;> decide +kernel
    exact ⟨k, .non, .str n, ⟨_, rfl⟩, h6, Eq2.flat .non, .str _, tabN h1, fun _ => rfl, tabS h2 (atI_nat (j := 1) rfl), tabX h2, fun z => absurd z h3, fun _ z => absurd z h7, fun _ _ => rfl, fun z => absurd z h4, fun _ z => absurd z h5, fun _ _ => atI_nat (j := 1) rfl⟩
  | bare k hk =>
    have hk' : k = "stop" ∨ k = "begin" ∨ k = "end" := by simpa using hk
    have h1 : exprTab k = none := by rcases hk' with rfl | rfl | rfl <;> decide +kernel
    have h2 : thingTab k = none := by rcases hk' with rfl | rfl | rfl <;> decide +kernel
    have h3 : k ∉ L5 := by rcases hk' with rfl | rfl | rfl <;> decide +kernel
    have h7 : ¬ k = "check" := by rcases hk' with rfl | rfl | rfl <;> decide +kernel
    have h4 : k ∉ L2' := by rcases hk' with rfl | rfl | rfl <;> decide +kernel
    have h5 : k ∈ L6 := by rcases hk' with rfl | rfl | rfl <;> decide +kernel
    have h6 : k ∈ kinds := by rcases hk' with rfl | rfl | rfl <;> decide +kernel
    exact ⟨k, .non, .non, ⟨_, rfl⟩, h6, Eq2.flat .non, .non, tabN h1, fun _ => rfl, tabN h2, fun _ => rfl, fun z => absurd z h3, fun _ z => absurd z h7, fun _ _ => rfl, fun z => absurd z h4, fun _ _ => rfl, fun _ z => absurd h5 z⟩

/-- a dict of the top: where it stands, what it holds at each kind -/
structure TabOk (K : PySem.W.Frag) (w : World) (mg : Str → Option Value) (x : Str) (tab : Str → Option Int) (d : Addr) (es : Array DictEntry) (n : Nat) : Prop where
  g : mg x = some (.ref d)
  kd : KDict K w d es n
  at_ : ∀ k ∈ kinds, ∃ r, PySem.W.nsIn K d k = some r ∧ RelO ((tab k).map V.int) r

theorem scExpr : FnScope ["instruction"] ["instruction"] (defScope sExpr) := ⟨rfl, rfl, rfl, by decide +kernel, rfl, by decide +kernel, by decide +kernel⟩
theorem scThing : FnScope ["instruction"] ["instruction"] (defScope sThing) := ⟨rfl, rfl, rfl, by decide +kernel, rfl, by decide +kernel, by decide +kernel⟩
theorem scTreeOf : FnScope ["_law_item"] ["_law_item"] (defScope sTreeOf) := ⟨rfl, rfl, rfl, by decide +kernel, rfl, by decide +kernel, by decide +kernel⟩
theorem scLThing : FnScope ["_law_item"] ["_law_item"] (defScope sLThing) := ⟨rfl, rfl, rfl, by decide +kernel, rfl, by decide +kernel, by decide +kernel⟩
def spExpr : Sp := fun vs H Q _ => ∃ (a : Addr) (cs : List V) (k : Str) (e th : V), vs = [.ref a] ∧ H a = some (.tup cs) ∧ Ins9 H cs k e th ∧ Q e H
def spThing : Sp := fun vs H Q _ => ∃ (a : Addr) (cs : List V) (k : Str) (e th : V), vs = [.ref a] ∧ H a = some (.tup cs) ∧ Ins9 H cs k e th ∧ Q th H
/-- .. by the law's own defs, which lay a list or two -/
def spTreeOf : Sp := fun vs H Q _ => ∃ (a : Addr) (cs : List V) (k : Str) (e th : V), vs = [.ref a] ∧ H a = some (.tup cs) ∧ Ins9 H cs k e th ∧ ∀ H', Same H H' → Q e H'
def spLThing : Sp := fun vs H Q _ => ∃ (a : Addr) (cs : List V) (k : Str) (e th : V), vs = [.ref a] ∧ H a = some (.tup cs) ∧ Ins9 H cs k e th ∧ ∀ H', Same H H' → Q th H'
section
variable {P : Program} {w : World} {K : PySem.W.Frag} {mg : Str → Option Value} {base : Heap}
theorem ok_expr {f d : Addr} {fd : FuncData} {es : Array DictEntry} {n : Nat} (F : Fun K "expression_of" "expression_of" sExpr f fd) (D : TabOk K w mg "WITH_TREE" exprTab d es n) : FnOk P w K mg base CX0 1 f fd ["instruction"] spExpr := by
  refine F.ok scExpr (fun vs H Q E h => ?_) (fun cdv A outer s H vs Q E hr h => ?_)
  · obtain ⟨a, cs, k, e, th, rfl, _⟩ := h
    rfl
  · obtain ⟨a, cs, k, e, th, rfl, ha, I, q⟩ := h
    obtain ⟨r, rfl⟩ := I.head
    obtain ⟨ro, hr1, hr2⟩ := D.at_ k I.kin
    refine ⟨_, (pss_cons (ps_if (pt_cmpR (op_in_kd D.kd) (pe_ix ix_tup (pv 0) pe_int (fun _ _ => rfl)) (pe_glob (v := .ref d) (by rfl) D.g rfl) rfl)
      (pss_one (ps_ret (pe_ix ix_tup (pv 0) (pe_ix ix_kdict (pe_glob (v := .ref d) (by rfl) D.g rfl) (pe_ix ix_tup (pv 0) pe_int (fun _ _ => rfl)) (fun _ _ => rfl)) (fun _ _ => rfl))))
      pss_nil)
      (pss_one (ps_ret pe_non))), ?_⟩
    refine ⟨_, rfl, a, _, 0, _, rfl, rfl, .of ha, atI_nat (j := 0) rfl, k, ro, rfl, rfl, hr1, _, rfl, ?_⟩
    cases ee : exprTab k with
    | none =>
      rw [ee] at hr2
      obtain rfl : ro = none := RelO.none_of hr2
      refine iteF ?_
      have z := I.eN ee
      subst z
      exact q
    | some i =>
      rw [ee] at hr2
      obtain ⟨u, rfl, ru⟩ := RelO.some_of hr2
      refine iteT ⟨_, rfl, _, rfl, a, _, 0, _, rfl, rfl, .of ha, atI_nat (j := 0) rfl, d, k, _, rfl, rfl, ⟨es, n, u, D.kd.at_, D.kd.lit, hr1, ru⟩, a, _, i, e, rfl, rfl, .of ha, I.eS i ee, q⟩
theorem ok_thing {f d : Addr} {fd : FuncData} {es : Array DictEntry} {n : Nat} (F : Fun K "thing_of" "thing_of" sThing f fd) (D : TabOk K w mg "WITH_THING" thingTab d es n) : FnOk P w K mg base CX0 1 f fd ["instruction"] spThing := by
  refine F.ok scThing (fun vs H Q E h => ?_) (fun cdv A outer s H vs Q E hr h => ?_)
  · obtain ⟨a, cs, k, e, th, rfl, _⟩ := h
    rfl
  · obtain ⟨a, cs, k, e, th, rfl, ha, I, q⟩ := h
    obtain ⟨r, rfl⟩ := I.head
    obtain ⟨ro, hr1, hr2⟩ := D.at_ k I.kin
    refine ⟨_, (pss_cons (ps_if (pt_cmpR (op_in_kd D.kd) (pe_ix ix_tup (pv 0) pe_int (fun _ _ => rfl)) (pe_glob (v := .ref d) (by rfl) D.g rfl) rfl)
      (pss_one (ps_ret (pe_ix ix_tup (pv 0) (pe_ix ix_kdict (pe_glob (v := .ref d) (by rfl) D.g rfl) (pe_ix ix_tup (pv 0) pe_int (fun _ _ => rfl)) (fun _ _ => rfl)) (fun _ _ => rfl))))
      pss_nil)
      (pss_one (ps_ret pe_non))), ?_⟩
    refine ⟨_, rfl, a, _, 0, _, rfl, rfl, .of ha, atI_nat (j := 0) rfl, k, ro, rfl, rfl, hr1, _, rfl, ?_⟩
    cases ee : thingTab k with
    | none =>
      rw [ee] at hr2
      obtain rfl : ro = none := RelO.none_of hr2
      refine iteF ?_
      have z := I.tN ee
      subst z
      exact q
    | some i =>
      rw [ee] at hr2
      obtain ⟨u, rfl, ru⟩ := RelO.some_of hr2
      refine iteT ⟨_, rfl, _, rfl, a, _, 0, _, rfl, rfl, .of ha, atI_nat (j := 0) rfl, d, k, _, rfl, rfl, ⟨es, n, u, D.kd.at_, D.kd.lit, hr1, ru⟩, a, _, i, th, rfl, rfl, .of ha, I.tS i ee, q⟩
theorem ok_treeof {f : Addr} {fd : FuncData} (F : Fun K "_law_tree_of" "_law_tree_of" sTreeOf f fd) : FnOk P w K mg base CX0 1 f fd ["_law_item"] spTreeOf := by
  refine F.ok scTreeOf (fun vs H Q E h => ?_) (fun cdv A outer s H vs Q E hr h => ?_)
  · obtain ⟨a, cs, k, e, th, rfl, _⟩ := h
    rfl
  · obtain ⟨a, cs, k, e, th, rfl, ha, I, q⟩ := h
    obtain ⟨r, rfl⟩ := I.head
    refine ⟨_, (pss_cons (ps_if (pt_cmpR op_in_seq (pe_ix ix_tup (pv 0) pe_int (fun _ _ => rfl)) (pe_lst (pa_cons pe_str (pa_cons pe_str (pa_cons pe_str (pa_cons pe_str (pa_cons pe_str pa_nil)))))) rfl)
      (pss_one (ps_ret (pe_ix ix_tup (pv 0) pe_int (fun _ _ => rfl))))
      pss_nil)
      (pss_cons (ps_if (pt_cmpR op_eq (pe_ix ix_tup (pv 0) pe_int (fun _ _ => rfl)) pe_str (nomark _))
      (pss_one (ps_ret (pe_ix ix_tup (pv 0) pe_int (fun _ _ => rfl))))
      pss_nil)
      (pss_one (ps_ret pe_non)))), ?_⟩
    refine ⟨_, rfl, a, _, 0, _, rfl, rfl, .of ha, atI_nat (j := 0) rfl, (by show 5 ≤ sizeLine; decide), fun l nl => ⟨l, _, rfl, .inl (.of upd_same), rfl, rfl, _, rfl, ?_⟩⟩
    have ha' := same_upd (o := .lst (L5.map V.str)) nl _ _ ha
    have q' := q _ (same_upd (o := .lst (L5.map V.str)) nl)
    show if inV (.str k) (L5.map V.str) = true then _ else _
    rw [inV_strs]
    refine ite2 (fun c => ?_) (fun c => ?_)
    · exact ⟨_, rfl, a, _, 2, e, rfl, rfl, .of ha', I.l5 (of_decide_eq_true c), q'⟩
    have c' : k ∉ L5 := fun z => c (decide_eq_true z)
    refine ⟨_, rfl, a, _, 0, _, rfl, rfl, .of ha', atI_nat (j := 0) rfl, rfl, _, rfl, ite2 (fun c2 => ?_) (fun c2 => ?_)⟩
    · exact ⟨_, rfl, a, _, 1, e, rfl, rfl, .of ha', I.lc c' (dec_str2 c2), q'⟩
    · have z := I.ln c' (dec_str3 c2)
      subst z
      exact q'
theorem ok_lthing {f : Addr} {fd : FuncData} (F : Fun K "_law_thing" "_law_thing" sLThing f fd) : FnOk P w K mg base CX0 1 f fd ["_law_item"] spLThing := by
  refine F.ok scLThing (fun vs H Q E h => ?_) (fun cdv A outer s H vs Q E hr h => ?_)
  · obtain ⟨a, cs, k, e, th, rfl, _⟩ := h
    rfl
  · obtain ⟨a, cs, k, e, th, rfl, ha, I, q⟩ := h
    obtain ⟨r, rfl⟩ := I.head
    refine ⟨_, (pss_cons (ps_if (pt_cmpR op_in_seq (pe_ix ix_tup (pv 0) pe_int (fun _ _ => rfl)) (pe_lst (pa_cons pe_str (pa_cons pe_str pa_nil))) rfl)
      (pss_one (ps_ret (pe_ix ix_tup (pv 0) pe_int (fun _ _ => rfl))))
      pss_nil)
      (pss_cons (ps_if (pt_cmpR op_in_seq (pe_ix ix_tup (pv 0) pe_int (fun _ _ => rfl)) (pe_lst (pa_cons pe_str (pa_cons pe_str (pa_cons pe_str (pa_cons pe_str (pa_cons pe_str (pa_cons pe_str pa_nil))))))) rfl)
      (pss_one (ps_ret pe_non))
      pss_nil)
      (pss_one (ps_ret (pe_ix ix_tup (pv 0) pe_int (fun _ _ => rfl)))))), ?_⟩
    refine ⟨_, rfl, a, _, 0, _, rfl, rfl, .of ha, atI_nat (j := 0) rfl, (by show 2 ≤ sizeLine; decide), fun l nl => ⟨l, _, rfl, .inl (.of upd_same), rfl, rfl, _, rfl, ?_⟩⟩
    have s1 := same_upd (o := .lst (L2'.map V.str)) nl
    have ha1 := s1 _ _ ha
    show if inV (.str k) (L2'.map V.str) = true then _ else _
    rw [inV_strs]
    refine ite2 (fun c => ?_) (fun c => ?_)
    · exact ⟨_, rfl, a, _, 2, th, rfl, rfl, .of ha1, I.g2 (of_decide_eq_true c), q _ s1⟩
    have c' : k ∉ L2' := fun z => c (decide_eq_true z)
    refine ⟨_, rfl, a, _, 0, _, rfl, rfl, .of ha1, atI_nat (j := 0) rfl, (by show 6 ≤ sizeLine; decide), fun m nm => ⟨m, _, rfl, .inl (.of upd_same), rfl, rfl, _, rfl, ?_⟩⟩
    have s2 := s1.trans (same_upd (o := .lst (L6.map V.str)) nm)
    have ha2 := s2 _ _ ha
    show if inV (.str k) (L6.map V.str) = true then _ else _
    rw [inV_strs]
    refine ite2 (fun c2 => ?_) (fun c2 => ?_)
    · have z := I.g6 c' (of_decide_eq_true c2)
      subst z
      exact q _ s2
    · exact ⟨_, rfl, a, _, 1, th, rfl, rfl, .of ha2, I.g1 c' (fun z => c2 (decide_eq_true z)), q _ s2⟩
end
end Fst

/-! The first state, twice. -/
namespace Fst
open PySem PySem.Spec PyProof.Rows L2

/-- the variables' first values -/
def valV : Thing → List V
  | .var _ v => [.int v]
  | _ => []
def vals (sh : Sh) : List V := sh.flatMap fun p => valV p.2
theorem vals_snoc (l : Sh) (p : Addr × Thing) : vals (l ++ [p]) = vals l ++ valV p.2 := by
  unfold vals
  rw [List.flatMap_append]
  show _ ++ (valV p.2 ++ []) = _
  rw [List.append_nil]
theorem vals_le : ∀ l : Sh, (vals l).length ≤ l.length
  | [] => Nat.le_refl 0
  | p :: l => by
    have ih := vals_le l
    have h1 : (valV p.2).length ≤ 1 := by
      cases p.2 with
      | var n v => exact Nat.le_refl 1
      | lock n => exact Nat.zero_le 1
      | cond n m => exact Nat.zero_le 1
      | queue n k => exact Nat.zero_le 1
    unfold vals at ih ⊢
    rw [List.flatMap_cons, List.length_append, List.length_cons]
    omega
theorem vals_flat : ∀ (l : Sh) (v : V), v ∈ vals l → Flat v := fun l v hv => by
  obtain ⟨p, _, h⟩ := List.mem_flatMap.mp hv
  obtain ⟨a, t⟩ := p
  cases t with
  | var n i =>
    have e : v = .int i := by simpa [valV] using h
    rw [e]
    exact .int _
  | lock n => exact absurd h List.not_mem_nil
  | cond n m => exact absurd h List.not_mem_nil
  | queue n k => exact absurd h List.not_mem_nil
theorem var_of {t : Thing} (h : t.kind = "var") : ∃ n v, t = .var n v := by
  cases t with
  | var n v => exact ⟨n, v, rfl⟩
  | lock n => exact absurd h (show ¬ (PySem.Str.ofString "lock" = PySem.Str.ofString "var") by decide +kernel)
  | cond n m => exact absurd h (show ¬ (PySem.Str.ofString "cond" = PySem.Str.ofString "var") by decide +kernel)
  | queue n k => exact absurd h (show ¬ (PySem.Str.ofString "queue" = PySem.Str.ofString "var") by decide +kernel)
theorem not_var {t : Thing} (h : ¬ t.kind = "var") : valV t = [] := by
  cases t with
  | var n v => exact absurd rfl h
  | lock n => rfl
  | cond n m => rfl
  | queue n k => rfl

/-- n empty tuples -/
def EmpAt (H : Hp) (xs : List V) (n : Nat) : Prop := xs.length = n ∧ ∀ v ∈ xs, ∃ a, v = .ref a ∧ H a = some (.tup [])
/-- n threads ahead of their first steps -/
def TstAt (H : Hp) (xs : List V) (n : Nat) : Prop := xs.length = n ∧ ∀ v ∈ xs, ∃ a r, v = .ref a ∧ H a = some (.tup [.int 0, .ref r, .str "run", .non]) ∧ H r = some (.tup [.int 0, .int 0, .int 0, .int 0])
theorem EmpAt.mono {H H' : Hp} {xs : List V} {n : Nat} (h : EmpAt H xs n) (t : Tups H H') : EmpAt H' xs n := ⟨h.1, fun v hv => by
  obtain ⟨a, e, ha⟩ := h.2 v hv
  exact ⟨a, e, t _ _ ha⟩⟩
theorem TstAt.mono {H H' : Hp} {xs : List V} {n : Nat} (h : TstAt H xs n) (t : Tups H H') : TstAt H' xs n := ⟨h.1, fun v hv => by
  obtain ⟨a, r, e, ha, hr⟩ := h.2 v hv
  exact ⟨a, r, e, t _ _ ha, t _ _ hr⟩⟩
theorem EmpAt.snoc {H : Hp} {xs : List V} {n : Nat} {a : Addr} (h : EmpAt H xs n) (ha : H a = some (.tup [])) : EmpAt H (xs ++ [.ref a]) (n + 1) := ⟨by rw [List.length_append, h.1]; rfl, fun v hv => by
  rcases List.mem_append.mp hv with hv | hv
  · exact h.2 v hv
  · exact ⟨a, by simpa using hv, ha⟩⟩
theorem TstAt.snoc {H : Hp} {xs : List V} {n : Nat} {a r : Addr} (h : TstAt H xs n) (ha : H a = some (.tup [.int 0, .ref r, .str "run", .non])) (hr : H r = some (.tup [.int 0, .int 0, .int 0, .int 0])) : TstAt H (xs ++ [.ref a]) (n + 1) :=
  ⟨by rw [List.length_append, h.1]; rfl, fun v hv => by
  rcases List.mem_append.mp hv with hv | hv
  · exact h.2 v hv
  · exact ⟨a, r, by simpa using hv, ha, hr⟩⟩
theorem EmpAt.rep {H : Hp} {a : Addr} (ha : H a = some (.tup [])) (n : Nat) : EmpAt H (List.replicate n (.ref a)) n := ⟨List.length_replicate, fun v hv => ⟨a, List.eq_of_mem_replicate hv, ha⟩⟩
theorem TstAt.rep {H : Hp} {a r : Addr} (ha : H a = some (.tup [.int 0, .ref r, .str "run", .non])) (hr : H r = some (.tup [.int 0, .int 0, .int 0, .int 0])) (n : Nat) : TstAt H (List.replicate n (.ref a)) n := ⟨List.length_replicate, fun v hv => ⟨a, r, List.eq_of_mem_replicate hv, ha, hr⟩⟩
theorem rep1 {α : Type} (n : Nat) (v : α) : (List.replicate n [v]).flatten = List.replicate n v := by
  induction n with
  | zero => rfl
  | succ n ih =>
    rw [List.replicate_succ, List.flatten_cons, ih, List.replicate_succ]
    rfl

/-- a first state -/
def FstAt (H : Hp) (q : Addr) (sh : Sh) (n : Nat) : Prop := ∃ (a1 a2 a3 a4 a5 : Addr) (x3 x4 x5 : List V), H q = some (.tup [.ref a1, .ref a2, .ref a3, .ref a4, .ref a5]) ∧ H a1 = some (.tup (vals sh)) ∧
  H a2 = some (.tup (List.replicate (nmsK "lock" sh).length .non)) ∧ H a3 = some (.tup x3) ∧ EmpAt H x3 (nmsK "queue" sh).length ∧ H a4 = some (.tup x4) ∧ EmpAt H x4 (nmsK "cond" sh).length ∧ H a5 = some (.tup x5) ∧ TstAt H x5 n
theorem eq_tups {n : Nat} {H : Hp} {a b : Addr} {xs ys : List V} (ha : H a = some (.tup xs)) (hb : H b = some (.tup ys)) (hl : xs.length = ys.length) (hz : xs.length ≤ 1000) (h : ∀ (u v : V), u ∈ xs → v ∈ ys → Eq2 n H u v) : Eq2 (n + 1) H (.ref a) (.ref b) :=
  .inr ⟨a, b, xs, ys, rfl, rfl, ha, hb, hl, hz, fun i u v h1 h2 => h u v (List.mem_of_getElem? h1) (List.mem_of_getElem? h2)⟩
theorem eq_same {n : Nat} {H : Hp} {a b : Addr} {xs : List V} (ha : H a = some (.tup xs)) (hb : H b = some (.tup xs)) (hz : xs.length ≤ 1000) (h : ∀ u ∈ xs, Eq2 n H u u) : Eq2 (n + 1) H (.ref a) (.ref b) :=
  .inr ⟨a, b, xs, xs, rfl, rfl, ha, hb, rfl, hz, fun i u v h1 h2 => by
    rw [h1] at h2
    cases h2
    exact h u (List.mem_of_getElem? h1)⟩
theorem FstAt.same {H : Hp} {q q' : Addr} {sh : Sh} {n : Nat} (h : FstAt H q sh n) (h' : FstAt H q' sh n) (h6 : sh.length ≤ 6) (hn : n ≤ 4) : Eq2 5 H (.ref q) (.ref q') := by
  obtain ⟨a1, a2, a3, a4, a5, x3, x4, x5, hq, h1, h2, h3, e3, h4, e4, h5, e5⟩ := h
  obtain ⟨b1, b2, b3, b4, b5, y3, y4, y5, gq, g1, g2, g3, f3, g4, f4, g5, f5⟩ := h'
  have le : ∀ kd, (nmsK kd sh).length ≤ 1000 := fun kd => Nat.le_trans (nmsK_le kd sh) (by omega)
  have emp : ∀ {a b : Addr} {xs ys : List V} {m : Nat}, H a = some (.tup xs) → H b = some (.tup ys) → EmpAt H xs m → EmpAt H ys m → m ≤ 1000 → Eq2 4 H (.ref a) (.ref b) := fun {a b xs ys m} ha hb ea eb hm =>
    eq_tups ha hb (ea.1.trans eb.1.symm) (by rw [ea.1]; exact hm) fun u v hu hv => by
      obtain ⟨c, rfl, hc⟩ := ea.2 u hu
      obtain ⟨d, rfl, hd⟩ := eb.2 v hv
      exact eq_same hc hd (Nat.zero_le _) fun z hz => absurd hz List.not_mem_nil
  have p1 : Eq2 4 H (.ref a1) (.ref b1) := eq_same h1 g1 (Nat.le_trans (vals_le sh) (by omega)) fun u hu => Eq2.flat (vals_flat sh u hu)
  have p2 : Eq2 4 H (.ref a2) (.ref b2) := eq_same h2 g2 (by rw [List.length_replicate]; exact le _) fun u hu => by
    rw [List.eq_of_mem_replicate hu]
    exact Eq2.flat .non
  have p3 := emp h3 g3 e3 f3 (le _)
  have p4 := emp h4 g4 e4 f4 (le _)
  have p5 : Eq2 4 H (.ref a5) (.ref b5) := eq_tups h5 g5 (e5.1.trans f5.1.symm) (by rw [e5.1]; omega) fun u v hu hv => by
    obtain ⟨c, r, rfl, hc, hr⟩ := e5.2 u hu
    obtain ⟨d, s, rfl, hd, hs⟩ := f5.2 v hv
    refine .inr ⟨c, d, _, _, rfl, rfl, hc, hd, rfl, (by show 4 ≤ 1000; decide), fun i u v h1 h2 => ?_⟩
    match i, h1, h2 with
    | 0, h1, h2 =>
      cases h1
      cases h2
      exact Eq2.flat (.int _)
    | 1, h1, h2 =>
      cases h1
      cases h2
      refine eq_same hr hs (by show 4 ≤ 1000; decide) fun z hz => ?_
      simp only [List.mem_cons, List.not_mem_nil, or_false] at hz
      rcases hz with rfl | rfl | rfl | rfl <;> exact Eq2.flat (.int _)
    | 2, h1, h2 =>
      cases h1
      cases h2
      exact Eq2.flat (.str _)
    | 3, h1, h2 =>
      cases h1
      cases h2
      exact Eq2.flat .non
    | i + 4, h1, h2 => cases h1
  refine .inr ⟨q, q', _, _, rfl, rfl, hq, gq, rfl, (by show 5 ≤ 1000; decide), fun i u v h1 h2 => ?_⟩
  match i, h1, h2 with
  | 0, h1, h2 =>
    cases h1
    cases h2
    exact p1
  | 1, h1, h2 =>
    cases h1
    cases h2
    exact p2
  | 2, h1, h2 =>
    cases h1
    cases h2
    exact p3
  | 3, h1, h2 =>
    cases h1
    cases h2
    exact p4
  | 4, h1, h2 =>
    cases h1
    cases h2
    exact p5
  | i + 5, h1, h2 => cases h1
theorem FstAt.mono {H H' : Hp} {q : Addr} {sh : Sh} {n : Nat} (h : FstAt H q sh n) (t : Tups H H') : FstAt H' q sh n := by
  obtain ⟨a1, a2, a3, a4, a5, x3, x4, x5, hq, h1, h2, h3, e3, h4, e4, h5, e5⟩ := h
  exact ⟨a1, a2, a3, a4, a5, x3, x4, x5, t _ _ hq, t _ _ h1, t _ _ h2, t _ _ h3, e3.mono t, t _ _ h4, e4.mono t, t _ _ h5, e5.mono t⟩

theorem scFirst : FnScope ["program", "values", "owners", "queues", "waiting", "threads", "thing", "_"] ["program"] (defScope sFirst) := ⟨rfl, rfl, rfl, by decide +kernel, rfl, by decide +kernel, by decide +kernel⟩
theorem scLFirst : FnScope ["_law_program_here", "_law_values", "_law_owners", "_law_queues", "_law_waiting", "_law_threads", "_law_thing_here"] ["_law_program_here"] (defScope sLFirst) := ⟨rfl, rfl, rfl, by decide +kernel, rfl, by decide +kernel, by decide +kernel⟩
def spFirst : Sp := fun vs H Q _ => ∃ (p : Addr) (sh : Sh) (ts : Ths), vs = [.ref p] ∧ Pg H p sh ts ∧ ∀ (q : Addr) (H' : Hp), Same H H' → FstAt H' q sh ts.length → Q (.ref q) H'
/-- one turn of the values' comprehension, its item taken -/
theorem vals_yes {sh : Sh} {i : Nat} {p : Addr × Thing} {n : Str} {v : Int} (hp : sh[i]? = some p) (e : p.2 = .var n v) : vals (sh.take (i + 1)) = vals (sh.take i) ++ [.int v] := by
  rw [List.take_add_one, hp]
  show vals (_ ++ [p]) = _
  rw [vals_snoc, e]
  rfl
theorem vals_no {sh : Sh} {i : Nat} {p : Addr × Thing} (hp : sh[i]? = some p) (e : ¬ p.2.kind = "var") : vals (sh.take (i + 1)) = vals (sh.take i) := by
  rw [List.take_add_one, hp]
  show vals (_ ++ [p]) = _
  rw [vals_snoc, not_var e, List.append_nil]
theorem vals_sz {sh : Sh} (i : Nat) (h : sh.length ≤ 6) : (vals (sh.take i)).length < sizeLine := by
  refine small1000 ?_
  have h1 := vals_le (sh.take i)
  rw [List.length_take] at h1
  omega
theorem put_same {H H3 : Hp} {D : Addr} {o : HO} (nD : H D = none) (s : Same H H3) : Same H (upd H3 D o) := fun b u e => by
  rw [upd_ne (ne_of_none e nD)]
  exact s b u e
theorem tups_put {H : Hp} {D : Addr} {o : HO} {xs : List V} (hD : H D = some (.lst xs)) : Tups H (upd H D o) := fun a ys e => by
  rw [upd_ne]
  · exact e
  · intro z
    rw [z, hD] at e
    cases e
section
variable {P : Program} {w : World} {K : PySem.W.Frag} {mg : Str → Option Value} {base : Heap}
theorem ok_first {f fN : Addr} {fd fdN : FuncData} {u : Value} (F : Fun K "first_state" "first_state" sFirst f fd) (T : Zt mg) (hrun : mg "RUN" = some u) (ru : RelV (.str "run") u)
    (C_names_of : Ca P w K mg base CX0 1 "names_of" ["program", "kind"] spNames fN fdN) : FnOk P w K mg base CX0 2 f fd ["program"] spFirst := by
  refine F.ok scFirst (fun vs H Q E h => ?_) (fun cdv A outer s H vs Q E hr h => ?_)
  · obtain ⟨p, sh, ts, rfl, _⟩ := h
    rfl
  · obtain ⟨p, sh, ts, rfl, pg, q⟩ := h
    refine ⟨_, (pss_cons (ps_set (i := 1) scFirst.nd rfl (.inl rfl) (pe_callTy call_tuple_of (by rfl) T.z_tuple (by decide +kernel) (pa_cons (pe_lc (own := [("thing", 6)]) (g := gName 6) rfl scFirst.nd (pi_tup (pe_ix ix_tup (pv 0) pe_int (fun _ _ => rfl))) (blkOk_by (N := ["program", "values", "owners", "queues", "waiting", "threads", "thing", "_"]) (sc := defScope sFirst) (by decide +kernel)) (fun _ _ _ _ _ => pg_name (i := 6) scFirst.nd rfl (.inl rfl)) (fun _ _ _ _ _ => pts_one (pt_cmpR op_eq (pe_ix (r := rIxT K) ix_tup (pv 6) pe_int (fun _ _ => rfl)) pe_str (nomark _))) (fun _ _ _ _ _ => (pe_ix (r := rIxT K) ix_tup (pv 6) pe_int (fun _ _ => rfl)))) pa_nil)))
      (pss_cons (ps_set (i := 2) scFirst.nd rfl (.inl rfl) (pe_callTy call_tuple_of (by rfl) T.z_tuple (by decide +kernel) (pa_cons (pe_lc (own := [("_", 7)]) (g := gName 7) (tt := tYes) rfl scFirst.nd (pi_tup (pe_call C_names_of.G hr (by rfl) C_names_of.g C_names_of.kp C_names_of.b .nil pass0 (pa_cons (pv 0) (pa_cons pe_str pa_nil)))) (blkOk_by (N := ["program", "values", "owners", "queues", "waiting", "threads", "thing", "_"]) (sc := defScope sFirst) (by decide +kernel)) (fun _ _ _ _ _ => pg_name (i := 7) scFirst.nd rfl (.inl rfl)) (fun _ _ _ _ _ => pts_nil) (fun _ _ _ _ _ => pe_non)) pa_nil)))
      (pss_cons (ps_set (i := 3) scFirst.nd rfl (.inl rfl) (pe_callTy call_tuple_of (by rfl) T.z_tuple (by decide +kernel) (pa_cons (pe_lc (own := [("_", 7)]) (g := gName 7) (tt := tYes) rfl scFirst.nd (pi_tup (pe_call C_names_of.G hr (by rfl) C_names_of.g C_names_of.kp C_names_of.b .nil pass0 (pa_cons (pv 0) (pa_cons pe_str pa_nil)))) (blkOk_by (N := ["program", "values", "owners", "queues", "waiting", "threads", "thing", "_"]) (sc := defScope sFirst) (by decide +kernel)) (fun _ _ _ _ _ => pg_name (i := 7) scFirst.nd rfl (.inl rfl)) (fun _ _ _ _ _ => pts_nil) (fun _ _ _ _ _ => (pe_tup pa_nil))) pa_nil)))
      (pss_cons (ps_set (i := 4) scFirst.nd rfl (.inl rfl) (pe_callTy call_tuple_of (by rfl) T.z_tuple (by decide +kernel) (pa_cons (pe_lc (own := [("_", 7)]) (g := gName 7) (tt := tYes) rfl scFirst.nd (pi_tup (pe_call C_names_of.G hr (by rfl) C_names_of.g C_names_of.kp C_names_of.b .nil pass0 (pa_cons (pv 0) (pa_cons pe_str pa_nil)))) (blkOk_by (N := ["program", "values", "owners", "queues", "waiting", "threads", "thing", "_"]) (sc := defScope sFirst) (by decide +kernel)) (fun _ _ _ _ _ => pg_name (i := 7) scFirst.nd rfl (.inl rfl)) (fun _ _ _ _ _ => pts_nil) (fun _ _ _ _ _ => (pe_tup pa_nil))) pa_nil)))
      (pss_cons (ps_set (i := 5) scFirst.nd rfl (.inl rfl) (pe_callTy call_tuple_of (by rfl) T.z_tuple (by decide +kernel) (pa_cons (pe_lc (own := [("_", 7)]) (g := gName 7) (tt := tYes) rfl scFirst.nd (pi_tup (pe_ix ix_tup (pv 0) pe_int (fun _ _ => rfl))) (blkOk_by (N := ["program", "values", "owners", "queues", "waiting", "threads", "thing", "_"]) (sc := defScope sFirst) (by decide +kernel)) (fun _ _ _ _ _ => pg_name (i := 7) scFirst.nd rfl (.inl rfl)) (fun _ _ _ _ _ => pts_nil) (fun _ _ _ _ _ => (pe_tup (pa_cons pe_int (pa_cons (pe_tup (pa_cons pe_int (pa_cons pe_int (pa_cons pe_int (pa_cons pe_int pa_nil))))) (pa_cons (pe_glob (v := .str "run") (by rfl) hrun ru) (pa_cons pe_non pa_nil))))))) pa_nil)))
      (pss_one (ps_ret (pe_tup (pa_cons (pv 1) (pa_cons (pv 2) (pa_cons (pv 3) (pa_cons (pv 4) (pa_cons (pv 5) pa_nil))))))))))))), ?_⟩
    obtain ⟨sa, ta, hp, hsa, hta⟩ := pg.ex
    -- values
    refine ⟨_, rfl, p, _, 0, .ref sa, rfl, rfl, .of hp, atI_nat (j := 0) rfl, sa, rfl, ⟨_, .of hsa⟩, fun D nD => lc_tup (K := K) (a := sa) (xs := shV sh) (fun i H3 => Same H H3 ∧ H3 D = some (.lst (vals (sh.take i)))) ⟨same_upd nD, upd_same⟩ (fun i H3 _ z => .of (z.1 _ _ hsa)) ?_ ?_⟩
    · rintro i x H3 hx ⟨hs, hD⟩
      obtain ⟨t, ht, rfl, hm⟩ := shV_at hx
      have hc := hs _ _ (pg.ok.at_ t hm)
      refine ⟨rfl, _, rfl, t.1, _, 0, _, rfl, rfl, .of hc, atI_nat (j := 0) rfl, rfl, _, rfl, ite2 (fun c => ?_) (fun c => ?_)⟩
      · obtain ⟨n, v, e⟩ := var_of (dec_str2 c)
        refine ⟨_, rfl, t.1, _, 2, .int v, rfl, rfl, .of hc, atI_nat (j := 2) (by rw [e]; rfl), _, hD, vals_sz i pg.ok.len, put_same nD hs, ?_⟩
        rw [upd_same, vals_yes ht e]
      · exact ⟨hs, by rw [vals_no ht (dec_str3 c)]; exact hD⟩
    rintro H1 ⟨s1, hD⟩
    rw [shV_length, List.take_length] at hD
    refine ⟨D, _, rfl, .inl ⟨.of hD, fun a1 n1 => ?_⟩⟩
    have s1' := s1.trans (same_upd (o := .tup (vals sh)) n1)
    -- owners
    refine ⟨_, rfl, p, "lock", sh, rfl, pg.sh.mono (Tups.of s1'), fun l2 H2 s2 m2 h2 => ?_⟩
    refine ⟨l2, rfl, ⟨_, .of h2⟩, fun D2 nD2 => lc_tup (K := K) (a := l2) (xs := (nmsK "lock" sh).map V.str) (fun i H3 => Same H2 H3 ∧ H3 D2 = some (.lst (List.replicate i .non))) ⟨same_upd nD2, upd_same⟩ (fun i H3 _ z => .of (z.1 _ _ h2)) ?_ ?_⟩
    · rintro i x H3 hx ⟨hs, hD⟩
      have hi : i < (nmsK "lock" sh).length := by
        have e := (List.getElem?_eq_some_iff.mp hx).1
        rw [List.length_map] at e
        exact e
      have hle := nmsK_le "lock" sh
      have h6 := pg.ok.len
      refine ⟨rfl, _, hD, ?_, put_same nD2 hs, ?_⟩
      · rw [List.length_replicate]
        exact small1000 (by omega)
      · rw [upd_same, List.replicate_succ']
    rintro H3 ⟨s3, hD2⟩
    rw [List.length_map] at hD2
    refine ⟨D2, _, rfl, .inl ⟨.of hD2, fun a2 n2 => ?_⟩⟩
    have s3' := s2.trans (s3.trans (same_upd (o := .tup (List.replicate (nmsK "lock" sh).length .non)) n2))
    have s13 := s1'.trans s3'
    -- queues
    refine ⟨_, rfl, p, "queue", sh, rfl, pg.sh.mono (Tups.of s13), fun l4 H4 s4 m4 h4 => ?_⟩
    refine ⟨l4, rfl, ⟨_, .of h4⟩, fun D4 nD4 => lc_tup (K := K) (a := l4) (xs := (nmsK "queue" sh).map V.str) (fun i H5 => Same H4 H5 ∧ ∃ xs, H5 D4 = some (.lst xs) ∧ EmpAt H5 xs i) ⟨same_upd nD4, [], upd_same, rfl, fun v hv => absurd hv List.not_mem_nil⟩ (fun i H5 _ z => .of (z.1 _ _ h4)) ?_ ?_⟩
    · rintro i x H5 hx ⟨hs, xs, hD, he⟩
      have hi : i < (nmsK "queue" sh).length := by
        have e := (List.getElem?_eq_some_iff.mp hx).1
        rw [List.length_map] at e
        exact e
      have hle := nmsK_le "queue" sh
      have h6 := pg.ok.len
      refine ⟨rfl, Nat.zero_le _, fun a na => ?_⟩
      have hD' : upd H5 a (.tup []) D4 = some (.lst xs) := same_upd na _ _ hD
      refine ⟨_, hD', ?_, put_same nD4 (hs.trans (same_upd na)), _, upd_same, ((he.mono (Tups.of (same_upd na))).snoc upd_same).mono (tups_put hD')⟩
      rw [he.1]
      exact small1000 (by omega)
    rintro H5 ⟨s5, x3, hD4, e3⟩
    rw [List.length_map] at e3
    refine ⟨D4, _, rfl, .inl ⟨.of hD4, fun a3 n3 => ?_⟩⟩
    have s5' := s4.trans (s5.trans (same_upd (o := .tup x3) n3))
    have s15 := s13.trans s5'
    -- waiting
    refine ⟨_, rfl, p, "cond", sh, rfl, pg.sh.mono (Tups.of s15), fun l6 H6 s6 m6 h6 => ?_⟩
    refine ⟨l6, rfl, ⟨_, .of h6⟩, fun D6 nD6 => lc_tup (K := K) (a := l6) (xs := (nmsK "cond" sh).map V.str) (fun i H7 => Same H6 H7 ∧ ∃ xs, H7 D6 = some (.lst xs) ∧ EmpAt H7 xs i) ⟨same_upd nD6, [], upd_same, rfl, fun v hv => absurd hv List.not_mem_nil⟩ (fun i H7 _ z => .of (z.1 _ _ h6)) ?_ ?_⟩
    · rintro i x H7 hx ⟨hs, xs, hD, he⟩
      have hi : i < (nmsK "cond" sh).length := by
        have e := (List.getElem?_eq_some_iff.mp hx).1
        rw [List.length_map] at e
        exact e
      have hle := nmsK_le "cond" sh
      have h6 := pg.ok.len
      refine ⟨rfl, Nat.zero_le _, fun a na => ?_⟩
      have hD' : upd H7 a (.tup []) D6 = some (.lst xs) := same_upd na _ _ hD
      refine ⟨_, hD', ?_, put_same nD6 (hs.trans (same_upd na)), _, upd_same, ((he.mono (Tups.of (same_upd na))).snoc upd_same).mono (tups_put hD')⟩
      rw [he.1]
      exact small1000 (by omega)
    rintro H7 ⟨s7, x4, hD6, e4⟩
    rw [List.length_map] at e4
    refine ⟨D6, _, rfl, .inl ⟨.of hD6, fun a4 n4 => ?_⟩⟩
    have s7' := s6.trans (s7.trans (same_upd (o := .tup x4) n4))
    have s17 := s15.trans s7'
    -- threads
    refine ⟨_, rfl, p, _, 1, .ref ta, rfl, rfl, .of (s17 _ _ hp), atI_nat (j := 1) rfl, ta, rfl, ⟨_, .of (s17 _ _ hta)⟩, fun D8 nD8 => lc_tup (K := K) (a := ta) (xs := thsV ts) (fun i H9 => Same (upd H7 a4 (.tup x4)) H9 ∧ ∃ xs, H9 D8 = some (.lst xs) ∧ TstAt H9 xs i)
      ⟨same_upd nD8, [], upd_same, rfl, fun v hv => absurd hv List.not_mem_nil⟩ (fun i H9 _ z => .of (z.1 _ _ (s17 _ _ hta))) ?_ ?_⟩
    · rintro i x H9 hx ⟨hs, xs, hD, he⟩
      have hi : i < ts.length := by
        have e := (List.getElem?_eq_some_iff.mp hx).1
        rw [thsV_length] at e
        exact e
      have h4' := pg.len
      refine ⟨rfl, (by show 4 ≤ sizeLine; decide), fun r nr => ⟨(by show 4 ≤ sizeLine; decide), fun a na => ?_⟩⟩
      have s9 := (same_upd (o := .tup [.int 0, .int 0, .int 0, .int 0]) nr).trans (same_upd (o := .tup [.int 0, .ref r, .str "run", .non]) na)
      have hD' := s9 _ _ hD
      refine ⟨_, hD', ?_, put_same nD8 (hs.trans s9), _, upd_same, ((he.mono (Tups.of s9)).snoc upd_same (same_upd na _ _ upd_same)).mono (tups_put hD')⟩
      rw [he.1]
      exact small1000 (by omega)
    rintro H9 ⟨s9, x5, hD8, e5⟩
    rw [thsV_length] at e5
    refine ⟨D8, _, rfl, .inl ⟨.of hD8, fun a5 n5 => ?_⟩⟩
    have s9' := s9.trans (same_upd (o := .tup x5) n5)
    -- the state
    refine ⟨_, rfl, _, rfl, _, rfl, _, rfl, _, rfl, (by show 5 ≤ sizeLine; decide), fun r nr => ?_⟩
    have sr := same_upd (o := .tup [.ref a1, .ref a2, .ref a3, .ref a4, .ref a5]) nr
    have t9 := s9'.trans sr
    have t7 := s7'.trans t9
    have t5 := s5'.trans t7
    have t3 := s3'.trans t5
    have n5t := Tups.of ((same_upd (o := .tup x5) n5).trans sr)
    refine q r _ (s17.trans t9) ⟨a1, a2, a3, a4, a5, x3, x4, x5, upd_same, t3 _ _ upd_same, t5 _ _ upd_same, t7 _ _ upd_same, e3.mono (Tups.of ((same_upd (o := .tup x3) n3).trans t7)), t9 _ _ upd_same, e4.mono (Tups.of ((same_upd (o := .tup x4) n4).trans t9)), sr _ _ upd_same, e5.mono n5t⟩
end
end Fst

/-! The law's own first state. -/
namespace Fst
open PySem PySem.Spec PyProof.Rows L2
section
variable {P : Program} {w : World} {K : PySem.W.Frag} {mg : Str → Option Value} {base : Heap}
theorem ok_lfirst {f fN : Addr} {fd fdN : FuncData} (F : Fun K "_law_first" "_law_first" sLFirst f fd) (T : Zt mg)
    (C_law_names_of : Ca P w K mg base CX0 1 "_law_names_of" ["_law_program_here", "_law_kind"] spLNames fN fdN) : FnOk P w K mg base CX0 2 f fd ["_law_program_here"] spFirst := by
  refine F.ok scLFirst (fun vs H Q E h => ?_) (fun cdv A outer s H vs Q E hr h => ?_)
  · obtain ⟨p, sh, ts, rfl, _⟩ := h
    rfl
  · obtain ⟨p, sh, ts, rfl, pg, q⟩ := h
    refine ⟨_, (pss_cons (ps_setLc (i := 1) (own := [("_law_thing_here", 6)]) (g := gName 6) rfl scLFirst.nd rfl rfl (sw_true rfl rfl rfl (by decide +kernel)) (pi_tup (pe_ix ix_tup (pv 0) pe_int (fun _ _ => rfl))) (blkOk_by (N := ["_law_program_here", "_law_values", "_law_owners", "_law_queues", "_law_waiting", "_law_threads", "_law_thing_here"]) (sc := defScope sLFirst) (by decide +kernel)) (fun _ _ _ _ _ => pg_name (i := 6) scLFirst.nd rfl (.inl rfl)) (fun _ _ _ _ _ => pts_one (pt_cmpR op_eq (pe_ix (r := rIxT K) ix_tup (pv 6) pe_int (fun _ _ => rfl)) pe_str (nomark _))) (fun _ _ _ _ _ => (pe_ix (r := rIxT K) ix_tup (pv 6) pe_int (fun _ _ => rfl))))
      (pss_cons (ps_set (i := 2) scLFirst.nd rfl (.inl rfl) (pe_op op_rep (pe_lst (pa_cons pe_non pa_nil)) (pe_callB call_len_seq (by rfl) T.z_len PySem.boot_len (pa_cons (pe_call C_law_names_of.G hr (by rfl) C_law_names_of.g C_law_names_of.kp C_law_names_of.b .nil pass0 (pa_cons (pv 0) (pa_cons pe_str pa_nil))) pa_nil))))
      (pss_cons (ps_set (i := 3) scLFirst.nd rfl (.inl rfl) (pe_op op_rep (pe_lst (pa_cons (pe_tup pa_nil) pa_nil)) (pe_callB call_len_seq (by rfl) T.z_len PySem.boot_len (pa_cons (pe_call C_law_names_of.G hr (by rfl) C_law_names_of.g C_law_names_of.kp C_law_names_of.b .nil pass0 (pa_cons (pv 0) (pa_cons pe_str pa_nil))) pa_nil))))
      (pss_cons (ps_set (i := 4) scLFirst.nd rfl (.inl rfl) (pe_op op_rep (pe_lst (pa_cons (pe_tup pa_nil) pa_nil)) (pe_callB call_len_seq (by rfl) T.z_len PySem.boot_len (pa_cons (pe_call C_law_names_of.G hr (by rfl) C_law_names_of.g C_law_names_of.kp C_law_names_of.b .nil pass0 (pa_cons (pv 0) (pa_cons pe_str pa_nil))) pa_nil))))
      (pss_cons (ps_set (i := 5) scLFirst.nd rfl (.inl rfl) (pe_op op_rep (pe_lst (pa_cons (pe_tup (pa_cons pe_int (pa_cons (pe_tup (pa_cons pe_int (pa_cons pe_int (pa_cons pe_int (pa_cons pe_int pa_nil))))) (pa_cons pe_str (pa_cons pe_non pa_nil))))) pa_nil)) (pe_callB call_len_seq (by rfl) T.z_len PySem.boot_len (pa_cons (pe_ix ix_tup (pv 0) pe_int (fun _ _ => rfl)) pa_nil))))
      (pss_one (ps_ret (pe_tup (pa_cons (pe_callTy call_tuple_of (by rfl) T.z_tuple (by decide +kernel) (pa_cons (pv 1) pa_nil)) (pa_cons (pe_callTy call_tuple_of (by rfl) T.z_tuple (by decide +kernel) (pa_cons (pv 2) pa_nil)) (pa_cons (pe_callTy call_tuple_of (by rfl) T.z_tuple (by decide +kernel) (pa_cons (pv 3) pa_nil)) (pa_cons (pe_callTy call_tuple_of (by rfl) T.z_tuple (by decide +kernel) (pa_cons (pv 4) pa_nil)) (pa_cons (pe_callTy call_tuple_of (by rfl) T.z_tuple (by decide +kernel) (pa_cons (pv 5) pa_nil)) pa_nil))))))))))))), ?_⟩
    obtain ⟨sa, ta, hp, hsa, hta⟩ := pg.ex
    have h6 := pg.ok.len
    have h4 := pg.len
    have kle : ∀ kd, (nmsK kd sh).length ≤ 6 := fun kd => Nat.le_trans (nmsK_le kd sh) h6
    -- values
    refine ⟨_, rfl, p, _, 0, .ref sa, rfl, rfl, .of hp, atI_nat (j := 0) rfl, sa, rfl, ⟨_, .of hsa⟩, fun D nD => lc_tup (K := K) (a := sa) (xs := shV sh) (fun i H3 => Same H H3 ∧ H3 D = some (.lst (vals (sh.take i)))) ⟨same_upd nD, upd_same⟩ (fun i H3 _ z => .of (z.1 _ _ hsa)) ?_ ?_⟩
    · rintro i x H3 hx ⟨hs, hD⟩
      obtain ⟨t, ht, rfl, hm⟩ := shV_at hx
      have hc := hs _ _ (pg.ok.at_ t hm)
      refine ⟨rfl, _, rfl, t.1, _, 0, _, rfl, rfl, .of hc, atI_nat (j := 0) rfl, rfl, _, rfl, ite2 (fun c => ?_) (fun c => ?_)⟩
      · obtain ⟨n, v, e⟩ := var_of (dec_str2 c)
        refine ⟨_, rfl, t.1, _, 2, .int v, rfl, rfl, .of hc, atI_nat (j := 2) (by rw [e]; rfl), _, hD, vals_sz i h6, put_same nD hs, ?_⟩
        rw [upd_same, vals_yes ht e]
      · exact ⟨hs, by rw [vals_no ht (dec_str3 c)]; exact hD⟩
    rintro H1 ⟨s1, hD⟩
    rw [shV_length, List.take_length] at hD
    -- n times one item
    have rep : ∀ {H : Hp} {l : Addr} {v : V} {n : Nat} {Q : VK}, H l = some (.lst [v]) → n ≤ 6 → (∀ p, H p = none → Q (.ref p) (upd H p (.lst (List.replicate n v)))) → rRep (.ref l) (.int n) H Q := by
      intro H l v n Q hl hn q
      refine ⟨l, n, [v], rfl, rfl, hl, by omega, by omega, ?_, fun p np => ?_⟩
      · show 1 * ((n : Int)).toNat ≤ sizeLine
        exact Nat.le_trans (m := 6) (by omega) (by decide)
      · have e := q p np
        rw [← rep1] at e
        exact e
    -- owners
    refine ⟨Nat.one_le_iff_ne_zero.mpr (by decide), fun l2 n2 => ?_⟩
    have s2 := s1.trans (same_upd (o := .lst [.non]) n2)
    refine ⟨_, rfl, p, "lock", sh, rfl, pg.sh.mono (Tups.of s2), fun m2 H2 t2 _ h2 => ⟨m2, _, rfl, .inl (.of h2), ?_⟩⟩
    rw [List.length_map]
    refine rep (t2 _ _ upd_same) (kle _) fun o2 np2 => ?_
    have s3 := s2.trans (t2.trans (same_upd (o := .lst (List.replicate (nmsK "lock" sh).length .non)) np2))
    -- queues
    refine ⟨Nat.zero_le _, fun e3 ne3 => ⟨Nat.one_le_iff_ne_zero.mpr (by decide), fun l3 n3 => ?_⟩⟩
    have u3 := (same_upd (o := .tup []) ne3).trans (same_upd (o := .lst [.ref e3]) n3)
    refine ⟨_, rfl, p, "queue", sh, rfl, pg.sh.mono (Tups.of (s3.trans u3)), fun m3 H3 t3 _ h3 => ⟨m3, _, rfl, .inl (.of h3), ?_⟩⟩
    rw [List.length_map]
    refine rep (t3 _ _ upd_same) (kle _) fun o3 np3 => ?_
    have v3 := t3.trans (same_upd (o := .lst (List.replicate (nmsK "queue" sh).length (.ref e3))) np3)
    have s4 := u3.trans v3
    -- waiting
    refine ⟨Nat.zero_le _, fun e4 ne4 => ⟨Nat.one_le_iff_ne_zero.mpr (by decide), fun l4 n4 => ?_⟩⟩
    have u4 := (same_upd (o := .tup []) ne4).trans (same_upd (o := .lst [.ref e4]) n4)
    refine ⟨_, rfl, p, "cond", sh, rfl, pg.sh.mono (Tups.of (s3.trans (s4.trans u4))), fun m4 H4 t4 _ h4 => ⟨m4, _, rfl, .inl (.of h4), ?_⟩⟩
    rw [List.length_map]
    refine rep (t4 _ _ upd_same) (kle _) fun o4 np4 => ?_
    have v4 := t4.trans (same_upd (o := .lst (List.replicate (nmsK "cond" sh).length (.ref e4))) np4)
    have s5 := u4.trans v4
    -- threads
    refine ⟨(by show 4 ≤ sizeLine; decide), fun r5 nr5 => ⟨(by show 4 ≤ sizeLine; decide), fun e5 ne5 => ⟨Nat.one_le_iff_ne_zero.mpr (by decide), fun l5 n5 => ?_⟩⟩⟩
    have u5 := (same_upd (o := .tup [.int 0, .int 0, .int 0, .int 0]) nr5).trans ((same_upd (o := .tup [.int 0, .ref r5, .str "run", .non]) ne5).trans (same_upd (o := .lst [.ref e5]) n5))
    have sall := s3.trans (s4.trans (s5.trans u5))
    refine ⟨_, rfl, p, _, 1, .ref ta, rfl, rfl, .of (sall _ _ hp), atI_nat (j := 1) rfl, ta, _, rfl, .inr (.of (sall _ _ hta)), ?_⟩
    rw [thsV_length]
    refine rep upd_same (by omega) fun o5 np5 => ?_
    have v5 := same_upd (o := .lst (List.replicate ts.length (.ref e5))) np5
    -- what stands now
    have w4 := s5.trans (u5.trans v5)
    have w3 := s4.trans w4
    have hD' := ((same_upd (o := .lst [.non]) n2).trans (t2.trans ((same_upd (o := .lst (List.replicate (nmsK "lock" sh).length .non)) np2).trans w3))) _ _ hD
    have k2 := w3 _ _ upd_same
    have k3 := w4 _ _ upd_same
    have k4 := (u5.trans v5) _ _ upd_same
    have em3 := ((same_upd (o := .lst [.ref e3]) n3).trans (v3.trans w4)) _ _ upd_same
    have em4 := ((same_upd (o := .lst [.ref e4]) n4).trans (v4.trans (u5.trans v5))) _ _ upd_same
    have em5 := ((same_upd (o := .lst [.ref e5]) n5).trans v5) _ _ upd_same
    have em6 := ((same_upd (o := .tup [.int 0, .ref r5, .str "run", .non]) ne5).trans ((same_upd (o := .lst [.ref e5]) n5).trans v5)) _ _ upd_same
    have sH := sall.trans v5
    -- the tuples
    refine ⟨_, rfl, D, _, rfl, .inl ⟨.of hD', fun a1 n1 => ?_⟩⟩
    have g1 := same_upd (o := .tup (vals sh)) n1
    refine ⟨_, rfl, o2, _, rfl, .inl ⟨.of (g1 _ _ k2), fun a2 m2 => ?_⟩⟩
    have g2 := same_upd (o := .tup (List.replicate (nmsK "lock" sh).length .non)) m2
    refine ⟨_, rfl, o3, _, rfl, .inl ⟨.of ((g1.trans g2) _ _ k3), fun a3 m3 => ?_⟩⟩
    have g3 := same_upd (o := .tup (List.replicate (nmsK "queue" sh).length (.ref e3))) m3
    refine ⟨_, rfl, o4, _, rfl, .inl ⟨.of ((g1.trans (g2.trans g3)) _ _ k4), fun a4 m4 => ?_⟩⟩
    have g4 := same_upd (o := .tup (List.replicate (nmsK "cond" sh).length (.ref e4))) m4
    refine ⟨_, rfl, o5, _, rfl, .inl ⟨.of ((g1.trans (g2.trans (g3.trans g4))) _ _ upd_same), fun a5 m5 => ?_⟩⟩
    have g5 := same_upd (o := .tup (List.replicate ts.length (.ref e5))) m5
    refine ⟨(by show 5 ≤ sizeLine; decide), fun r nr => ?_⟩
    have g6 := same_upd (o := .tup [.ref a1, .ref a2, .ref a3, .ref a4, .ref a5]) nr
    have z := g1.trans (g2.trans (g3.trans (g4.trans (g5.trans g6))))
    exact q r _ (sH.trans z) ⟨a1, a2, a3, a4, a5, _, _, _, upd_same, (g2.trans (g3.trans (g4.trans (g5.trans g6)))) _ _ upd_same, (g3.trans (g4.trans (g5.trans g6))) _ _ upd_same, (g4.trans (g5.trans g6)) _ _ upd_same, .rep (z _ _ em3) _,
      (g5.trans g6) _ _ upd_same, .rep (z _ _ em4) _, g6 _ _ upd_same, .rep (z _ _ em5) (z _ _ em6) _⟩
end
end Fst

/-! The program's own exception: NoSuchPlace(word), over TurnError over ValueError; its __init__ says super().__init__(f'..') and keeps the word. -/
namespace Fst
open PySem PySem.W PySem.Calls PyProof.Rows PySem.HandSPX

abbrev sInit : Stmt := L2.inClass (topS 7) 0
/-- what the written part says of NoSuchPlace (at C), its __init__ (at fI), the cell that holds the class (at cc), the code object (at cd) -/
structure NspTxt (P : Program) (K : Frag) (mg : Str → Option Value) (C fI cc cd : Addr) : Prop where
  gC : mg "NoSuchPlace" = some (.ref C)
  cls : ∃ nm q N bs bm sn sub ab col dd k0 k1 k2 k3 k5, K.lookup C = some (excClassObj nm q C N bs bm true sn sub ab col dd k0 k1 k2 k3 k5 "ValueError.__new__") ∧ refsVE bm = true
  sa : findIn K (.ref C) "__setattr__" = some (some (.builtin "object.__setattr__"))
  ga : findIn K (.ref C) "__getattribute__" = some (some (.builtin "BaseException.__getattribute__"))
  gg : findIn K (.ref C) "__getattr__" = some none
  noN : findIn K (.ref C) "word" = some none
  iC : findIn K (.ref C) "__init__" = some (some (.ref fI))
  tC : typeIn K (.ref fI) = some (.type "function")
  kC : keepIn K (.ref C) = true
  exC : subIn K (.ref C) (.type "BaseException") = some true
  veC : subIn K (.ref C) (.type "ValueError") = some true
  tyC : typeIn K (.ref C) = some (.type "type")
  hdC : hasDictIn K C = true
  te : exmOne K (.ref C) (.ref C) = some true
  fn : ∃ (oc : Value) (od : Option Addr) (kV doc pm : Value) (an : Option Addr) (ct : Value) (osl : Array (Option Value)),
    K.lookup fI = some ⟨oc, od, .func (ksFn "__init__" "NoSuchPlace.__init__" (L2.defArgs sInit) (L2.defBody sInit) (L2.defScope sInit) .none kV doc pm an (.ref cd) ct cc), osl⟩ ∧ codeIn K (.ref cd) "NoSuchPlace.__init__" = true
  code : ∃ (ccl : Value) (cdd : Option Addr) (vs : Array Value) (ccs : Array (Option Value)) (file : Str) (tf : Tok), K.lookup cd = some ⟨ccl, cdd, .fields vs, ccs⟩ ∧ vs[2]? = some (.str file tf) ∧ ((P.main.file : Str) == file) = true
  cell : ∃ (cl : Value) (cld : Option Addr) (csl : Array (Option Value)), K.lookup cc = some ⟨cl, cld, .cell (some (.ref C)), csl⟩
  mro : mroIn K C (.ref C) = some true
  sup : mg "super" = none
  top : (P.main.scope.names.lookup ("super" : Str)).isSome = false
  opq : nsIn K cStatics "thirdparty.any" = some none
  ini : ks_superIn K C C "__init__" = some (some (.builtin "ValueError.__init__"))

theorem in_but {K : Frag} {h h' : Heap} {x : Addr} (X : K.In h) (hx : K.lookup x = none) (k : ∀ b o, b ≠ x → h.get? b = some o → h'.get? b = some o) : K.In h' := fun a o e =>
  k a o (fun z => by rw [z, hx] at e; cases e) (X a o e)
theorem dropC (C : Addr) (l : List Value) : ((Value.ref C :: l).dropWhile (· != .ref C)).drop 1 = l := by
  simp [List.dropWhile_cons]
section
variable {prog : Program} {w : World} {A : Around} {E : Value → Shared → Prop} {h : Heap} {g : Array GenState} {d : Drawn} {t : Nat} {os : OsState}
variable {nm q : Str} {C N : Addr} {bs bm : List Value} {hdct : Bool} {sn : List Str} {sub : List Value} {ab : Bool} {col : Option Bool} {dd : Option Addr} {k0 k1 k2 k3 k5 : Option Value}
/-- the bound ValueError.__init__ is called: the args are laid anew -/
theorem call_mw {u e t0 : Addr} {rest : List Value} {Q : Value → Shared → Prop}
    (hC : h.get? C = some (excClassObj nm q C N bs bm hdct sn sub ab col dd k0 k1 k2 k3 k5 "ValueError.__new__")) (he : h.get? e = some (excO C t0)) (hu : h.get? u = some (kxs_mw "ValueError.__init__" e)) (hrest : rest.length ≤ sizeLine)
    (hq : ∀ h' t1, (∀ b o, b ≠ e → h.get? b = some o → h'.get? b = some o) → h'.get? e = some (excO C t1) → Q .none ⟨h', g, d, t, os⟩) :
    wpAny (model prog w) A (call (.ref u) rest) Q E ⟨h, g, d, t, os⟩ := by
  refine wpAny_call (codeAny_of_tree ?_)
  show wpAny _ A.in1 (callAny (.ref u) ⟨rest, []⟩) _ _ _
  simp only [callAny]
  refine wpAny_bind (wpAny_load hu ?_)
  simp only [kxs_mw, show (Value.type "method-wrapper" == Value.type "method" || Value.type "method-wrapper" == Value.type "builtin_function_or_method" || Value.type "method-wrapper" == Value.type "method-wrapper") = true by decide, if_true]
  refine KFB.if_so (by decide) ?_
  refine wpAny_bind (check_bound_init F.excBase_ValueError.toExcCallFacts hC he rfl ?_)
  refine wpAny_bind (wpAny_pure (wpAny_pure ?_))
  refine ⟨plainId_quiet F.excBase_ValueError.init.plain _, codeAny_builtin F.excBase_ValueError.initEntry ?_⟩
  rw [Around.under_plainId F.excBase_ValueError.init.plain _]
  wp_walk
  refine hq _ h.objs.size (fun b o hb ho => ?_) ?_
  · rw [Heap.get?_update_other _ _ (Ne.symm hb)]
    exact Heap.get?_push_of_some _ ho
  · rw [Heap.get?_update_self _ (Heap.get?_push_of_some _ he) rfl]
    rfl
end

/-- what __init__ leaves of a fresh exception at x -/
structure NspEnd (h h' : Heap) (x C dx t1 : Addr) (v : Value) : Prop where
  keep : ∀ b o, b ≠ x → h.get? b = some o → h'.get? b = some o
  obj : h'.get? x = some { cls := .ref C, dict := some dx, data := .fields #[.ref t1, .none, .none, .none, .bool false, .none] }
  dbig : h.objs.size ≤ dx
  dne : dx ≠ x
  ns : h'.Ns1 dx (fun y => if y = "word" then some v else none)
section
variable {prog : Program} {w : World} {A : Around} {R : Result → Shared → Prop} {s : Shared} {K : Frag} {mg : Str → Option Value} {C fI cc cd : Addr}
theorem nsp_init (T : NspTxt prog K mg C fI cc cd) {x t0 : Addr} {z : Str} {zt : Tok} (hz : z.length ≤ 1000) (X : K.In s.heap) (hlim : s.heap.NoLimit) (hG : s.heap.Ns mainGlobals mg) (hB : ∃ mb, s.heap.Ns builtinsNs mb ∧ ∀ y : Str, y ≠ "__name__" → mb y = bootBuiltins y)
    (hx : s.heap.get? x = some (excO C t0)) (hnx : K.lookup x = none) (hroom : A.depth < recursionLimit)
    (hq : ∀ h' tk dx t1, NspEnd s.heap h' x C dx t1 (.str z zt) → R (.ok (.ret .none)) { s with heap := h', toks := tk }) :
    codeAny (model prog w) A (.call (.ref fI) ⟨[.ref x, .str z zt], []⟩) R s := by
  obtain ⟨oc, od, kV, doc, pm, an, ct, osl, ho, hcd⟩ := T.fn
  obtain ⟨nm, q, N, bs, bm, sn, sub, ab, col, dd, k0, k1, k2, k3, k5, hC, hbm⟩ := T.cls
  obtain ⟨ccl, cdd, vs, ccs, file, tf, hcode, hvs, hfile⟩ := T.code
  obtain ⟨cl, cld, csl, hcell⟩ := T.cell
  obtain ⟨mb, hB1, hB2⟩ := hB
  have hcl : clsIn K C = some { name := nm, bases := bs, mro := .ref C :: bm, ns := N, qualname := q, hasDict := true, slotNames := sn, subclasses := sub, abstract := ab, collection := col, hasDel := false } := by unfold clsIn; rw [hC] <;> rfl
  have hini : alongIn K "__init__" bm = some (some (.builtin "ValueError.__init__")) := by
    have e := T.ini
    unfold ks_superIn at e
    rw [hcl, Option.bind_some, dropC] at e
    exact e
  refine ks_codeAny_call_defAt (fd := ksFn "__init__" "NoSuchPlace.__init__" (L2.defArgs sInit) (L2.defBody sInit) (L2.defScope sInit) .none kV doc pm an (.ref cd) ct cc) (body := L2.defBody sInit) (binds := [("self", .ref x), ("word", .str z zt)]) hroom (X _ _ ho) rfl hlim (codeRec_of X hcd) rfl
    (BindsTo.of_eq (by first | rfl | with_unfolding_all rfl)) (show ∀ y ∈ (L2.defScope sInit).names, y.2 ≠ .cell by decide +kernel) ?hloc (fun h0 hns0 kp0 => ?_) rfl rfl rfl
  case hloc =>
    intro y hy
    rcases List.mem_cons.mp hy with rfl | hy
    · exact (show List.lookup ("self" : Str) (L2.defScope sInit).names = some NameKind.local by decide +kernel)
    · rcases List.mem_cons.mp hy with rfl | hy
      · exact (show List.lookup ("word" : Str) (L2.defScope sInit).names = some NameKind.local by decide +kernel)
      · cases hy
  show _root_.PySem.wpAt _ _ _ (execs _ _) _ _ _
  have X0 : K.In h0 := X.keeps kp0
  have hL : s.heap.objs.size ≠ x := Nat.ne_of_gt (Heap.lt_size hx)
  have hx0 := kp0 _ _ hx
  have hsz : s.heap.objs.size < h0.objs.size := by
    obtain ⟨o, es, ep, e, _⟩ := hns0
    exact Heap.lt_size e
  -- super()
  refine ks_wpAt_execs_cons (ks_wpAt_Expr_any (ks_wpAt_MethodCall ?_))
  refine ks_wpAt_super_base rfl rfl (by decide) rfl (X0 _ _ ho) rfl rfl rfl (X0 _ _ hcode) rfl hvs hfile T.top ?_
  refine ks_loadName_global rfl rfl (loadGlobal_builtin (hG.keeps kp0) T.sup (hB1.keeps kp0) ((hB2 _ (by decide)).trans (by decide +kernel)) ⟨rfl, ?_⟩)
  refine wpAny_loadName_free rfl rfl rfl ⟨_, X0 _ _ hcell, rfl⟩ ?_
  refine wpAny_loadName_local rfl rfl hns0 (by first | rfl | with_unfolding_all rfl | kernel_rfl) ?_
  refine ks_wpAny_isType_cls (X0 _ _ hC) rfl ⟨rfl, ?_⟩
  refine ks_wpAny_call_super (X0 _ _ hC) rfl hx0 rfl (fun c e => by cases e) (looks_mroIn X0 T.mro) (fun h1 e1 kp1 => ?_)
  -- .__init__, bound
  have X1 : K.In h1 := X0.keeps kp1
  have hx1 := kp1 _ _ hx0
  have I1 : InstAt h1 x (excO C t0) C none := ⟨hx1, rfl, rfl, trivial⟩
  refine kxs_getMethod kxs_ValueError e1 (looks_opaque X1 T.opq) (l₀ := .ref C :: bm) (fun A Q E s k q => wpAny_bind ((looks_clsIn X1 hcl) A _ E s k (wpAny_pure q))) (dropC C bm) X1 hini (I1.type.andThen (looks_subIn X1 T.veC)) (ks_ne X1 I1 hcl) (by decide) ?_
  -- the text
  have hns2 := hns0.keeps fun b o e => Heap.get?_push_of_some (kxs_mw "ValueError.__init__" x) (kp1 b o e)
  have hu : (h1.push (kxs_mw "ValueError.__init__" x)).get? h1.objs.size = some (kxs_mw "ValueError.__init__" x) := Heap.get?_push_at rfl rfl
  refine kxs_callWith (i := "ValueError.__init__") (x := x) rfl (evalArgs_plain ?_)
  refine spliced_cons ?_
  refine wpAny_JoinedStr (pos := ⟨18, 25, 18, 42⟩) ?_
  have hwl : ∀ {s' : Shared} {m : Str → Option Value} {y : Str} {v : Value} {p : Pos} {Q : Value → Shared → Prop} {M : Model} {A' : Around} {E' : Value → Shared → Prop}, s'.heap.Ns s.heap.objs.size m → m y = some v → List.lookup y (L2.defScope sInit).names = some NameKind.local → (y == ("__debug__" : Str)) = false → Q v s' →
      wpAny M A' (eval (.Name y p) (callEnv (ksFn "__init__" "NoSuchPlace.__init__" (L2.defArgs sInit) (L2.defBody sInit) (L2.defScope sInit) .none kV doc pm an (.ref cd) ct cc) s.heap.objs.size fI)) Q E' s' := fun hn hv hk hd q => wpAny_Name (wpAny_loadName_local rfl hk hn hv q) hd
  show wpAny _ _ (eval (.Constant _ _ _) _) _ _ _
  refine Constant_str ⟨_, _, rfl, by decide +kernel, ?_⟩
  show wpAny _ _ (eval (.FormattedValue _ _ _ _) _) _ _ _
  refine wpAny_FormattedValue_plain (hwl (v := .str z zt) hns2 (by first | rfl | with_unfolding_all rfl | kernel_rfl) (by decide +kernel) (by decide) ?_)
  have hlen : ((Str.empty ++ ("no such " : Str)) ++ z).length ≤ sizeLine := by
    rw [PySem.Str.length_append]
    have e : (Str.empty ++ ("no such " : Str)).length = 8 := by decide +kernel
    rw [e]
    exact Nat.le_trans (m := 2000) (by omega) (by decide)
  have X2 : K.In (h1.push (kxs_mw "ValueError.__init__" x)) := X1.keeps fun b o e => Heap.get?_push_of_some _ e
  have hx2 : (h1.push (kxs_mw "ValueError.__init__" x)).get? x = some (excO C t0) := Heap.get?_push_of_some _ hx1
  refine wpAny_formatField_str ?_ ?_ (Nat.le_trans hz (by decide))
  all_goals
    refine ⟨z, _, rfl, hlen, hlen, ?_⟩
    refine spliced_nil ⟨hu, ?_⟩
    refine call_mw (X2 _ _ hC) hx2 hu (by show 1 ≤ sizeLine; decide) fun h3 t1 kp3 e3 => ?_
    have X3 : K.In h3 := in_but X2 hnx kp3
    have hns3 : h3.Ns s.heap.objs.size (fun y => List.lookup y [(PySem.Str.ofString "self", Value.ref x), (PySem.Str.ofString "word", Value.str z zt)].reverse) := by
      obtain ⟨o, es, ep, e, r⟩ := hns2
      exact ⟨o, es, ep, kp3 _ _ hL e, r⟩
    -- self.word = word
    refine wpAt_of_wpAny (wpAny_execs_cons (plainObj_wpAny_Assign_Attribute ?_))
    refine hwl (v := .str z zt) hns3 (by first | rfl | with_unfolding_all rfl | kernel_rfl) (by decide +kernel) (by decide) (hwl (v := .ref x) hns3 (by first | rfl | with_unfolding_all rfl | kernel_rfl) (by decide +kernel) (by decide) ?_)
    refine set_plain X3 (ox := excO C t1) (od := none) ⟨e3, rfl, rfl, trivial⟩ T.sa ?_
    refine exc_osa X3 e3 hcl (show refsVE (.ref C :: bm) = true from hbm) rfl T.noN (fun h4 tk4 dx kp4 dn dne hx4 hn4 => ?_)
    show wpAny _ _ (execs _ _) _ _ _
    refine wpAny_execs_nil (hq h4 tk4 dx t1 ⟨fun b o hb e => kp4 b o hb (kp3 b o hb (Heap.get?_push_of_some _ (kp1 b o (kp0 b o e)))), hx4, ?_, dne, hn4⟩)
    obtain ⟨o, es, ep, e, r⟩ := id hns3
    exact Nat.le_trans (Nat.le_of_lt (Heap.lt_size e)) dn
end
end Fst

/-! NoSuchPlace made, raised, its word read where it is caught. -/
namespace Fst
section
open PySem PySem.W PySem.Calls PyProof.Rows PySem.HandSPX
/-- a made NoSuchPlace -/
structure NspMade (h h' : Heap) (e C d : Addr) (v : Value) : Prop where
  keep : ∀ b o, h.get? b = some o → h'.get? b = some o
  new : h.objs.size ≤ e
  obj : ∃ oe vs, h'.get? e = some oe ∧ oe.cls = .ref C ∧ oe.dict = some d ∧ oe.data = .fields vs ∧ vs[1]? = some .none
  dbig : h.objs.size ≤ d
  dne : d ≠ e
  ns : h'.Ns1 d (fun y => if y = "word" then some v else none)
variable {prog : Program} {w : World} {A : Around} {R : Result → Shared → Prop} {s : Shared} {K : Frag} {mg : Str → Option Value} {C fI cc cd : Addr}
theorem nsp_made (T : NspTxt prog K mg C fI cc cd) {z : Str} {zt : Tok} (hz : z.length ≤ 1000) (X : K.In s.heap) (hlim : s.heap.NoLimit) (hG : s.heap.Ns mainGlobals mg) (hB : ∃ mb, s.heap.Ns builtinsNs mb ∧ ∀ y : Str, y ≠ "__name__" → mb y = bootBuiltins y) (hroom : A.depth + 1 < recursionLimit)
    (hq : ∀ h' tk e d, NspMade s.heap h' e C d (.str z zt) → R (.ok (.ret (.ref e))) { s with heap := h', toks := tk }) :
    codeAny (model prog w) A (.call (.ref C) ⟨[.str z zt], []⟩) R s := by
  obtain ⟨nm, q, N, bs, bm, sn, sub, ab, col, dd, k0, k1, k2, k3, k5, hC, hbm⟩ := T.cls
  obtain ⟨hp, g, dr, tk, os⟩ := s
  have k : ∀ b o, hp.get? b = some o → ((hp.push (kdv_tup [.str z zt])).push (excO C hp.objs.size)).get? b = some o := fun b o e => Heap.get?_push_of_some _ (Heap.get?_push_of_some _ e)
  have hget : ((hp.push (kdv_tup [.str z zt])).push (excO C hp.objs.size)).get? (hp.objs.size + 1) = some (excO C hp.objs.size) := by heap_get
  have hnx : K.lookup (hp.objs.size + 1) = none := by
    cases e : K.lookup (hp.objs.size + 1) with
    | none => rfl
    | some o =>
      have y : hp.get? (hp.objs.size + 1) = some o := X _ _ e
      exact absurd (Nat.lt_of_succ_lt (Heap.lt_size y)) (Nat.lt_irrefl _)
  refine call_own F.excBase_ValueError (fun X => refsVE_contains X bm hbm) (X _ _ hC) (looks_findIn X T.iC) (fun self => bind_fn X self T.tC) (by show 1 ≤ sizeLine; decide) ?_
  obtain ⟨mb, hB1, hB2⟩ := hB
  refine nsp_init (s := ⟨(hp.push (kdv_tup [.str z zt])).push (excO C hp.objs.size), g, dr, tk, os⟩) T hz (X.keeps k) (hlim.keeps k) (hG.keeps k) ⟨mb, hB1.keeps k, hB2⟩ hget hnx ?_ fun h' tk' dx t1 I => ?_
  · show A.depth + 1 < recursionLimit
    exact hroom
  · obtain ⟨k', hx, dn, dne, hns⟩ := I
    have old : ∀ b o, hp.get? b = some o → h'.get? b = some o := fun b o e => k' b o (Nat.ne_of_lt (Nat.lt_succ_of_lt (Heap.lt_size e))) (k b o e)
    have y : hp.objs.size + 1 + 1 ≤ dx := by
      first
        | (simpa only [Heap.size_push] using dn)
        | exact dn
    exact ⟨rfl, hq h' tk' (hp.objs.size + 1) dx ⟨old, Nat.le_succ _, ⟨_, _, hx, rfl, rfl, rfl, rfl⟩, Nat.le_trans (Nat.le_trans (Nat.le_succ _) (Nat.le_succ _)) y, dne, hns⟩⟩
end

section
open PySem PySem.Spec PyProof.Rows L2
theorem relO_word {v : V} {v' : Value} (r : RelV v v') (f : Str) : RelO (List.lookup f [(("word" : Str), v)]) (if f = "word" then some v' else none) := by
  by_cases hw : f = "word"
  · subst hw
    rw [if_pos rfl]
    have q : List.lookup ("word" : Str) [(("word" : Str), v)] = some v := by simp [List.lookup]
    rw [q]
    exact r
  · rw [if_neg hw]
    have qw : (f == ("word" : Str)) = false := by simpa using hw
    have q2 : List.lookup f [(("word" : Str), v)] = none := by simp [List.lookup, qw]
    rw [q2]
    trivial
variable {X : Cx} {C fI cc cd : Addr}
/-- NoSuchPlace(e), e a short text -/
def tMkNsp (C : Addr) (ta : TA) : L2.St → Hp → XK → Prop := fun σ H Q => ta σ H fun vs H1 => ∃ z : Str, vs = [.str z] ∧ z.length ≤ 1000 ∧ ∀ d, H1 d = none → Q (.ref C) (some d) (upd H1 d (.xd [(("word" : Str), .str z)]))
theorem pmk_nsp {a : Expr} {ta : TA} {p pos : Pos} {k : Nat} (T : NspTxt X.prog X.K X.mg C fI cc cd) (hr : Room k X.A) (ha : PA X [a] ta) (hg : Gl X "NoSuchPlace" := by rfl)
    (he : starEach (a :: []) X.env = (false, eval a X.env) :: starEach [] X.env := by rfl) (hpl : (backTo pos (starEach [] X.env)).any (·.1) = false := by rfl) :
    PMk X (.Call (.Name "NoSuchPlace" p) [a] [] pos) (tMkNsp C ta) := by
  intro pins s σ H Q I h
  refine wpAny_Call_Name_kw (ld_glob I hg T.gC ?_)
  refine PySem.W.callWith_K (h₀ := X.base) I.ok.mod.kin T.kC (thn (ha.run pos pins s σ H _ I h) fun us s1 hh => ?_) he hpl
  obtain ⟨vs, H1, I1, r1, z, ev, hz, q1⟩ := hh
  subst ev
  refine ⟨I1.kIn, ?_⟩
  cases r1 with
  | cons rv rn =>
    rename_i v' us'
    cases rn
    obtain ⟨zt, rfl⟩ := rv
    show wpAny _ _ (call (.ref C) [.str z zt]) _ _ _
    have hlim := I1.nolimit
    have hG := I1.mod.glob.keeps I1.bk
    have hB : ∃ mb, s1.heap.Ns builtinsNs mb ∧ ∀ y : Str, y ≠ "__name__" → mb y = bootBuiltins y := by
      obtain ⟨mb, h1, h2⟩ := I1.mod.blt
      exact ⟨mb, h1.keeps I1.bk, h2⟩
    obtain ⟨hp, g, dr, tk, os⟩ := s1
    refine wpAny_call (nsp_made T hz I1.kIn hlim hG hB (by have := hr.dp; omega) fun h' tk' e d M => ?_)
    show MkP X pins σ Q (.ref e) ⟨h', g, dr, tk', os⟩
    obtain ⟨oe, fv, hoe, hc, hd, hdat, h1⟩ := M.obj
    have hns := M.ns
    obtain ⟨G', g1, g2⟩ := restrict h' fun b => decide (b ≠ e)
    have gk : ∀ b, b ≠ e → G'.get? b = h'.get? b := fun b hb => g1 b (decide_eq_true hb)
    have ge : G'.get? e = none := g2 e (by simp)
    have old : ∀ b o, hp.get? b = some o → G'.get? b = some o := fun b o q => (gk b (Nat.ne_of_lt (Nat.lt_of_lt_of_le (Heap.lt_size q) M.new))).trans (M.keep b o q)
    have ob : ObjOk X.prog X.w (upd H1 d (.xd [(("word" : Str), .str z)])) G' d (.xd [(("word" : Str), .str z)]) :=
      ⟨_, hns.at (fun o q => (gk d M.dne).trans q), fun f => relO_word (v := .str z) (v' := .str z zt) ⟨zt, rfl⟩ f⟩
    have J : Inv X pins σ (upd H1 d (.xd [(("word" : Str), .str z)])) ⟨G', g, dr, tk', os⟩ := I1.laid (t' := tk') old M.dbig ob
    refine ⟨e, oe, fv, ⟨G', g, dr, tk', os⟩, _, .ref C, some d, rfl, J, fun b o q => ?_, ge, hoe, ⟨hc, hd⟩, hdat, h1, ?_, rfl, I1.bare, raises_own T.exC T.tyC, q1 d (I1.hok.fresh M.dbig)⟩
    · by_cases hb : b = e
      · have q' : G'.get? b = some o := q
        rw [hb, ge] at q'
        cases q'
      · exact (gk b hb).symm.trans q
    · rw [upd_ne (Ne.symm M.dne)]
      exact I1.hok.fresh M.new
/-- raise NoSuchPlace(e) -/
theorem ps_raiseNsp {a : Expr} {ta : TA} {W : WX} {p pos pos2 : Pos} {k : Nat} (hc : X.calm = true) (T : NspTxt X.prog X.K X.mg C fI cc cd) (hr : Room k X.A) (tk : Takes X W) (ha : PA X [a] ta) (hg : Gl X "NoSuchPlace" := by rfl)
    (he : starEach (a :: []) X.env = (false, eval a X.env) :: starEach [] X.env := by rfl) (hpl : (backTo pos (starEach [] X.env)).any (·.1) = false := by rfl) :
    PS X (.Raise (some (.Call (.Name "NoSuchPlace" p) [a] [] pos)) none pos2) (fun _ σ H => tMkNsp C ta σ H fun cls d H' => W cls d σ H') := ps_raise hc tk (pmk_nsp T hr ha hg he hpl)
/-- wrong.word, wrong the exception that the suite holds (at a; its class cls, its dict d) -/
def tByNsp (C : Addr) (a : Addr) (cls : Value) (d : Option Addr) (te : TE) : TE := fun σ H Q => te σ H fun x H1 => x = .ref a ∧ cls = .ref C ∧ ∃ (dd : Addr) (v : V), d = some dd ∧ H1 dd = some (.xd [(("word" : Str), v)]) ∧ Q v H1
theorem pe_byNsp {a : Addr} {oe : Obj} {cls : Value} {d : Option Addr} {pn : List (Addr × Obj)} {e : Expr} {te : TE} {pos : Pos} (T : NspTxt X.prog X.K X.mg C fI cc cd) (hz : Zc cls d oe) (hf : ∃ vs, oe.data = .fields vs) (he : PE (X.suite a ((a, oe) :: pn)) e te)
    (hb : attributeBase e "word" X.env (eval e X.env) = eval e X.env := by rfl) :
    PE (X.suite a ((a, oe) :: pn)) (.Attribute e "word" pos) (tByNsp C a cls d te) := by
  refine ⟨fun pins s σ H Q I h => ?_⟩
  refine attr_of hb (thn (he.run pins s σ H _ I h) fun u s1 hh => ?_)
  obtain ⟨x, H1, I1, rx, ex, ec, dd, v, ed, ea, q⟩ := hh
  subst ex
  obtain rfl : u = Value.ref a := rx
  subst ec
  subst ed
  obtain ⟨ha, _⟩ := I1.pin (a, oe) (List.mem_append_left _ List.mem_cons_self)
  obtain ⟨vs, hd⟩ := hf
  have hx : ObjOk X.prog X.w H1 s1.heap dd (.xd [(("word" : Str), v)]) := I1.hok dd _ ea
  obtain ⟨mA, hns, hr⟩ := hx
  obtain ⟨od, ho, hl⟩ := lookIn_ns hns
  have l : List.lookup ("word" : Str) [(("word" : Str), v)] = some v := by simp [List.lookup]
  obtain ⟨u, hu, ru⟩ := RelO.some_of (v := v) (o := mA "word") (by rw [← l]; exact hr "word")
  have J : PySem.W.InstAt s1.heap a oe C (some od) := ⟨ha, hz.1, by unfold PySem.W.notCls; rw [hd] <;> rfl, by rw [hz.2]; exact ho⟩
  exact HandSPX.exc_get I1.kIn J T.ga T.gg T.exC (PySem.W.findObj_own T.hdC T.noN rfl (by rw [hl, hu])) (handed_of ru) ⟨v, H1, I1.tok _, ru, q⟩
end
end Fst

/-! kind_of, which may raise; a def called within an except suite (it calls none and raises nothing): _law_same of two texts. -/
namespace Fst
open PySem PySem.Spec PyProof.Rows L2

/-! ### a def whatever is handled around it -/
structure FnW (P : Program) (w : World) (K : PySem.W.Frag) (mg : Str → Option Value) (base : Heap) (f : Addr) (fd : FuncData) (ps : List Str) (sp : Sp) : Prop where
  len : ∀ vs H Q E, sp vs H Q E → vs.length = ps.length
  run : ∀ (A : Around) (outer : List Env) (s : Shared) (H : Hp) (args : Args) (us : List Value) (vs : List V) (Q : VK) (E : XK), A.depth < recursionLimit → Env0 P w K mg base A outer s H → BindsTo s fd args (ps.zip us) → Vals vs us → sp vs H Q E →
    codeAny (model P w) A (.call (.ref f) args) (CR CX0 outer P w H s Q E) s
abbrev cool (A : Around) : Around := { A with handled := none }
/-- the context of its body: what is handled is not known -/
def cxW (P : Program) (w : World) (K : PySem.W.Frag) (mg : Str → Option Value) (base : Heap) (N : List Str) (qual : Str) (scope : Scope) (f : Addr) (cd : Value) (A : Around) (outer : List Env) (s : Shared) (H : Hp) : Cx :=
  { cxOf CX0 P w K mg base N qual scope f cd (cool A) outer s H E0 with A := A.deeper (envOfC qual scope s.heap.objs.size f cd), calm := false, xe := fun _ _ => False }
theorem Fun.okW {P : Program} {w : World} {K : PySem.W.Frag} {mg : Str → Option Value} {base : Heap} {x qual : Str} {st : Stmt} {f : Addr} {fd : FuncData} {N ps : List Str} {sp : Sp} (F : Fun K x qual st f fd) (S : FnScope N ps (defScope st)) (len : ∀ vs H Q E, sp vs H Q E → vs.length = ps.length)
    (hbody : ∀ (cdv : Value) (A : Around) (outer : List Env) (s : Shared) (H : Hp) (vs : List V) (Q : VK) (E : XK), sp vs H Q E →
      ∃ t, PSs (cxW P w K mg base N qual (defScope st) f cdv A outer s H) (defBody st) t ∧ t { nx := fun _ H' => Q .non H', rt := Q } (start N vs) H) : FnW P w K mg base f fd ps sp := by
  obtain ⟨oc, od, kV, doc, pm, an, cdv, ct, osl, rfl, lk, hcd⟩ := F.ex
  refine ⟨len, fun A outer s H args us vs Q E hdp e0 hb r hsp => ?_⟩
  have hl := len _ _ _ _ hsp
  have KX : K.In s.heap := e0.mod.kin.keeps fun b o e => (e0.bs b o e).1
  have lim : s.heap.NoLimit := e0.mod.nolimit.keeps fun b o e => (e0.bs b o e).1
  have hkind : ∀ y ∈ ps.zip us, (defScope st).names.lookup y.1 = some .local ∨ ((defScope st).names.lookup y.1 = some .cell ∧ ((cellsFrom (s.heap.objs.size + 1) (defScope st).names []).lookup y.1).isSome = true) := fun y hy => by
    obtain ⟨n, v⟩ := y
    rcases S.par n (List.of_mem_zip hy).1 with q | q
    · exact .inl q
    · exact .inr ⟨q, PySem.W.cellsFrom_some _ _ _ (.inl q)⟩
  refine codeAny_call_function hdp (KX _ _ lk) rfl S.co S.gen rfl (PySem.W.codeRec_of KX hcd) (hb _ _ _ _ ?_)
  refine wpAny_newFunctionEnv_cells S.kind hkind fun env he s1 y => ?_
  subst he
  refine ⟨lim.keeps y.toInCall.keep, codeAny_func ?_⟩
  obtain ⟨t, ht, hq⟩ := hbody cdv A outer s H vs Q E hsp
  have e1 : Env0 P w K mg base (cool A) outer s H := ⟨e0.frames, e0.mod, e0.bs, e0.bsz, e0.funs, e0.frf, e0.hok, e0.bare⟩
  have I0 := inv_start (CX := CX0) (E := E0) (A := cool A) (f := f) (cd := cdv) (qual := qual) S rfl e1 hl r y
  have ok := I0.ok
  have I : Inv (cxW P w K mg base N qual (defScope st) f cdv A outer s H) [] (start N vs) H s1 :=
    ⟨⟨ok.mod, ok.kind, ok.glob, ok.blt, ok.above, ok.inj, ok.has, ok.cab, (fun z => Bool.noConfusion (show false = true from z)), Around.frames_deeper e0.frames, ok.stk, ok.exf, ok.bs, ok.bsz, ok.noex, ok.exfs, ok.funs, ok.frf⟩,
      I0.os, I0.bare, I0.base, I0.loc, I0.cell, I0.free, I0.freeC, I0.pin, I0.hok, I0.len⟩
  refine wpAny_mono (ht.run [] s1 (start N vs) H _ I hq) (fun fl s' hs => ?_) fun e s' hs => hs.elim
  cases fl with
  | ret u =>
    obtain ⟨v, σ', H', J, rv, q⟩ := hs
    exact ⟨v, H', J.os, J.bare, J.base, J.hok, rv, q⟩
  | next =>
    obtain ⟨σ', H', J, q⟩ := hs
    exact ⟨.non, H', J.os, J.bare, J.base, J.hok, rfl, q⟩
  | brk =>
    obtain ⟨_, _, _, q⟩ := hs
    exact q.elim
  | cont =>
    obtain ⟨_, _, _, q⟩ := hs
    exact q.elim
section
variable {X : Cx} {f : Addr} {fd : FuncData} {ps : List Str} {sp : Sp} {x : Str} {p pos : Pos} {e : Expr} {es : List Expr} {t : TA}
theorem pe_callW (F : FnW X.prog X.w X.K X.mg X.base f fd ps sp) (hdp : X.A.depth < recursionLimit) (hg : Gl X x) (hm : X.mg x = some (.ref f)) (hk : PySem.W.keepIn X.K (.ref f) = true) (hb : Binds X.K fd ps []) (ha : PA X (e :: es) t)
    (hdb : (x == ("__debug__" : Str)) = false := by decide) (he : starEach (e :: es) X.env = (false, eval e X.env) :: starEach es X.env := by rfl) (hpl : (backTo pos (starEach es X.env)).any (·.1) = false := by rfl) :
    PE X (.Call (.Name x p) (e :: es) [] pos) (tCall sp [] E0 t) := by
  refine ⟨fun pins s σ H Q I h => ?_⟩
  refine wpAny_Call_Name_kw (ld_glob I hg hm ?_ hdb)
  refine PySem.W.callWith_K (h₀ := X.base) I.ok.mod.kin hk (thn (ha.run pos pins s σ H _ I h) fun us s1 z => ?_) he hpl
  obtain ⟨vs, H1, I1, r, q⟩ := z
  refine ⟨I1.kIn, ?_⟩
  rw [List.append_nil] at q
  have hl : us.length = ps.length := by
    rw [← r.length]
    exact F.len _ _ _ _ q
  have b := hb s1 us I1.kIn (by rw [List.append_nil]; exact hl)
  rw [List.append_nil] at b
  refine wpAny_call (codeAny_mono (F.run X.A X.stack s1 H1 ⟨us, []⟩ us vs Q E0 hdp I1.env0 b r q) fun r s' hq => ?_)
  cases r with
  | error e => exact hq.elim
  | ok fl =>
    cases fl with
    | ret u => exact I1.after hq
    | next => exact hq.elim
    | brk => exact hq.elim
    | cont => exact hq.elim
end

/-! ### _law_same of two texts, within an except suite -/
def spSameS : Sp := fun vs H Q _ => ∃ z : Str, vs = [.str z, .str z] ∧ Q (.bl true) H
theorem scKind : FnScope ["program", "name", "thing"] ["program", "name"] (defScope sKind) := ⟨rfl, rfl, rfl, by decide +kernel, rfl, by decide +kernel, by decide +kernel⟩
def spKindOf (C : Addr) : Sp := fun vs H Q E => ∃ (a : Addr) (n : Str) (sh : Sh), vs = [.ref a, .str n] ∧ PgS H a sh ∧ (∀ p ∈ sh, p.2.name = n → Q (.str p.2.kind) H) ∧
  (n ∉ nms sh → ∀ d, H d = none → E (.ref C) (some d) (upd H d (.xd [(("word" : Str), .str "name")])))
section
variable {P : Program} {w : World} {K : PySem.W.Frag} {mg : Str → Option Value} {base : Heap}
theorem ok_sames {f : Addr} {fd : FuncData} (F : Fun K "_law_same" "_law_same" sSame f fd) (T : Zt mg) : FnW P w K mg base f fd ["_law_actual", "_law_due"] spSameS := by
  refine Fun.okW F scSame (fun vs H Q E h => ?_) (fun cdv A outer s H vs Q E h => ?_)
  · obtain ⟨z, rfl, _⟩ := h
    rfl
  · obtain ⟨z, rfl, q⟩ := h
    refine ⟨_, (pss_cons (ps_if (PW.pt (pw_or (pt_val (pe_callB call_isi (by rfl) T.z_isinstance (by decide +kernel) (pa_cons (pv 1) (pa_cons (pe_bltn (v := .ty "list") (by rfl) T.z_list (by decide +kernel) rfl) pa_nil)))) (pw_or1 (pt_val (pe_callB call_isi (by rfl) T.z_isinstance (by decide +kernel) (pa_cons (pv 1) (pa_cons (pe_bltn (v := .ty "tuple") (by rfl) T.z_tuple (by decide +kernel) rfl) pa_nil)))))))
      pss_never
      pss_nil)
      (pss_cons (ps_if (pt_cmpR op_isN (pv 1) pe_non (nomark _))
      (pss_one (ps_ret (pe_cmpR op_isN (pv 0) pe_non (nomark _))))
      pss_nil)
      (pss_cons (ps_if (pt_val (pe_callB call_isi (by rfl) T.z_isinstance (by decide +kernel) (pa_cons (pv 1) (pa_cons (pe_bltn (v := .ty "bool") (by rfl) T.z_bool (by decide +kernel) rfl) pa_nil))))
      (pss_one (ps_ret (pe_and (pe_callB call_isi (by rfl) T.z_isinstance (by decide +kernel) (pa_cons (pv 0) (pa_cons (pe_bltn (v := .ty "bool") (by rfl) T.z_bool (by decide +kernel) rfl) pa_nil))) (pe_one (pe_cmpR op_eq (pv 0) (pv 1) (nomark _))))))
      pss_nil)
      (pss_cons (ps_if (pt_val (pe_callB call_isi (by rfl) T.z_isinstance (by decide +kernel) (pa_cons (pv 1) (pa_cons (pe_bltn (v := .ty "str") (by rfl) T.z_str (by decide +kernel) rfl) pa_nil))))
      (pss_one (ps_ret (pe_and (pe_callB call_isi (by rfl) T.z_isinstance (by decide +kernel) (pa_cons (pv 0) (pa_cons (pe_bltn (v := .ty "str") (by rfl) T.z_str (by decide +kernel) rfl) pa_nil))) (pe_one (pe_cmpR op_eq (pv 0) (pv 1) (nomark _))))))
      pss_nil)
      (pss_one (ps_ret (pe_and (pe_callB call_isi (by rfl) T.z_isinstance (by decide +kernel) (pa_cons (pv 0) (pa_cons (pe_bltn (v := .ty "int") (by rfl) T.z_int (by decide +kernel) rfl) pa_nil))) (pe_and (pe_not (pe_callB call_isi (by rfl) T.z_isinstance (by decide +kernel) (pa_cons (pv 0) (pa_cons (pe_bltn (v := .ty "bool") (by rfl) T.z_bool (by decide +kernel) rfl) pa_nil)))) (pe_one (pe_cmpR op_eq (pv 0) (pv 1) (nomark _))))))))))), ?_⟩
    refine ⟨_, rfl, _, _, _, _, false, rfl, .ty _, .base (.str z), kit_ty (by decide +kernel), false, rfl, iteF ⟨_, rfl, _, _, _, _, false, rfl, .ty _, .base (.str z), kit_ty (by decide +kernel), false, rfl, iteF ?_⟩⟩
    refine ⟨_, rfl, rfl, false, rfl, iteF ?_⟩
    refine ⟨_, rfl, _, _, _, _, false, rfl, .ty _, .base (.str z), kit_ty (by decide +kernel), false, rfl, iteF ?_⟩
    refine ⟨_, rfl, _, _, _, _, true, rfl, .ty _, .base (.str z), kit_ty (by decide +kernel), true, rfl, iteT ?_⟩
    refine ⟨_, rfl, _, _, _, _, true, rfl, .ty _, .base (.str z), kit_ty (by decide +kernel), true, rfl, iteT ?_⟩
    refine ⟨_, rfl, _, rfl, rfl, ?_⟩
    rw [decide_eq_true rfl]
    exact q
theorem ok_kind {f C fI cc cd : Addr} {fd : FuncData} (F : Fun K "kind_of" "kind_of" sKind f fd) (N : NspTxt P K mg C fI cc cd) : FnOk P w K mg base (L2.CX P w) 2 f fd ["program", "name"] (spKindOf C) := by
  refine F.okX scKind (fun vs H Q E h => ?_) (fun cdv A outer s H vs Q E hr h => ?_)
  · obtain ⟨a, n, sh, rfl, _⟩ := h
    rfl
  · obtain ⟨a, n, sh, rfl, pg, q1, q2⟩ := h
    obtain ⟨sa, ta, h1, h2⟩ := pg.ex
    refine ⟨_, (pss_cons (ps_for (passes_of rfl) rfl (pi_tup (pe_ix ix_tup (pv 0) pe_int (fun _ _ => rfl))) (pg_name (i := 2) scKind.nd rfl (.inl rfl))
      (pss_one (ps_if (pt_cmpR op_eq (pe_ix ix_tup (pv 2) pe_int (fun _ _ => rfl)) (pv 1) (nomark _))
      (pss_one (ps_ret (pe_ix ix_tup (pv 2) pe_int (fun _ _ => rfl))))
      pss_nil)))
      (pss_one (ps_raiseNsp rfl N hr (takes_of rfl rfl rfl rfl) (by exact (pa_cons pe_str pa_nil))))), ?_⟩
    refine ⟨_, rfl, a, _, 0, .ref sa, rfl, rfl, .of h1, atI_nat (j := 0) rfl, sa, rfl, ⟨_, .of h2⟩, for_tup (K := K) (a := sa) (xs := shV sh) (fun i σ H3 => (∃ y, σ = [some (.ref a), some (.str n), y]) ∧ H3 = H ∧ ∀ p ∈ sh.take i, ¬ p.2.name = n) ⟨⟨none, rfl⟩, rfl, fun p hp => by rw [List.take_zero] at hp; exact absurd hp List.not_mem_nil⟩
      (fun i σ H3 _ z => by rw [z.2.1]; exact .of h2) ?_ ?_⟩
    · rintro i y σ H3 hy ⟨⟨y2, rfl⟩, rfl, hno⟩
      obtain ⟨p, hp, rfl, hm⟩ := shV_at hy
      have hc := pg.ok.at_ p hm
      refine ⟨_, rfl, p.1, _, 1, _, rfl, rfl, .of hc, atI_nat (j := 1) rfl, _, rfl, rfl, _, rfl, ite2 (fun c => ?_) (fun c => ⟨⟨_, rfl⟩, rfl, fun u hu => ?_⟩)⟩
      · exact ⟨_, rfl, p.1, _, 0, _, rfl, rfl, .of hc, atI_nat (j := 0) rfl, q1 p hm (dec_str2 c)⟩
      · rw [List.take_add_one, hp] at hu
        rcases List.mem_append.mp hu with hu | hu
        · exact hno u hu
        · have e : u = p := by simpa using hu
          rw [e]
          exact dec_str3 c
    · rintro σ H3 ⟨⟨y, rfl⟩, rfl, hno⟩
      rw [shV_length, List.take_length] at hno
      refine ⟨_, rfl, by decide +kernel, fun d hd => q2 (fun z => ?_) d hd⟩
      obtain ⟨p, hp, e⟩ := List.mem_map.mp z
      exact hno p hp e
end
end Fst

/-! The law. -/
namespace Fst
open PySem PySem.Spec PyProof.Rows L2

theorem scLaw : FnScope ["_law_script", "_law_box", "_law_program_here", "_law_kind", "_law_thing_here", "_law_thread_here", "_law_item", "wrong"] ["_law_script"] (defScope sLaw) := ⟨rfl, rfl, rfl, by decide +kernel, rfl, by decide +kernel, by decide +kernel⟩
def spLaw (K : PySem.W.Frag) : Sp := fun vs H Q _ => ∃ (a : Addr) (ns : List Int), vs = [.ref a] ∧ SqL K H a (ns.map V.int) ∧ ∀ H', Q (.bl true) H'
/-- return _law_same(wrong.word, 'name') -/
def t_suite (C : Addr) : Addr → Value → Option Addr → TS := fun a cls d => tRet (tCall spSameS [] E0 (tCons (tByNsp C a cls d (tVar 7)) (tCons (tC (.str "name")) tNil)))
theorem cond_of {t : Thing} (h : t.kind = "cond") : ∃ n l, t = .cond n l := by
  cases t with
  | var n v => exact absurd h (show ¬ (PySem.Str.ofString "var" = PySem.Str.ofString "cond") by decide +kernel)
  | lock n => exact absurd h (show ¬ (PySem.Str.ofString "lock" = PySem.Str.ofString "cond") by decide +kernel)
  | cond n m => exact ⟨n, m, rfl⟩
  | queue n k => exact absurd h (show ¬ (PySem.Str.ofString "queue" = PySem.Str.ofString "cond") by decide +kernel)
theorem thsV_at {ts : Ths} {i : Nat} {x : V} (h : (thsV ts)[i]? = some x) : ∃ p, p ∈ ts ∧ x = .ref p.1 := by
  obtain ⟨p, hp, e⟩ := List.mem_map.mp (List.mem_of_getElem? h)
  exact ⟨p, hp, e.symm⟩
theorem insV_at {th : Th} {i : Nat} {x : V} (h : (insV th)[i]? = some x) : ∃ p, p ∈ th ∧ x = .ref p.1 := by
  obtain ⟨p, hp, e⟩ := List.mem_map.mp (List.mem_of_getElem? h)
  exact ⟨p, hp, e.symm⟩
theorem Ins9.mono {H H' : Hp} {cs : List V} {k : Str} {e th : V} (I : Ins9 H cs k e th) (t : Tups H H') : Ins9 H' cs k e th := ⟨I.head, I.kin, I.eok.mono t, I.tok, I.eS, I.eN, I.tS, I.tN, I.l5, I.lc, I.ln, I.g2, I.g6, I.g1⟩
section
variable {P : Program} {w : World} {K : PySem.W.Frag} {mg : Str → Option Value} {base : Heap}
theorem ok_law {f C fI cc cd f1 f2 f3 f4 f5 f6 f7 f8 f9 f10 f11 f12 f13 : Addr} {fd d1 d2 d3 d4 d5 d6 d7 d8 d9 d10 d11 d12 d13 : FuncData} (F : Fun K "law" "law" sLaw f fd) (T : Zt mg) (N : NspTxt P K mg C fI cc cd)
    (C_law_digits : Ca P w K mg base CX0 2 "_law_digits" ["_law_script", "_law_first_here", "_law_last"] (spDig K) f1 d1)
    (C_law_program : Ca P w K mg base CX0 6 "_law_program" ["_law_box", "_law_threads", "_law_most", "_law_depth"] spProg f2 d2)
    (C_first_state : Ca P w K mg base CX0 2 "first_state" ["program"] spFirst f3 d3)
    (C_law_first : Ca P w K mg base CX0 2 "_law_first" ["_law_program_here"] spFirst f4 d4)
    (C_names_of : Ca P w K mg base CX0 1 "names_of" ["program", "kind"] spNames f5 d5)
    (C_law_names_of : Ca P w K mg base CX0 1 "_law_names_of" ["_law_program_here", "_law_kind"] spLNames f6 d6)
    (C_kind_of : Ca P w K mg base (L2.CX P w) 2 "kind_of" ["program", "name"] (spKindOf C) f7 d7)
    (C_lock_of : Ca P w K mg base CX0 1 "lock_of" ["program", "cond"] spLock f8 d8)
    (C_expression_of : Ca P w K mg base CX0 1 "expression_of" ["instruction"] spExpr f9 d9)
    (C_thing_of : Ca P w K mg base CX0 1 "thing_of" ["instruction"] spThing f10 d10)
    (C_law_tree_of : Ca P w K mg base CX0 1 "_law_tree_of" ["_law_item"] spTreeOf f11 d11)
    (C_law_thing : Ca P w K mg base CX0 1 "_law_thing" ["_law_item"] spLThing f12 d12)
    (C_law_same : Ca P w K mg base CX0 6 "_law_same" ["_law_actual", "_law_due"] (spSame 5) f13 d13)
    (GS : FnW P w K mg base f13 d13 ["_law_actual", "_law_due"] spSameS) : FnOk P w K mg base CX0 7 f fd ["_law_script"] (spLaw K) := by
  refine F.ok scLaw (fun vs H Q E h => ?_) (fun cdv A outer s H vs Q E hr h => ?_)
  · obtain ⟨a, ns, rfl, _⟩ := h
    rfl
  · obtain ⟨a, ns, rfl, hS, q⟩ := h
    have hr6 : Room 6 _ := hr
    have hr2 : Room 2 _ := hr.mono (by decide)
    have hr1 : Room 1 _ := hr.mono (by decide)
    have hdp := hr.depth
    refine ⟨_, (pss_cons (ps_set (i := 1) scLaw.nd rfl (.inl rfl) (pe_lst (pa_cons (pe_call C_law_digits.G hr2 (by rfl) C_law_digits.g C_law_digits.kp C_law_digits.b .nil pass0 (pa_cons (pv 0) (pa_cons pe_int (pa_cons pe_int pa_nil)))) (pa_cons pe_int pa_nil))))
      (pss_cons (ps_set (i := 2) scLaw.nd rfl (.inl rfl) (pe_call C_law_program.G hr6 (by rfl) C_law_program.g C_law_program.kp C_law_program.b .nil pass0 (pa_cons (pv 1) (pa_cons pe_int (pa_cons pe_int (pa_cons pe_int pa_nil))))))
      (pss_cons (ps_if (pt_not (pt_val (pe_call C_law_same.G hr6 (by rfl) C_law_same.g C_law_same.kp C_law_same.b .nil pass0 (pa_cons (pe_call C_first_state.G hr2 (by rfl) C_first_state.g C_first_state.kp C_first_state.b .nil pass0 (pa_cons (pv 2) pa_nil)) (pa_cons (pe_call C_law_first.G hr2 (by rfl) C_law_first.g C_law_first.kp C_law_first.b .nil pass0 (pa_cons (pv 2) pa_nil)) pa_nil)))))
      (pss_one (ps_ret pe_bl))
      pss_nil)
      (pss_cons (ps_for PassesOwn.never rfl (pi_list (pe_lst (pa_cons pe_str (pa_cons pe_str (pa_cons pe_str (pa_cons pe_str pa_nil)))))) (pg_name (i := 3) scLaw.nd rfl (.inl rfl))
      (pss_one (ps_if (pt_not (pt_val (pe_call C_law_same.G hr6 (by rfl) C_law_same.g C_law_same.kp C_law_same.b .nil pass0 (pa_cons (pe_call C_names_of.G hr1 (by rfl) C_names_of.g C_names_of.kp C_names_of.b .nil pass0 (pa_cons (pv 2) (pa_cons (pv 3) pa_nil))) (pa_cons (pe_callTy call_tuple_of (by rfl) T.z_tuple (by decide +kernel) (pa_cons (pe_call C_law_names_of.G hr1 (by rfl) C_law_names_of.g C_law_names_of.kp C_law_names_of.b .nil pass0 (pa_cons (pv 2) (pa_cons (pv 3) pa_nil))) pa_nil)) pa_nil)))))
      (pss_one (ps_ret pe_bl))
      pss_nil)))
      (pss_cons (ps_for PassesOwn.never rfl (pi_tup (pe_ix ix_tup (pv 2) pe_int (fun _ _ => rfl))) (pg_name (i := 4) scLaw.nd rfl (.inl rfl))
      (pss_cons (ps_if (pt_not (pt_val (pe_call C_law_same.G hr6 (by rfl) C_law_same.g C_law_same.kp C_law_same.b .nil pass0 (pa_cons (pe_call C_kind_of.G hr2 (by rfl) C_kind_of.g C_kind_of.kp C_kind_of.b .nil passL (pa_cons (pv 2) (pa_cons (pe_ix ix_tup (pv 4) pe_int (fun _ _ => rfl)) pa_nil))) (pa_cons (pe_ix ix_tup (pv 4) pe_int (fun _ _ => rfl)) pa_nil)))))
      (pss_one (ps_ret pe_bl))
      pss_nil)
      (pss_one (ps_if (PW.pt (pw_and (pt_cmpR op_eq (pe_ix ix_tup (pv 4) pe_int (fun _ _ => rfl)) pe_str (nomark _)) (pw_and1 (pt_not (pt_val (pe_call C_law_same.G hr6 (by rfl) C_law_same.g C_law_same.kp C_law_same.b .nil pass0 (pa_cons (pe_call C_lock_of.G hr1 (by rfl) C_lock_of.g C_lock_of.kp C_lock_of.b .nil pass0 (pa_cons (pv 2) (pa_cons (pe_ix ix_tup (pv 4) pe_int (fun _ _ => rfl)) pa_nil))) (pa_cons (pe_ix ix_tup (pv 4) pe_int (fun _ _ => rfl)) pa_nil))))))))
      (pss_one (ps_ret pe_bl))
      pss_nil))))
      (pss_cons (ps_for PassesOwn.never rfl (pi_tup (pe_ix ix_tup (pv 2) pe_int (fun _ _ => rfl))) (pg_name (i := 5) scLaw.nd rfl (.inl rfl))
      (pss_one (ps_for PassesOwn.never rfl (pi_tup (pv 5)) (pg_name (i := 6) scLaw.nd rfl (.inl rfl))
      (pss_one (ps_if (PW.pt (pw_or (pt_not (pt_val (pe_call C_law_same.G hr6 (by rfl) C_law_same.g C_law_same.kp C_law_same.b .nil pass0 (pa_cons (pe_call C_expression_of.G hr1 (by rfl) C_expression_of.g C_expression_of.kp C_expression_of.b .nil pass0 (pa_cons (pv 6) pa_nil)) (pa_cons (pe_call C_law_tree_of.G hr1 (by rfl) C_law_tree_of.g C_law_tree_of.kp C_law_tree_of.b .nil pass0 (pa_cons (pv 6) pa_nil)) pa_nil))))) (pw_or1 (pt_not (pt_val (pe_call C_law_same.G hr6 (by rfl) C_law_same.g C_law_same.kp C_law_same.b .nil pass0 (pa_cons (pe_call C_thing_of.G hr1 (by rfl) C_thing_of.g C_thing_of.kp C_thing_of.b .nil pass0 (pa_cons (pv 6) pa_nil)) (pa_cons (pe_call C_law_thing.G hr1 (by rfl) C_law_thing.g C_law_thing.kp C_law_thing.b .nil pass0 (pa_cons (pv 6) pa_nil)) pa_nil))))))))
      (pss_one (ps_ret pe_bl))
      pss_nil)))))
      (pss_cons (ps_try_as (i := 7) (tb := fun W => tDrop (tCallS (spKindOf C) (WE W) (tCons (tVar 2) (tCons (tC (.str "zzzzzzz9")) tNil)))) (ts := t_suite C) (Wout := fun _ _ _ _ => False) rfl rfl scLaw.nd rfl rfl ⟨rfl, by decide, Or.inl N.gC⟩ takes0
      (fun W pn xe tk _ => pss_one (ps_expr (by exact (pe_callS C_kind_of.G hr2 rfl C_kind_of.g C_kind_of.kp C_kind_of.b (fun σ => passAt tk σ) (by exact (pa_cons (pv 2) (pa_cons pe_str pa_nil)))))))
      (fun a oe cls d pn hz hf => pss_one (ps_ret (by exact (pe_callW GS hdp rfl C_law_same.g C_law_same.kp C_law_same.b (by exact (pa_cons (pe_byNsp N hz hf (pv 7)) (pa_cons pe_str pa_nil))))))))
      (pss_one (ps_ret pe_bl))))))))), ?_⟩
    -- the box, the program
    refine ⟨_, rfl, a, ns, rfl, hS, fun H1 dg ds s1 ndg hdg => ⟨(by show 2 ≤ sizeLine; decide), fun b nb => ?_⟩⟩
    have bx : Box (upd H1 b (.lst [.ref dg, .int 0])) b := ⟨dg, 0, ds, upd_same, same_upd nb _ _ hdg⟩
    refine ⟨_, rfl, b, rfl, bx, fun p sh ts H3 _ pg => ?_⟩
    -- the first state, twice
    refine ⟨_, rfl, p, sh, ts, rfl, pg, fun q1 H4 s4 F4 => ⟨_, rfl, p, sh, ts, rfl, pg.mono (Tups.of s4), fun q2 H5 s5 F5 => ⟨_, _, rfl, (F4.mono (Tups.of s5)).same F5 pg.ok.len pg.len, true, rfl, iteF ?_⟩⟩⟩
    have pg5 : Pg H5 p sh ts := pg.mono (Tups.of (s4.trans s5))
    clear F4 F5 s4 s5 pg bx
    -- the names of each kind
    refine ⟨(by show 4 ≤ sizeLine; decide), fun l nl => ⟨l, rfl, ⟨_, .of upd_same⟩, for_list (K := K) (a := l) (xs := (["var", "lock", "cond", "queue"] : List Str).map V.str)
      (fun i σ H' => (∃ y, σ = [some (.ref a), some (.ref b), some (.ref p), y, none, none, none, none]) ∧ Same (upd H5 l (.lst ((["var", "lock", "cond", "queue"] : List Str).map V.str))) H') ⟨⟨none, rfl⟩, Same.refl _⟩ (fun i σ H' _ z => z.2.seq (.of upd_same)) ?_ ?_⟩⟩
    · rintro i x σ H6 hx ⟨⟨y, rfl⟩, s6⟩
      obtain ⟨k, _, rfl⟩ := List.mem_map.mp (List.mem_of_getElem? hx)
      have pg6 : Pg H6 p sh ts := pg5.mono (Tups.of ((same_upd nl).trans s6))
      refine ⟨_, rfl, _, rfl, p, k, sh, rfl, pg6.sh, fun q1 H7 s7 n7 h7 => ?_⟩
      refine ⟨_, rfl, _, rfl, p, k, sh, rfl, pg6.sh.mono (Tups.of s7), fun q2 H8 s8 n8 h8 => ⟨q2, _, rfl, .inl ⟨.of h8, fun q3 n3 => ?_⟩⟩⟩
      have s9 := s8.trans (same_upd (o := .tup ((nmsK k sh).map V.str)) n3)
      refine ⟨_, _, rfl, (eq_same (n := 1) (s9 _ _ h7) upd_same ?_ fun u hu => ?_).up (by decide), true, rfl, iteF ⟨⟨_, rfl⟩, s6.trans (s7.trans s9)⟩⟩
      · rw [List.length_map]
        have h6 := pg5.ok.len
        exact Nat.le_trans (nmsK_le k sh) (by omega)
      · obtain ⟨z, _, rfl⟩ := List.mem_map.mp hu
        exact Eq2.flat (.str z)
    rintro σ H6 ⟨⟨y3, rfl⟩, s6⟩
    have pg6 : Pg H6 p sh ts := pg5.mono (Tups.of ((same_upd nl).trans s6))
    clear s6 pg5 nl
    obtain ⟨sa, ta, hp, hsa, hta⟩ := pg6.ex
    -- each shared thing
    refine ⟨_, rfl, p, _, 0, .ref sa, rfl, rfl, .of hp, atI_nat (j := 0) rfl, sa, rfl, ⟨_, .of hsa⟩, for_tup (K := K) (a := sa) (xs := shV sh)
      (fun i σ H' => (∃ y, σ = [some (.ref a), some (.ref b), some (.ref p), y3, y, none, none, none]) ∧ H' = H6) ⟨⟨none, rfl⟩, rfl⟩ (fun i σ H' _ z => by rw [z.2]; exact .of hsa) ?_ ?_⟩
    · rintro i x σ H7 hx ⟨⟨y, rfl⟩, rfl⟩
      obtain ⟨t, ht, rfl, hm⟩ := shV_at hx
      have hc := pg6.ok.at_ t hm
      refine ⟨_, rfl, _, rfl, t.1, _, 1, _, rfl, rfl, .of hc, atI_nat (j := 1) rfl, p, t.2.name, sh, rfl, pg6.sh, fun u hu e => ?_, fun hn => absurd (List.mem_map.mpr ⟨t, hm, rfl⟩) hn⟩
      obtain ⟨j, hj⟩ := List.getElem?_of_mem hu
      have eij := same_name pg6.ok.nd hj ht e
      rw [eij, ht] at hj
      cases hj
      refine ⟨_, rfl, t.1, _, 0, _, rfl, rfl, .of hc, atI_nat (j := 0) rfl, _, _, rfl, Eq2.flat (.str _), true, rfl, iteF ?_⟩
      refine ⟨_, rfl, t.1, _, 0, _, rfl, rfl, .of hc, atI_nat (j := 0) rfl, rfl, _, rfl, ite2 (fun c => ?_) (fun _ => iteF ⟨⟨_, rfl⟩, rfl⟩)⟩
      obtain ⟨n, lk, et⟩ := cond_of (dec_str2 c)
      have hm' : (t.1, Thing.cond n lk) ∈ sh := by
        rw [← et]
        exact hm
      refine ⟨_, rfl, _, rfl, t.1, _, 1, .str n, rfl, rfl, .of hc, atI_nat (j := 1) (by rw [et]; rfl), p, t.1, n, lk, sh, rfl, pg6.sh, hm', ?_⟩
      exact ⟨_, rfl, t.1, _, 2, .str lk, rfl, rfl, .of hc, atI_nat (j := 2) (by rw [et]; rfl), _, _, rfl, Eq2.flat (.str _), true, rfl, iteF ⟨⟨_, rfl⟩, rfl⟩⟩
    rintro σ H7 ⟨⟨y4, rfl⟩, rfl⟩
    -- each instruction
    refine ⟨_, rfl, p, _, 1, .ref ta, rfl, rfl, .of hp, atI_nat (j := 1) rfl, ta, rfl, ⟨_, .of hta⟩, for_tup (K := K) (a := ta) (xs := thsV ts)
      (fun i σ H' => (∃ y5 y6, σ = [some (.ref a), some (.ref b), some (.ref p), y3, y4, y5, y6, none]) ∧ Same H7 H') ⟨⟨none, none, rfl⟩, Same.refl _⟩ (fun i σ H' _ z => .of (z.2 _ _ hta)) ?_ ?_⟩
    · rintro i x σ H8 hx ⟨⟨y5, y6, rfl⟩, s8⟩
      obtain ⟨th, hth, rfl⟩ := thsV_at hx
      obtain ⟨h1, h2⟩ := pg6.at_ th hth
      refine ⟨_, rfl, th.1, rfl, ⟨_, .of (s8 _ _ h1)⟩, for_tup (K := K) (a := th.1) (xs := insV th.2)
        (fun i σ H' => (∃ y6, σ = [some (.ref a), some (.ref b), some (.ref p), y3, y4, some (.ref th.1), y6, none]) ∧ Same H7 H') ⟨⟨_, rfl⟩, s8⟩ (fun i σ H' _ z => .of (z.2 _ _ h1)) ?_ ?_⟩
      · rintro j x σ H9 hx ⟨⟨y6, rfl⟩, s9⟩
        obtain ⟨it, hit, rfl⟩ := insV_at hx
        obtain ⟨g1, g2⟩ := h2 it hit
        obtain ⟨k, e, tn, I⟩ := (g2.mono (Tups.of s9)).nine
        have hc := s9 _ _ g1
        refine ⟨_, rfl, it.1, it.2, k, e, tn, rfl, hc, I, _, rfl, it.1, it.2, k, e, tn, rfl, hc, I, fun H10 s10 => ⟨_, _, rfl, (I.eok.mono (Tups.of s10)).up (by decide), true, rfl, iteF ?_⟩⟩
        have I10 := I.mono (Tups.of s10)
        have hc10 := s10 _ _ hc
        refine ⟨_, rfl, it.1, it.2, k, e, tn, rfl, hc10, I10, _, rfl, it.1, it.2, k, e, tn, rfl, hc10, I10, fun H11 s11 => ⟨_, _, rfl, Eq2.flat I.tok, true, rfl, iteF ⟨⟨_, rfl⟩, s9.trans (s10.trans s11)⟩⟩⟩
      · rintro σ H9 ⟨⟨y6, rfl⟩, s9⟩
        exact ⟨⟨_, _, rfl⟩, s9⟩
    rintro σ H8 ⟨⟨y5, y6, rfl⟩, s8⟩
    -- a name that is none
    have pg8 := pg6.mono (Tups.of s8)
    refine ⟨_, rfl, p, bad, sh, rfl, pg8.sh, fun u hu e => ?_, fun _ d hd => ⟨true, N.te, fun _ a0 _ => ?_, fun z => Bool.noConfusion z⟩⟩
    · refine absurd (List.mem_map.mpr ⟨u, hu, e⟩) pg8.ok.nb
    · exact ⟨_, rfl, rfl, rfl, d, _, rfl, upd_same, _, rfl, q _⟩
end
end Fst

/-! What the top has left, put together. -/
namespace Fst
open PySem PySem.Spec PyProof.Rows L2
/-- a def stands behind the top -/
def DefAt (K : PySem.W.Frag) (x : Str) (st : Stmt) : Prop := ∃ (f : Addr) (oc : Value) (od : Option Addr) (kV dc pm : Value) (an : Option Addr) (cd ct : Value) (sl : Array (Option Value)),
  PySem.W.nsIn K mainGlobals x = some (some (.ref f)) ∧ K.lookup f = some ⟨oc, od, .func (PySem.W.fnOf x x (defArgs st) (defBody st) (defScope st) .none kV dc pm an cd ct), sl⟩ ∧ PySem.W.codeIn K cd x = true ∧ PySem.W.keepIn K (.ref f) = true
theorem DefAt.get {K : PySem.W.Frag} {mg : Str → Option Value} {h : Heap} {x : Str} {st : Stmt} (D : DefAt K x st) (X : K.In h) (G : h.Ns mainGlobals mg) : ∃ f fd, Fun K x x st f fd ∧ mg x = some (.ref f) := by
  obtain ⟨f, oc, od, kV, dc, pm, an, cd, ct, sl, a, l, c, k⟩ := D
  exact ⟨f, _, fun_mk (st := st) l c k, PySem.W.mg_of X G a⟩
/-- a dict of the top, by the written part alone -/
structure TabK (K : PySem.W.Frag) (w : World) (x : Str) (tab : Str → Option Int) (d : Addr) (es : Array DictEntry) (n : Nat) : Prop where
  gK : PySem.W.nsIn K mainGlobals x = some (some (.ref d))
  kd : KDict K w d es n
  at_ : ∀ k ∈ kinds, ∃ r, PySem.W.nsIn K d k = some r ∧ RelO ((tab k).map V.int) r
theorem tab_some {tab : Str → Option Int} {k : Str} {i : Int} {r : Option Value} {t : Tok} (h : tab k = some i) (e : r = some (.int i t)) : RelO ((tab k).map V.int) r := by
  rw [h, e]
  exact ⟨t, rfl⟩
theorem tab_none {tab : Str → Option Int} {k : Str} {r : Option Value} (h : tab k = none) (e : r = none) : RelO ((tab k).map V.int) r := by
  rw [h, e]
  trivial
/-- the exception's class, by the written part alone -/
structure NspK (P : Program) (K : PySem.W.Frag) (C fI cc cd : Addr) : Prop where
  gK : PySem.W.nsIn K mainGlobals "NoSuchPlace" = some (some (.ref C))
  supK : PySem.W.nsIn K mainGlobals "super" = some none
  txt : ∀ mg : Str → Option Value, mg "NoSuchPlace" = some (.ref C) → mg "super" = none → NspTxt P K mg C fI cc cd
/-- all of it -/
structure Facts (P : Program) (w : World) (K : PySem.W.Frag) : Prop where
  law : DefAt K "law" sLaw
  d_law_draw : DefAt K "_law_draw" sDraw
  d_law_cell : DefAt K "_law_cell" sCell
  d_law_digits : DefAt K "_law_digits" sDigits
  d_law_same : DefAt K "_law_same" sSame
  d_law_tree : DefAt K "_law_tree" sTree
  d_law_name : DefAt K "_law_name" sName
  d_law_of_kind : DefAt K "_law_of_kind" sOfK
  d_law_shared : DefAt K "_law_shared" sShared
  d_law_instruction : DefAt K "_law_instruction" sIns
  d_law_thread : DefAt K "_law_thread" sThr
  d_law_program : DefAt K "_law_program" sProg
  d_names_of : DefAt K "names_of" sNames
  d_law_names_of : DefAt K "_law_names_of" sLNames
  d_kind_of : DefAt K "kind_of" sKind
  d_lock_of : DefAt K "lock_of" sLock
  d_first_state : DefAt K "first_state" sFirst
  d_law_first : DefAt K "_law_first" sLFirst
  d_expression_of : DefAt K "expression_of" sExpr
  d_thing_of : DefAt K "thing_of" sThing
  d_law_tree_of : DefAt K "_law_tree_of" sTreeOf
  d_law_thing : DefAt K "_law_thing" sLThing
  k_len : PySem.W.nsIn K mainGlobals "len" = some none
  k_int : PySem.W.nsIn K mainGlobals "int" = some none
  k_tuple : PySem.W.nsIn K mainGlobals "tuple" = some none
  k_range : PySem.W.nsIn K mainGlobals "range" = some none
  k_str : PySem.W.nsIn K mainGlobals "str" = some none
  k_isinstance : PySem.W.nsIn K mainGlobals "isinstance" = some none
  k_list : PySem.W.nsIn K mainGlobals "list" = some none
  k_bool : PySem.W.nsIn K mainGlobals "bool" = some none
  run : ∃ t, PySem.W.nsIn K mainGlobals "RUN" = some (some (.str "run" t))
  tree : ∃ d es n, TabK K w "WITH_TREE" exprTab d es n
  thing : ∃ d es n, TabK K w "WITH_THING" thingTab d es n
  nsp : ∃ C fI cc cd, NspK P K C fI cc cd
theorem all_mk {P : Program} {w : World} {K : PySem.W.Frag} {h : Heap} {mg : Str → Option Value} {fa : Addr} (X : K.In h) (G : h.Ns mainGlobals mg) (hfa : mg "law" = some (.ref fa)) (A : Facts P w K) :
    ∃ fd : FuncData, (∀ (s : Shared) (v : Value), BindsTo s fd ⟨[v], []⟩ [("_law_script", v)]) ∧ ∀ base : Heap, K.In base → base.Ns mainGlobals mg → FnOk P w K mg base CX0 7 fa fd ["_law_script"] (spLaw K) := by
  obtain ⟨f, oc, od, kV, dc, pm, an, cdv, ct, sl, a, l, c, k⟩ := A.law
  have e := hfa.symm.trans (PySem.W.mg_of X G a)
  cases e
  have FL := fun_mk (st := sLaw) l c k
  obtain ⟨f_law_draw, fd_law_draw, F_law_draw, g_law_draw⟩ := A.d_law_draw.get X G
  obtain ⟨f_law_cell, fd_law_cell, F_law_cell, g_law_cell⟩ := A.d_law_cell.get X G
  obtain ⟨f_law_digits, fd_law_digits, F_law_digits, g_law_digits⟩ := A.d_law_digits.get X G
  obtain ⟨f_law_same, fd_law_same, F_law_same, g_law_same⟩ := A.d_law_same.get X G
  obtain ⟨f_law_tree, fd_law_tree, F_law_tree, g_law_tree⟩ := A.d_law_tree.get X G
  obtain ⟨f_law_name, fd_law_name, F_law_name, g_law_name⟩ := A.d_law_name.get X G
  obtain ⟨f_law_of_kind, fd_law_of_kind, F_law_of_kind, g_law_of_kind⟩ := A.d_law_of_kind.get X G
  obtain ⟨f_law_shared, fd_law_shared, F_law_shared, g_law_shared⟩ := A.d_law_shared.get X G
  obtain ⟨f_law_instruction, fd_law_instruction, F_law_instruction, g_law_instruction⟩ := A.d_law_instruction.get X G
  obtain ⟨f_law_thread, fd_law_thread, F_law_thread, g_law_thread⟩ := A.d_law_thread.get X G
  obtain ⟨f_law_program, fd_law_program, F_law_program, g_law_program⟩ := A.d_law_program.get X G
  obtain ⟨f_names_of, fd_names_of, F_names_of, g_names_of⟩ := A.d_names_of.get X G
  obtain ⟨f_law_names_of, fd_law_names_of, F_law_names_of, g_law_names_of⟩ := A.d_law_names_of.get X G
  obtain ⟨f_kind_of, fd_kind_of, F_kind_of, g_kind_of⟩ := A.d_kind_of.get X G
  obtain ⟨f_lock_of, fd_lock_of, F_lock_of, g_lock_of⟩ := A.d_lock_of.get X G
  obtain ⟨f_first_state, fd_first_state, F_first_state, g_first_state⟩ := A.d_first_state.get X G
  obtain ⟨f_law_first, fd_law_first, F_law_first, g_law_first⟩ := A.d_law_first.get X G
  obtain ⟨f_expression_of, fd_expression_of, F_expression_of, g_expression_of⟩ := A.d_expression_of.get X G
  obtain ⟨f_thing_of, fd_thing_of, F_thing_of, g_thing_of⟩ := A.d_thing_of.get X G
  obtain ⟨f_law_tree_of, fd_law_tree_of, F_law_tree_of, g_law_tree_of⟩ := A.d_law_tree_of.get X G
  obtain ⟨f_law_thing, fd_law_thing, F_law_thing, g_law_thing⟩ := A.d_law_thing.get X G
  have b_law_draw : Binds K fd_law_draw ["_law_box", "_law_many"] [] := F_law_draw.binds (ps := ["_law_box", "_law_many"]) fun _ _ _ _ _ _ us hl => match us, hl with | [_, _], _ => rfl
  have b_law_cell : Binds K fd_law_cell ["_law_script", "_law_k"] [] := F_law_cell.binds (ps := ["_law_script", "_law_k"]) fun _ _ _ _ _ _ us hl => match us, hl with | [_, _], _ => rfl
  have b_law_digits : Binds K fd_law_digits ["_law_script", "_law_first_here", "_law_last"] [] := F_law_digits.binds (ps := ["_law_script", "_law_first_here", "_law_last"]) fun _ _ _ _ _ _ us hl => match us, hl with | [_, _, _], _ => rfl
  have b_law_same : Binds K fd_law_same ["_law_actual", "_law_due"] [] := F_law_same.binds (ps := ["_law_actual", "_law_due"]) fun _ _ _ _ _ _ us hl => match us, hl with | [_, _], _ => rfl
  have b_law_tree : Binds K fd_law_tree ["_law_box", "_law_depth"] [] := F_law_tree.binds (ps := ["_law_box", "_law_depth"]) fun _ _ _ _ _ _ us hl => match us, hl with | [_, _], _ => rfl
  have b_law_name : Binds K fd_law_name ["_law_box", "_law_taken"] [] := F_law_name.binds (ps := ["_law_box", "_law_taken"]) fun _ _ _ _ _ _ us hl => match us, hl with | [_, _], _ => rfl
  have b_law_of_kind : Binds K fd_law_of_kind ["_law_shared_here", "_law_kind"] [] := F_law_of_kind.binds (ps := ["_law_shared_here", "_law_kind"]) fun _ _ _ _ _ _ us hl => match us, hl with | [_, _], _ => rfl
  have b_law_shared : Binds K fd_law_shared ["_law_box"] [] := F_law_shared.binds (ps := ["_law_box"]) fun _ _ _ _ _ _ us hl => match us, hl with | [_], _ => rfl
  have b_law_instruction : Binds K fd_law_instruction ["_law_box", "_law_shared_here", "_law_size", "_law_depth"] [] := F_law_instruction.binds (ps := ["_law_box", "_law_shared_here", "_law_size", "_law_depth"]) fun _ _ _ _ _ _ us hl => match us, hl with | [_, _, _, _], _ => rfl
  have b_law_thread : Binds K fd_law_thread ["_law_box", "_law_shared_here", "_law_most", "_law_depth"] [] := F_law_thread.binds (ps := ["_law_box", "_law_shared_here", "_law_most", "_law_depth"]) fun _ _ _ _ _ _ us hl => match us, hl with | [_, _, _, _], _ => rfl
  have b_law_program : Binds K fd_law_program ["_law_box", "_law_threads", "_law_most", "_law_depth"] [] := F_law_program.binds (ps := ["_law_box", "_law_threads", "_law_most", "_law_depth"]) fun _ _ _ _ _ _ us hl => match us, hl with | [_, _, _, _], _ => rfl
  have b_names_of : Binds K fd_names_of ["program", "kind"] [] := F_names_of.binds (ps := ["program", "kind"]) fun _ _ _ _ _ _ us hl => match us, hl with | [_, _], _ => rfl
  have b_law_names_of : Binds K fd_law_names_of ["_law_program_here", "_law_kind"] [] := F_law_names_of.binds (ps := ["_law_program_here", "_law_kind"]) fun _ _ _ _ _ _ us hl => match us, hl with | [_, _], _ => rfl
  have b_kind_of : Binds K fd_kind_of ["program", "name"] [] := F_kind_of.binds (ps := ["program", "name"]) fun _ _ _ _ _ _ us hl => match us, hl with | [_, _], _ => rfl
  have b_lock_of : Binds K fd_lock_of ["program", "cond"] [] := F_lock_of.binds (ps := ["program", "cond"]) fun _ _ _ _ _ _ us hl => match us, hl with | [_, _], _ => rfl
  have b_first_state : Binds K fd_first_state ["program"] [] := F_first_state.binds (ps := ["program"]) fun _ _ _ _ _ _ us hl => match us, hl with | [_], _ => rfl
  have b_law_first : Binds K fd_law_first ["_law_program_here"] [] := F_law_first.binds (ps := ["_law_program_here"]) fun _ _ _ _ _ _ us hl => match us, hl with | [_], _ => rfl
  have b_expression_of : Binds K fd_expression_of ["instruction"] [] := F_expression_of.binds (ps := ["instruction"]) fun _ _ _ _ _ _ us hl => match us, hl with | [_], _ => rfl
  have b_thing_of : Binds K fd_thing_of ["instruction"] [] := F_thing_of.binds (ps := ["instruction"]) fun _ _ _ _ _ _ us hl => match us, hl with | [_], _ => rfl
  have b_law_tree_of : Binds K fd_law_tree_of ["_law_item"] [] := F_law_tree_of.binds (ps := ["_law_item"]) fun _ _ _ _ _ _ us hl => match us, hl with | [_], _ => rfl
  have b_law_thing : Binds K fd_law_thing ["_law_item"] [] := F_law_thing.binds (ps := ["_law_item"]) fun _ _ _ _ _ _ us hl => match us, hl with | [_], _ => rfl
  have T : Zt mg := ⟨PySem.W.mg_none_of X G A.k_len, PySem.W.mg_none_of X G A.k_int, PySem.W.mg_none_of X G A.k_tuple, PySem.W.mg_none_of X G A.k_range, PySem.W.mg_none_of X G A.k_str, PySem.W.mg_none_of X G A.k_isinstance, PySem.W.mg_none_of X G A.k_list, PySem.W.mg_none_of X G A.k_bool⟩
  obtain ⟨tr, hrun⟩ := A.run
  obtain ⟨d1, es1, n1, D1⟩ := A.tree
  obtain ⟨d2, es2, n2, D2⟩ := A.thing
  obtain ⟨C, fI, cc, cd, NK⟩ := A.nsp
  have N := NK.txt mg (PySem.W.mg_of X G NK.gK) (PySem.W.mg_none_of X G NK.supK)
  refine ⟨PySem.W.fnOf "law" "law" (defArgs sLaw) (defBody sLaw) (defScope sLaw) .none kV dc pm an cdv ct, fun s v => .of_eq rfl, fun base _ _ => ?_⟩
  have C_draw : Ca P w K mg base CX0 1 "_law_draw" ["_law_box", "_law_many"] spDraw f_law_draw fd_law_draw := ⟨ok_draw F_law_draw T, g_law_draw, F_law_draw.kp, b_law_draw⟩
  have C_cell : Ca P w K mg base CX0 1 "_law_cell" ["_law_script", "_law_k"] (spCellF K) f_law_cell fd_law_cell := ⟨ok_cell F_law_cell T, g_law_cell, F_law_cell.kp, b_law_cell⟩
  have C_tree : Ca P w K mg base CX0 3 "_law_tree" ["_law_box", "_law_depth"] (spTree 2) f_law_tree fd_law_tree := ⟨ok_tree F_law_tree g_law_tree b_law_tree C_draw 2, g_law_tree, F_law_tree.kp, b_law_tree⟩
  have C_name : Ca P w K mg base CX0 2 "_law_name" ["_law_box", "_law_taken"] spName f_law_name fd_law_name := ⟨ok_name F_law_name T C_draw, g_law_name, F_law_name.kp, b_law_name⟩
  have C_ofk : Ca P w K mg base CX0 1 "_law_of_kind" ["_law_shared_here", "_law_kind"] spOfK f_law_of_kind fd_law_of_kind := ⟨ok_ofk F_law_of_kind, g_law_of_kind, F_law_of_kind.kp, b_law_of_kind⟩
  have C_shared : Ca P w K mg base CX0 3 "_law_shared" ["_law_box"] spShared f_law_shared fd_law_shared := ⟨ok_shared F_law_shared T C_draw C_name, g_law_shared, F_law_shared.kp, b_law_shared⟩
  have C_ins : Ca P w K mg base CX0 4 "_law_instruction" ["_law_box", "_law_shared_here", "_law_size", "_law_depth"] spIns f_law_instruction fd_law_instruction := ⟨ok_ins F_law_instruction T C_draw C_tree C_ofk, g_law_instruction, F_law_instruction.kp, b_law_instruction⟩
  have C_thr : Ca P w K mg base CX0 5 "_law_thread" ["_law_box", "_law_shared_here", "_law_most", "_law_depth"] spThr f_law_thread fd_law_thread := ⟨ok_thr F_law_thread T C_draw C_ins, g_law_thread, F_law_thread.kp, b_law_thread⟩
  have C_names : Ca P w K mg base CX0 1 "names_of" ["program", "kind"] spNames f_names_of fd_names_of := ⟨ok_names F_names_of T, g_names_of, F_names_of.kp, b_names_of⟩
  have C_lnames : Ca P w K mg base CX0 1 "_law_names_of" ["_law_program_here", "_law_kind"] spLNames f_law_names_of fd_law_names_of := ⟨ok_lnames F_law_names_of, g_law_names_of, F_law_names_of.kp, b_law_names_of⟩
  exact ok_law FL T N
    ⟨ok_digits F_law_digits T C_cell, g_law_digits, F_law_digits.kp, b_law_digits⟩
    ⟨ok_prog F_law_program T C_draw C_shared C_thr, g_law_program, F_law_program.kp, b_law_program⟩
    ⟨ok_first F_first_state T (PySem.W.mg_of X G hrun) ⟨tr, rfl⟩ C_names, g_first_state, F_first_state.kp, b_first_state⟩
    ⟨ok_lfirst F_law_first T C_lnames, g_law_first, F_law_first.kp, b_law_first⟩
    C_names C_lnames
    ⟨ok_kind F_kind_of N, g_kind_of, F_kind_of.kp, b_kind_of⟩
    ⟨ok_lock F_lock_of, g_lock_of, F_lock_of.kp, b_lock_of⟩
    ⟨ok_expr F_expression_of ⟨PySem.W.mg_of X G D1.gK, D1.kd, D1.at_⟩, g_expression_of, F_expression_of.kp, b_expression_of⟩
    ⟨ok_thing F_thing_of ⟨PySem.W.mg_of X G D2.gK, D2.kd, D2.at_⟩, g_thing_of, F_thing_of.kp, b_thing_of⟩
    ⟨ok_treeof F_law_tree_of, g_law_tree_of, F_law_tree_of.kp, b_law_tree_of⟩
    ⟨ok_lthing F_law_thing, g_law_thing, F_law_thing.kp, b_law_thing⟩
    ⟨ok_same F_law_same T g_law_same b_law_same 5, g_law_same, F_law_same.kp, b_law_same⟩
    (ok_sames F_law_same T)
/-- an error of the class at S is what «except S» names -/
theorem exm_own {K : PySem.W.Frag} {S : Addr} (h1 : PySem.W.subIn K (.ref S) (.type "BaseException") = some true) (h2 : PySem.W.isClsIn K S = true) (h3 : PySem.W.typeIn K (.ref S) = some (.type "type")) (h4 : PySem.W.subIn K (.ref S) (.ref S) = some true) :
    PySem.W.exmOne K (.ref S) (.ref S) = some true := by
  have e1 : (PySem.W.subIn K (.ref S) (.type "BaseException") == some true) = true := by rw [h1] <;> rfl
  have e2 : ((PySem.W.clsIn K S).isSome && PySem.W.typeIn K (.ref S) == some (.type "type")) = true := by
    have h2' : (PySem.W.clsIn K S).isSome = true := h2
    rw [h2', h3] <;> rfl
  show (if (PySem.W.subIn K (.ref S) (.type "BaseException") == some true) = true then (if ((PySem.W.clsIn K S).isSome && PySem.W.typeIn K (.ref S) == some (.type "type")) = true then PySem.W.subIn K (.ref S) (.ref S) else none) else none) = some true
  rw [if_pos e1, if_pos e2]
  exact h4
theorem nsp_mk {P : Program} {K : PySem.W.Frag} {C fI cc cd C2 : Addr} {nm q : Str} {N : Addr} {bs : List Value} {sn : List Str} {sub : List Value} {ab : Bool} {col : Option Bool} {dd : Option Addr} {m0 m1 m2 m3 m5 : Option Value}
    {oc : Value} {od : Option Addr} {kV doc pm : Value} {an : Option Addr} {ct : Value} {osl : Array (Option Value)} {ccl : Value} {cdd : Option Addr} {vs : Array Value} {ccs : Array (Option Value)} {file : Str} {tf : Tok} {cl : Value} {cld : Option Addr} {csl : Array (Option Value)}
    (gK : PySem.W.nsIn K mainGlobals "NoSuchPlace" = some (some (.ref C))) (supK : PySem.W.nsIn K mainGlobals "super" = some none)
    (xL : K.lookup C = some (excClassObj nm q C N bs [.ref C2, .type "ValueError", .type "Exception", .type "BaseException", .type "object"] true sn sub ab col dd m0 m1 m2 m3 m5 "ValueError.__new__"))
    (sa : PySem.W.findIn K (.ref C) "__setattr__" = some (some (.builtin "object.__setattr__"))) (ga : PySem.W.findIn K (.ref C) "__getattribute__" = some (some (.builtin "BaseException.__getattribute__"))) (gg : PySem.W.findIn K (.ref C) "__getattr__" = some none)
    (noN : PySem.W.findIn K (.ref C) "word" = some none) (iC : PySem.W.findIn K (.ref C) "__init__" = some (some (.ref fI))) (tC : PySem.W.typeIn K (.ref fI) = some (.type "function"))
    (kC : PySem.W.keepIn K (.ref C) = true) (exC : PySem.W.subIn K (.ref C) (.type "BaseException") = some true) (veC : PySem.W.subIn K (.ref C) (.type "ValueError") = some true) (tyC : PySem.W.typeIn K (.ref C) = some (.type "type"))
    (hdC : PySem.W.hasDictIn K C = true) (icC : PySem.W.isClsIn K C = true) (sC : PySem.W.subIn K (.ref C) (.ref C) = some true)
    (lI : K.lookup fI = some ⟨oc, od, .func (PySem.W.ksFn "__init__" "NoSuchPlace.__init__" (defArgs sInit) (defBody sInit) (defScope sInit) .none kV doc pm an (.ref cd) ct cc), osl⟩) (cI : PySem.W.codeIn K (.ref cd) "NoSuchPlace.__init__" = true)
    (lc : K.lookup cd = some ⟨ccl, cdd, .fields vs, ccs⟩) (hvs : vs[2]? = some (.str file tf)) (hfile : ((P.main.file : Str) == file) = true) (lcc : K.lookup cc = some ⟨cl, cld, .cell (some (.ref C)), csl⟩) (mro : PySem.W.mroIn K C (.ref C) = some true)
    (top : (P.main.scope.names.lookup ("super" : Str)).isSome = false) (opq : PySem.W.nsIn K cStatics "thirdparty.any" = some none) (ini : PySem.W.ks_superIn K C C "__init__" = some (some (.builtin "ValueError.__init__"))) : NspK P K C fI cc cd :=
  ⟨gK, supK, fun mg h1 h2 =>
    { gC := h1, cls := ⟨nm, q, N, bs, _, sn, sub, ab, col, dd, m0, m1, m2, m3, m5, xL, rfl⟩, sa := sa, ga := ga, gg := gg, noN := noN, iC := iC, tC := tC, kC := kC, exC := exC, veC := veC, tyC := tyC, hdC := hdC, te := exm_own exC icC tyC sC,
      fn := ⟨oc, od, kV, doc, pm, an, ct, osl, lI, cI⟩, code := ⟨ccl, cdd, vs, ccs, file, tf, lc, hvs, hfile⟩, cell := ⟨cl, cld, csl, lcc⟩, mro := mro, sup := h2, top := top, opq := opq, ini := ini }⟩
theorem defat_mk {K : PySem.W.Frag} {x : Str} {st : Stmt} {f : Addr} {oc : Value} {od : Option Addr} {kV dc pm : Value} {an : Option Addr} {cd ct : Value} {sl : Array (Option Value)}
    (a : PySem.W.nsIn K mainGlobals x = some (some (.ref f))) (l : K.lookup f = some ⟨oc, od, .func (PySem.W.fnOf x x (defArgs st) (defBody st) (defScope st) .none kV dc pm an cd ct), sl⟩) (c : PySem.W.codeIn K cd x = true)
    (k : PySem.W.keepIn K (.ref f) = true) : DefAt K x st := ⟨f, oc, od, kV, dc, pm, an, cd, ct, sl, a, l, c, k⟩
theorem run_mk {K : PySem.W.Frag} {t : Tok} (a : PySem.W.nsIn K mainGlobals "RUN" = some (some (.str "run" t))) : ∃ t, PySem.W.nsIn K mainGlobals "RUN" = some (some (.str "run" t)) := ⟨t, a⟩
theorem tabk_mk {K : PySem.W.Frag} {w : World} {x : Str} {tab : Str → Option Int} {d : Addr} {es : Array DictEntry} {n : Nat} (a : PySem.W.nsIn K mainGlobals x = some (some (.ref d)))
    (l : K.lookup d = some ⟨.type "dict", none, .dict es n, #[]⟩) (k : PySem.W.KeysLit w.params es.toList) (o : (d == sysModules) = false) (m : ∀ k ∈ kinds, ∃ r, PySem.W.nsIn K d k = some r ∧ RelO ((tab k).map V.int) r) :
    ∃ d es n, TabK K w x tab d es n := ⟨d, es, n, a, ⟨l, k, o⟩, m⟩
theorem rel_mk {K : PySem.W.Frag} {d : Addr} {k : Str} {o : Option V} {r : Option Value} (a : PySem.W.nsIn K d k = some r) (b : RelO o r) : ∃ r, PySem.W.nsIn K d k = some r ∧ RelO o r := ⟨r, a, b⟩
theorem nspx_mk {P : Program} {K : PySem.W.Frag} {C fI cc cd : Addr} (N : NspK P K C fI cc cd) : ∃ C fI cc cd, NspK P K C fI cc cd := ⟨C, fI, cc, cd, N⟩
end Fst

/-! The end. -/
open PySem PySem.W PyProof.Rows
set_option maxHeartbeats 0 in
theorem PySem.Challenge.cw_everyturn_k11_first_states_holds : PySem.Challenge.rw_everyturn_k11_first_states.Holds := by
  w_on; o_law; k_head; (case hw => w_witness2)
  k_fill
  refine L2.walk_of (l := PySem.Challenge.rw_everyturn_k11_first_states) (n := 63) (k := 7) (x := "_law_script") (CX := fun _ => L2.CX0) (sp := fun w => Fst.spLaw _) rfl (by decide) rfl ⟨rfl, by decide, by decide⟩ (fun w h Y => PySem.W.kIn_of Y) ?F (fun _ _ a ns hl _ hS => ⟨a, ns, rfl, hS, fun _ => rfl⟩) (fun _ _ _ _ _ h => h)
  case F =>
    intro w mg fa h KX G hmg
    refine Fst.all_mk KX G hmg ?_
    refine' { law := ?q_law, d_law_draw := ?q_d_law_draw, d_law_cell := ?q_d_law_cell, d_law_digits := ?q_d_law_digits, d_law_same := ?q_d_law_same, d_law_tree := ?q_d_law_tree, d_law_name := ?q_d_law_name, d_law_of_kind := ?q_d_law_of_kind, d_law_shared := ?q_d_law_shared, d_law_instruction := ?q_d_law_instruction, d_law_thread := ?q_d_law_thread, d_law_program := ?q_d_law_program, d_names_of := ?q_d_names_of, d_law_names_of := ?q_d_law_names_of, d_kind_of := ?q_d_kind_of, d_lock_of := ?q_d_lock_of, d_first_state := ?q_d_first_state, d_law_first := ?q_d_law_first, d_expression_of := ?q_d_expression_of, d_thing_of := ?q_d_thing_of, d_law_tree_of := ?q_d_law_tree_of, d_law_thing := ?q_d_law_thing, k_len := ?q_k_len, k_int := ?q_k_int, k_tuple := ?q_k_tuple, k_range := ?q_k_range, k_str := ?q_k_str, k_isinstance := ?q_k_isinstance, k_list := ?q_k_list, k_bool := ?q_k_bool, run := ?q_run, tree := ?q_tree, thing := ?q_thing, nsp := ?q_nsp }
    (case q_law => refine' Fst.defat_mk ?a ?l ?c ?k; (case a => k_is); (case l => k_is); (case c => k_is); (case k => k_is))
    (case q_d_law_draw => refine' Fst.defat_mk ?a ?l ?c ?k; (case a => k_is); (case l => k_is); (case c => k_is); (case k => k_is))
    (case q_d_law_cell => refine' Fst.defat_mk ?a ?l ?c ?k; (case a => k_is); (case l => k_is); (case c => k_is); (case k => k_is))
    (case q_d_law_digits => refine' Fst.defat_mk ?a ?l ?c ?k; (case a => k_is); (case l => k_is); (case c => k_is); (case k => k_is))
    (case q_d_law_same => refine' Fst.defat_mk ?a ?l ?c ?k; (case a => k_is); (case l => k_is); (case c => k_is); (case k => k_is))
    (case q_d_law_tree => refine' Fst.defat_mk ?a ?l ?c ?k; (case a => k_is); (case l => k_is); (case c => k_is); (case k => k_is))
    (case q_d_law_name => refine' Fst.defat_mk ?a ?l ?c ?k; (case a => k_is); (case l => k_is); (case c => k_is); (case k => k_is))
    (case q_d_law_of_kind => refine' Fst.defat_mk ?a ?l ?c ?k; (case a => k_is); (case l => k_is); (case c => k_is); (case k => k_is))
    (case q_d_law_shared => refine' Fst.defat_mk ?a ?l ?c ?k; (case a => k_is); (case l => k_is); (case c => k_is); (case k => k_is))
    (case q_d_law_instruction => refine' Fst.defat_mk ?a ?l ?c ?k; (case a => k_is); (case l => k_is); (case c => k_is); (case k => k_is))
    (case q_d_law_thread => refine' Fst.defat_mk ?a ?l ?c ?k; (case a => k_is); (case l => k_is); (case c => k_is); (case k => k_is))
    (case q_d_law_program => refine' Fst.defat_mk ?a ?l ?c ?k; (case a => k_is); (case l => k_is); (case c => k_is); (case k => k_is))
    (case q_d_names_of => refine' Fst.defat_mk ?a ?l ?c ?k; (case a => k_is); (case l => k_is); (case c => k_is); (case k => k_is))
    (case q_d_law_names_of => refine' Fst.defat_mk ?a ?l ?c ?k; (case a => k_is); (case l => k_is); (case c => k_is); (case k => k_is))
    (case q_d_kind_of => refine' Fst.defat_mk ?a ?l ?c ?k; (case a => k_is); (case l => k_is); (case c => k_is); (case k => k_is))
    (case q_d_lock_of => refine' Fst.defat_mk ?a ?l ?c ?k; (case a => k_is); (case l => k_is); (case c => k_is); (case k => k_is))
    (case q_d_first_state => refine' Fst.defat_mk ?a ?l ?c ?k; (case a => k_is); (case l => k_is); (case c => k_is); (case k => k_is))
    (case q_d_law_first => refine' Fst.defat_mk ?a ?l ?c ?k; (case a => k_is); (case l => k_is); (case c => k_is); (case k => k_is))
    (case q_d_expression_of => refine' Fst.defat_mk ?a ?l ?c ?k; (case a => k_is); (case l => k_is); (case c => k_is); (case k => k_is))
    (case q_d_thing_of => refine' Fst.defat_mk ?a ?l ?c ?k; (case a => k_is); (case l => k_is); (case c => k_is); (case k => k_is))
    (case q_d_law_tree_of => refine' Fst.defat_mk ?a ?l ?c ?k; (case a => k_is); (case l => k_is); (case c => k_is); (case k => k_is))
    (case q_d_law_thing => refine' Fst.defat_mk ?a ?l ?c ?k; (case a => k_is); (case l => k_is); (case c => k_is); (case k => k_is))
    (case q_k_len => k_is)
    (case q_k_int => k_is)
    (case q_k_tuple => k_is)
    (case q_k_range => k_is)
    (case q_k_str => k_is)
    (case q_k_isinstance => k_is)
    (case q_k_list => k_is)
    (case q_k_bool => k_is)
    (case q_run => refine' Fst.run_mk ?a; (case a => k_is))
    case q_tree =>
      refine' Fst.tabk_mk ?a ?l ?k ?o ?m
      (case a => k_is); (case l => k_is); (case k => k_keys); (case o => decide)
      case m =>
        intro k hk
        simp only [Fst.kinds, List.mem_cons, List.not_mem_nil, or_false] at hk
        rcases hk with rfl | rfl | rfl | rfl | rfl | rfl | rfl | rfl | rfl | rfl | rfl | rfl | rfl | rfl | rfl | rfl
        · refine' Fst.rel_mk ?a ?b
          (case a => k_is); (case b => exact Fst.tab_some (i := 2) (by decide +kernel) rfl)
        · refine' Fst.rel_mk ?a ?b
          (case a => k_is); (case b => exact Fst.tab_some (i := 2) (by decide +kernel) rfl)
        · refine' Fst.rel_mk ?a ?b
          (case a => k_is); (case b => exact Fst.tab_some (i := 2) (by decide +kernel) rfl)
        · refine' Fst.rel_mk ?a ?b
          (case a => k_is); (case b => exact Fst.tab_some (i := 2) (by decide +kernel) rfl)
        · refine' Fst.rel_mk ?a ?b
          (case a => k_is); (case b => exact Fst.tab_some (i := 2) (by decide +kernel) rfl)
        · refine' Fst.rel_mk ?a ?b
          (case a => k_is); (case b => exact Fst.tab_some (i := 1) (by decide +kernel) rfl)
        · refine' Fst.rel_mk ?a ?b
          (case a => k_is); (case b => exact Fst.tab_none (by decide +kernel) rfl)
        · refine' Fst.rel_mk ?a ?b
          (case a => k_is); (case b => exact Fst.tab_none (by decide +kernel) rfl)
        · refine' Fst.rel_mk ?a ?b
          (case a => k_is); (case b => exact Fst.tab_none (by decide +kernel) rfl)
        · refine' Fst.rel_mk ?a ?b
          (case a => k_is); (case b => exact Fst.tab_none (by decide +kernel) rfl)
        · refine' Fst.rel_mk ?a ?b
          (case a => k_is); (case b => exact Fst.tab_none (by decide +kernel) rfl)
        · refine' Fst.rel_mk ?a ?b
          (case a => k_is); (case b => exact Fst.tab_none (by decide +kernel) rfl)
        · refine' Fst.rel_mk ?a ?b
          (case a => k_is); (case b => exact Fst.tab_none (by decide +kernel) rfl)
        · refine' Fst.rel_mk ?a ?b
          (case a => k_is); (case b => exact Fst.tab_none (by decide +kernel) rfl)
        · refine' Fst.rel_mk ?a ?b
          (case a => k_is); (case b => exact Fst.tab_none (by decide +kernel) rfl)
        · refine' Fst.rel_mk ?a ?b
          (case a => k_is); (case b => exact Fst.tab_none (by decide +kernel) rfl)
    case q_thing =>
      refine' Fst.tabk_mk ?a ?l ?k ?o ?m
      (case a => k_is); (case l => k_is); (case k => k_keys); (case o => decide)
      case m =>
        intro k hk
        simp only [Fst.kinds, List.mem_cons, List.not_mem_nil, or_false] at hk
        rcases hk with rfl | rfl | rfl | rfl | rfl | rfl | rfl | rfl | rfl | rfl | rfl | rfl | rfl | rfl | rfl | rfl
        · refine' Fst.rel_mk ?a ?b
          (case a => k_is); (case b => exact Fst.tab_none (by decide +kernel) rfl)
        · refine' Fst.rel_mk ?a ?b
          (case a => k_is); (case b => exact Fst.tab_none (by decide +kernel) rfl)
        · refine' Fst.rel_mk ?a ?b
          (case a => k_is); (case b => exact Fst.tab_some (i := 1) (by decide +kernel) rfl)
        · refine' Fst.rel_mk ?a ?b
          (case a => k_is); (case b => exact Fst.tab_some (i := 1) (by decide +kernel) rfl)
        · refine' Fst.rel_mk ?a ?b
          (case a => k_is); (case b => exact Fst.tab_some (i := 1) (by decide +kernel) rfl)
        · refine' Fst.rel_mk ?a ?b
          (case a => k_is); (case b => exact Fst.tab_none (by decide +kernel) rfl)
        · refine' Fst.rel_mk ?a ?b
          (case a => k_is); (case b => exact Fst.tab_some (i := 2) (by decide +kernel) rfl)
        · refine' Fst.rel_mk ?a ?b
          (case a => k_is); (case b => exact Fst.tab_some (i := 2) (by decide +kernel) rfl)
        · refine' Fst.rel_mk ?a ?b
          (case a => k_is); (case b => exact Fst.tab_some (i := 1) (by decide +kernel) rfl)
        · refine' Fst.rel_mk ?a ?b
          (case a => k_is); (case b => exact Fst.tab_some (i := 1) (by decide +kernel) rfl)
        · refine' Fst.rel_mk ?a ?b
          (case a => k_is); (case b => exact Fst.tab_some (i := 1) (by decide +kernel) rfl)
        · refine' Fst.rel_mk ?a ?b
          (case a => k_is); (case b => exact Fst.tab_some (i := 1) (by decide +kernel) rfl)
        · refine' Fst.rel_mk ?a ?b
          (case a => k_is); (case b => exact Fst.tab_some (i := 1) (by decide +kernel) rfl)
        · refine' Fst.rel_mk ?a ?b
          (case a => k_is); (case b => exact Fst.tab_none (by decide +kernel) rfl)
        · refine' Fst.rel_mk ?a ?b
          (case a => k_is); (case b => exact Fst.tab_none (by decide +kernel) rfl)
        · refine' Fst.rel_mk ?a ?b
          (case a => k_is); (case b => exact Fst.tab_none (by decide +kernel) rfl)
    case q_nsp =>
      refine' Fst.nspx_mk ?z_N
      case z_N =>
        refine' Fst.nsp_mk ?z_gK ?z_supK ?z_xL ?z_sa ?z_ga ?z_gg ?z_noN ?z_iC ?z_tC ?z_kC ?z_exC ?z_veC ?z_tyC ?z_hdC ?z_icC ?z_sC ?z_lI ?z_cI ?z_lc ?z_hvs ?z_hfile ?z_lcc ?z_mro ?z_top ?z_opq ?z_ini
        (case z_gK => k_is); (case z_supK => k_is); (case z_xL => k_is); (case z_sa => k_is); (case z_ga => k_is); (case z_gg => k_is); (case z_noN => k_is); (case z_iC => k_is); (case z_tC => k_is)
        (case z_kC => k_is); (case z_exC => k_is); (case z_veC => k_is); (case z_tyC => k_is); (case z_hdC => k_is); (case z_icC => k_is); (case z_sC => first | rfl | k_is)
        (case z_lI => k_is); (case z_cI => k_is); (case z_lc => k_is); (case z_hvs => rfl); (case z_hfile => decide +kernel); (case z_lcc => k_is); (case z_mro => first | k_is | rfl); (case z_top => decide +kernel); (case z_opq => k_is); (case z_ini => ks_is)
#print axioms PySem.Challenge.cw_everyturn_k11_first_states_holds
