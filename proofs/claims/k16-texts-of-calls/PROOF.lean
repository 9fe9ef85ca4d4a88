import PyProof.Rows.All
import Wide.All
import OpenK.AllK
import Wide.FinOn
import HandS.ForMost
import HandS.Exc
import HandS.TryOnly
import HandS.ExcOwn
import HandS.WordsExc
import HandS.ExcIs
import HandS.IsInst
import HandS.More
import HandS.Walk
import PySem.Challenge.RW_finesse_k16_texts_of_calls
set_option Elab.async false
set_option linter.all false
set_option maxRecDepth 100000
set_option maxHeartbeats 8000000
/-! K16, part A: the text by places, heaps, the law's numbers, pool and pick. -/
namespace K16
open PySem L2
def top (i : Nat) : Stmt := PySem.Challenge.pw_finesse_k16_texts_of_calls.main.body.getD i (.Pass ⟨0, 0, 0, 0⟩)
abbrev sCallText : Stmt := top 9
abbrev sRead : Stmt := top 10
abbrev sNumbers : Stmt := top 12
abbrev sPool : Stmt := top 13
abbrev sPick : Stmt := top 14
abbrev sText : Stmt := top 15
abbrev sLawText : Stmt := top 16
abbrev sTold : Stmt := top 17
abbrev sMeant : Stmt := top 18
abbrev sLaw : Stmt := top 19

/-! ### heaps -/
theorem same_new {H : Hp} {p : Addr} {o : HO} (h : H p = none) : Same H (upd H p o) := fun b o' e => by
  rw [upd_ne (ne_of_none e h)]
  exact e
theorem same_tup {K : PySem.W.Frag} {H H' : Hp} {a : Addr} {xs : List V} (e : Same H H') (h : SqT K H a xs) : SqT K H' a xs := by
  rcases h with (h | ⟨o, h⟩) | h
  · exact .inl (.inl (e _ _ h))
  · exact .inl (.inr ⟨o, e _ _ h⟩)
  · exact .inr h
/-- the pool: two places, its list of numbers at q, the number of picks so far -/
def PoolAt (H : Hp) (p q : Addr) (ms : List Int) (n : Int) : Prop :=
  H p = some (.lst [.ref q, .int n]) ∧ H q = some (.lst (ms.map V.int)) ∧ ms ≠ [] ∧ ms.length ≤ 241
theorem PoolAt.same {H H' : Hp} {p q : Addr} {ms : List Int} {n : Int} (e : Same H H') (h : PoolAt H p q ms n) : PoolAt H' p q ms n :=
  ⟨e _ _ h.1, e _ _ h.2.1, h.2.2.1, h.2.2.2⟩
theorem PoolAt.ne {H : Hp} {p q : Addr} {ms : List Int} {n : Int} (h : PoolAt H p q ms n) : p ≠ q := ne_of h.1 h.2.1 (fun z => by
  injection z with z
  cases ms with
  | nil => cases z
  | cons m r =>
    have z2 := (List.cons.inj z).1
    cases z2)
/-- one more pick -/
def poolNext (H : Hp) (p q : Addr) (n : Int) : Hp := upd H p (.lst [.ref q, .int (n + 1)])
theorem PoolAt.next {H : Hp} {p q : Addr} {ms : List Int} {n : Int} (h : PoolAt H p q ms n) : PoolAt (poolNext H p q n) p q ms (n + 1) :=
  ⟨upd_same, (upd_ne h.ne.symm).trans h.2.1, h.2.2⟩

/-! ### promises -/
def spNumbers (K : PySem.W.Frag) : Sp := fun vs H Q _ => ∃ (a : Addr) (ns : List Int), vs = [.ref a, .int 0, .int 240] ∧ SqL K H a (ns.map V.int) ∧ ns.length ≤ 63 ∧
  ∀ (H' : Hp) (p : Addr) (out : List Int), Same H H' → H p = none → H' p = some (.lst (out.map V.int)) → out.length ≤ 240 → Q (.ref p) H'
def spPool (K : PySem.W.Frag) : Sp := fun vs H Q _ => ∃ (a : Addr) (ns : List Int), vs = [.ref a] ∧ SqL K H a (ns.map V.int) ∧ ns.length ≤ 63 ∧
  ∀ (H' : Hp) (p q : Addr) (ms : List Int), Same H H' → H p = none → H q = none → PoolAt H' p q ms 0 → Q (.ref p) H'
def spPick : Sp := fun vs H Q _ => ∃ (p q : Addr) (ms : List Int) (n m : Int), vs = [.ref p, .int m] ∧ PoolAt H p q ms n ∧ 0 ≤ n ∧ n < 1000 ∧ 0 < m ∧
  ∀ k : Int, 0 ≤ k → k < m → Q (.int k) (poolNext H p q n)

structure TxtA (mg : Str → Option Value) : Prop where
  range : mg "range" = none
  len : mg "len" = none
  abs : mg "abs" = none
  int : mg "int" = none
  str : mg "str" = none
  min : mg "min" = none
  isi : mg "isinstance" = none
section
variable {P : Program} {w : World} {K : PySem.W.Frag} {mg : Str → Option Value} {base : Heap}
/-! ### pick -/
theorem scPick : FnScope ["_law_pool_here", "_law_many", "_law_at", "_law_turn"] ["_law_pool_here", "_law_many"] (defScope sPick) := ⟨rfl, rfl, rfl, by decide +kernel, rfl, by decide +kernel, by decide +kernel⟩
theorem mod_ok {i m : Int} (h : 0 < m) : 0 ≤ i % m ∧ i % m < m := ⟨Int.emod_nonneg _ (Int.ne_of_gt h), Int.emod_lt_of_pos _ h⟩
theorem at_mod {ms : List Int} (h : ms ≠ []) (i : Int) : ∃ z : Int, atI (ms.map V.int) (i % ((ms.length : Nat) : Int)) = some (.int z) := by
  have hl : 0 < ms.length := List.length_pos_iff.mpr h
  have h1 := mod_ok (i := i) (m := ((ms.length : Nat) : Int)) (by omega)
  have h2 : (i % ((ms.length : Nat) : Int)).toNat < ms.length := by omega
  refine ⟨ms[(i % ((ms.length : Nat) : Int)).toNat], ?_⟩
  exact at_of (j := (i % ((ms.length : Nat) : Int)).toNat) (by omega) (by simp [h2])
theorem ok_pick {f : Addr} {fd : FuncData} (F : Fun K "_law_pick" "_law_pick" sPick f fd) (T : TxtA mg) : FnOk P w K mg base CX0 1 f fd ["_law_pool_here", "_law_many"] spPick := by
  refine F.ok scPick (fun vs H Q E h => ?_) (fun cdv A outer s H vs Q E hr h => ?_)
  · obtain ⟨p, q, ms, n, m, rfl, _⟩ := h
    rfl
  · obtain ⟨p, q, ms, n, m, rfl, hp, h0, h1, hm, k⟩ := h
    refine ⟨_, pss_cons (ps_set (i := 2) scPick.nd rfl (Or.inl rfl) (pe_ix ix_list (pv 0) pe_int (fun _ _ => rfl)))
      (pss_cons (ps_asg (pe_op op_add (pv 2) pe_int) (pg_sub (pv 0) pe_int set_list))
      (pss_cons (ps_set (i := 3) scPick.nd rfl (Or.inl rfl) (pe_op op_fdiv (pv 2) (pe_callB call_len_seq (by rfl) T.len PySem.boot_len (pa_cons (pe_ix ix_list (pv 0) pe_int (fun _ _ => rfl)) pa_nil))))
      (pss_one (ps_ret (pe_op op_mod (pe_callTy call_int1 (by rfl) T.int (by decide +kernel) (pa_cons
        (pe_op op_add (pe_op op_add (pe_ix ix_list (pe_ix ix_list (pv 0) pe_int (fun _ _ => rfl)) (pe_op op_mod (pe_callTy call_int1 (by rfl) T.int (by decide +kernel) (pa_cons (pv 2) pa_nil)) (pe_callB call_len_seq (by rfl) T.len PySem.boot_len (pa_cons (pe_ix ix_list (pv 0) pe_int (fun _ _ => rfl)) pa_nil))) (fun _ _ => rfl))
          (pe_op op_mul (pv 3) pe_int)) (pe_op op_mul (pv 3) (pv 2))) pa_nil)) (pv 1)))))), ?_⟩
    have hl : 0 < ms.length := List.length_pos_iff.mpr hp.2.2.1
    have hl2 := hp.2.2.2
    -- at = pool[1]
    refine ⟨_, rfl, p, _, _, _, rfl, rfl, SqL.of hp.1, rfl, ?_⟩
    -- pool[1] = at + 1
    refine ⟨_, rfl, _, _, rfl, rfl, _, rfl, p, _, _, 1, rfl, rfl, hp.1, rfl, ?_⟩
    have hp' := hp.next
    -- turn = at // len(pool[0])
    refine ⟨_, rfl, _, rfl, p, _, _, _, rfl, rfl, SqL.of hp'.1, rfl, q, _, rfl, .inl (SqL.of hp'.2.1), _, _, rfl, rfl, ⟨by simp only [List.length_map]; omega, by simp only [List.length_map]; omega⟩, ?_⟩
    -- the return
    obtain ⟨z, hz⟩ := at_mod hp.2.2.1 n
    refine ⟨_, rfl, p, _, _, _, rfl, rfl, SqL.of hp'.1, rfl, _, rfl, .inl ⟨_, rfl, ?_⟩⟩
    refine ⟨_, rfl, p, _, _, _, rfl, rfl, SqL.of hp'.1, rfl, q, _, rfl, .inl (SqL.of hp'.2.1), _, _, rfl, rfl, (by simp only [List.length_map]; omega), ?_⟩
    refine ⟨q, _, _, _, rfl, rfl, SqL.of hp'.2.1, (by rw [List.length_map]; exact hz), ?_⟩
    have d0 : 0 ≤ n / (((ms.map V.int).length : Nat) : Int) := Int.ediv_nonneg h0 (by omega)
    have d1 : n / (((ms.map V.int).length : Nat) : Int) ≤ n := Int.ediv_le_self _ h0
    refine ⟨_, rfl, _, _, rfl, rfl, .inl ⟨by omega, by omega⟩, _, _, rfl, rfl, _, rfl, _, rfl, _, _, rfl, rfl, .inl ⟨by omega, by omega⟩, _, _, rfl, rfl, .inl ⟨_, rfl, ?_⟩⟩
    refine ⟨_, rfl, _, _, rfl, rfl, hm, ?_⟩
    exact k _ (mod_ok hm).1 (mod_ok hm).2
/-! ### numbers -/
theorem scNumbers : FnScope ["_law_script", "_law_first", "_law_most", "_law_found", "_law_at", "_law_cell", "_law_k", "_law_mixed"] ["_law_script", "_law_first", "_law_most"] (defScope sNumbers) := ⟨rfl, rfl, rfl, by decide +kernel, rfl, by decide +kernel, by decide +kernel⟩
/-- found's list at p holds out; all that stood in H stands -/
structure NumAt (H H' : Hp) (p : Addr) (out : List Int) : Prop where
  same : Same H H'
  at_ : H' p = some (.lst (out.map V.int))
  len : out.length ≤ 240
theorem NumAt.more {H H' : Hp} {p : Addr} {out : List Int} (h : NumAt H H' p out) (hp : H p = none) (hl : out.length < 240) (z : Int) : NumAt H (upd H' p (.lst (out.map V.int ++ [.int z]))) p (out ++ [z]) := by
  refine ⟨fun b o e => ?_, by rw [upd_same, List.map_append]; rfl, by rw [List.length_append]; show out.length + 1 ≤ 240; omega⟩
  rw [upd_ne (ne_of_none e hp)]
  exact h.same _ _ e
theorem abs_nonneg (z : Int) : 0 ≤ (if z < 0 then -z else z) := by split <;> omega
theorem item_int {ns : List Int} {i : Nat} (hi : i < ns.length) : (ns.map V.int)[i]? = some (.int ns[i]) := by simp [hi]
theorem ok_numbers {f : Addr} {fd : FuncData} (F : Fun K "_law_numbers" "_law_numbers" sNumbers f fd) (T : TxtA mg) : FnOk P w K mg base CX0 1 f fd ["_law_script", "_law_first", "_law_most"] (spNumbers K) := by
  refine F.ok scNumbers (fun vs H Q E h => ?_) (fun cdv A outer s H vs Q E hr h => ?_)
  · obtain ⟨a, ns, rfl, _⟩ := h
    rfl
  · obtain ⟨a, ns, rfl, hS, hlen, k⟩ := h
    refine ⟨_, pss_cons (ps_set (i := 3) scNumbers.nd rfl (Or.inl rfl) (pe_lst pa_nil))
      (pss_cons (ps_for PassesOwn.never rfl (pi_range2 (by rfl) T.range (pa_cons (pv 1) (pa_cons (pe_callB call_len_seq (by rfl) T.len PySem.boot_len (pa_cons (pv 0) pa_nil)) pa_nil))) (pg_name (i := 4) scNumbers.nd rfl (Or.inl rfl))
        (pss_cons (ps_set (i := 5) scNumbers.nd rfl (Or.inl rfl) (pe_callB call_abs (by rfl) T.abs (by decide +kernel) (pa_cons (pe_ix ix_list (pv 0) (pv 4) (fun _ _ => rfl)) pa_nil)))
        (pss_one (ps_if (pt_cmpR op_ge (pv 5) pe_int (nomark _))
          (pss_one (ps_for PassesOwn.never rfl (pi_range1 (by rfl) T.range (pa_cons pe_int pa_nil)) (pg_name (i := 6) scNumbers.nd rfl (Or.inl rfl))
            (pss_one (ps_if (PW.pt (pw_and (pt_cmpR op_gt (pv 5) pe_int (nomark _)) (pw_and1 (pt_cmpR op_lt (pe_callB call_len_seq (by rfl) T.len PySem.boot_len (pa_cons (pv 3) pa_nil)) (pv 2) (nomark _)))))
              (pss_cons (ps_expr (pe_bm PySem.F.plainAttrs_list PySem.F.slot_list_append PySem.F.type_list_append mt_append (pv 3) (pa_cons (pe_op op_mod (pe_callTy call_int1 (by rfl) T.int (by decide +kernel) (pa_cons (pv 5) pa_nil)) pe_int) pa_nil)))
                (pss_one (ps_set (i := 5) scNumbers.nd rfl (Or.inl rfl) (pe_op op_fdiv (pv 5) pe_int))))
              pss_nil))))
          (pss_one (ps_if (pt_cmpR op_lt (pe_callB call_len_seq (by rfl) T.len PySem.boot_len (pa_cons (pv 3) pa_nil)) (pv 2) (nomark _))
            (pss_cons (ps_set (i := 7) scNumbers.nd rfl (Or.inl rfl) (pe_op op_mod (pe_callTy call_int1 (by rfl) T.int (by decide +kernel) (pa_cons (pe_op op_add (pe_op op_add (pe_op op_mul (pv 5) pe_int) (pe_op op_mul (pv 4) pe_int)) pe_int) pa_nil)) pe_int))
            (pss_cons (ps_set (i := 7) scNumbers.nd rfl (Or.inl rfl) (pe_op op_mod (pe_callTy call_int1 (by rfl) T.int (by decide +kernel) (pa_cons (pe_op op_add (pe_op op_mul (pv 7) pe_int) (pe_op op_fdiv (pv 7) pe_int)) pa_nil)) pe_int))
            (pss_one (ps_expr (pe_bm PySem.F.plainAttrs_list PySem.F.slot_list_append PySem.F.type_list_append mt_append (pv 3) (pa_cons (pe_op op_mod (pe_callTy call_int1 (by rfl) T.int (by decide +kernel) (pa_cons (pv 7) pa_nil)) pe_int) pa_nil))))))
            pss_nil))))))
      (pss_one (ps_ret (pv 3)))), ?_⟩
    refine ⟨Nat.zero_le _, fun p hp => ?_⟩
    have N0 : NumAt H (upd H p (.lst [])) p [] := ⟨same_new hp, upd_same, Nat.zero_le _⟩
    refine ⟨_, rfl, _, rfl, a, _, rfl, .inl (N0.same.seq hS), ?_⟩
    refine ⟨0, _, rfl, ⟨by decide, by decide, by omega, by simp only [List.length_map]; omega⟩, ?_⟩
    have en : (((ns.map V.int).length : Nat) : Int) - 0 = ((ns.length : Nat) : Int) := by simp
    rw [en, Int.toNat_natCast]
    refine for_range (lo := 0) (n := ns.length) (fun _ σ H' => ∃ (out : List Int) (v4 v5 v6 v7 : Option V), σ = [some (.ref a), some (.int 0), some (.int 240), some (.ref p), v4, v5, v6, v7] ∧ NumAt H H' p out)
      ⟨[], none, none, none, none, rfl, N0⟩ ?_ ?_
    · rintro i σ H' hi ⟨out, v4, v5, v6, v7, rfl, N⟩
      have ia : atI (ns.map V.int) (0 + ((i : Nat) : Int)) = some (.int ns[i]) := at_of (j := i) (by omega) (item_int hi)
      refine ⟨_, rfl, _, rfl, a, _, _, _, rfl, rfl, N.same.seq hS, ia, _, rfl, ?_⟩
      have hc := abs_nonneg ns[i]
      generalize (if ns[i] < 0 then -ns[i] else ns[i]) = c at hc ⊢
      refine ⟨_, rfl, _, _, rfl, rfl, _, rfl, ite2 (fun h1 => ?_) (fun h1 => ?_)⟩
      · -- a huge cell
        refine ⟨60, rfl, by decide, by decide, for_range (lo := 0) (n := 60) (fun _ σ H' => ∃ (out : List Int) (c : Int) (v6 : Option V), σ = [some (.ref a), some (.int 0), some (.int 240), some (.ref p), some (.int (0 + ((i : Nat) : Int))), some (.int c), v6, v7] ∧ NumAt H H' p out)
          ⟨out, c, _, rfl, N⟩ ?_ ?_⟩
        · rintro j σ H2 hj ⟨out, c, v6, rfl, N⟩
          refine ⟨_, rfl, _, _, rfl, rfl, _, rfl, ite2 (fun h2 => ?_) (fun h2 => ?_)⟩
          · refine ⟨_, rfl, p, _, rfl, .inl (SqL.of N.at_), _, rfl, _, _, rfl, rfl, _, rfl, ite2 (fun h3 => ?_) (fun h3 => ?_)⟩
            · have h3' : out.length < 240 := by
                have := of_decide_eq_true h3
                simp only [List.length_map] at this
                omega
              refine ⟨_, rfl, .inl ⟨rfl, _, SqL.of N.at_⟩, _, rfl, .inl ⟨_, rfl, ?_⟩⟩
              refine ⟨_, _, rfl, rfl, (by show (0 : Int) < 4096; decide), p, _, _, rfl, rfl, N.at_, small1000 (by simp only [List.length_map]; omega), ?_⟩
              refine ⟨_, rfl, _, _, rfl, rfl, ⟨by decide, by decide⟩, ?_⟩
              exact ⟨_, _, _, rfl, N.more hp h3' _⟩
            · exact ⟨_, _, _, rfl, N⟩
          · exact ⟨_, _, _, rfl, N⟩
        · rintro σ H2 ⟨out, c, v6, rfl, N⟩
          exact ⟨_, _, _, _, _, rfl, N⟩
      · have h1' : c < 1000000000000000000 := by
          have : ¬ (1000000000000000000 ≤ c) := fun z => h1 (decide_eq_true z)
          omega
        refine ⟨_, rfl, p, _, rfl, .inl (SqL.of N.at_), _, rfl, _, _, rfl, rfl, _, rfl, ite2 (fun h3 => ?_) (fun h3 => ?_)⟩
        · have h3' : out.length < 240 := by
            have := of_decide_eq_true h3
            simp only [List.length_map] at this
            omega
          -- mixed, once
          refine ⟨_, rfl, _, _, rfl, rfl, .inl ⟨by omega, by omega⟩, _, rfl, _, _, rfl, rfl, .inl ⟨by omega, by omega⟩, _, _, rfl, rfl, _, _, rfl, rfl, .inl ⟨_, rfl, ?_⟩⟩
          refine ⟨_, _, rfl, rfl, (by show (0 : Int) < 2147483647; decide), ?_⟩
          have m1 := mod_ok (i := c * 48271 + (0 + ((i : Nat) : Int)) * 69621 + 12345) (m := 2147483647) (by decide)
          generalize (c * 48271 + (0 + ((i : Nat) : Int)) * 69621 + 12345) % 2147483647 = m at m1 ⊢
          -- mixed, twice
          refine ⟨_, rfl, _, _, rfl, rfl, .inl ⟨by omega, by omega⟩, _, rfl, _, _, rfl, rfl, ⟨by decide, by decide⟩, _, _, rfl, rfl, .inl ⟨_, rfl, ?_⟩⟩
          refine ⟨_, _, rfl, rfl, (by show (0 : Int) < 1000003; decide), ?_⟩
          -- append
          refine ⟨_, rfl, .inl ⟨rfl, _, SqL.of N.at_⟩, _, rfl, .inl ⟨_, rfl, ?_⟩⟩
          refine ⟨_, _, rfl, rfl, (by show (0 : Int) < 4096; decide), p, _, _, rfl, rfl, N.at_, small1000 (by simp only [List.length_map]; omega), ?_⟩
          exact ⟨_, _, _, _, _, rfl, N.more hp h3' _⟩
        · exact ⟨_, _, _, _, _, rfl, N⟩
    · rintro σ H' ⟨out, v4, v5, v6, v7, rfl, N⟩
      exact ⟨_, rfl, k _ p out N.same hp N.at_ N.len⟩
/-! ### pool -/
theorem scPool : FnScope ["_law_script"] ["_law_script"] (defScope sPool) := ⟨rfl, rfl, rfl, by decide +kernel, rfl, by decide +kernel, by decide +kernel⟩
theorem ok_pool {f fN : Addr} {fd fdN : FuncData} (F : Fun K "_law_pool" "_law_pool" sPool f fd) (T : TxtA mg) (GN : FnOk P w K mg base CX0 1 fN fdN ["_law_script", "_law_first", "_law_most"] (spNumbers K)) (bN : Binds K fdN ["_law_script", "_law_first", "_law_most"] []) (mN : mg "_law_numbers" = some (.ref fN)) (kN : PySem.W.keepIn K (.ref fN) = true) :
    FnOk P w K mg base CX0 2 f fd ["_law_script"] (spPool K) := by
  refine F.ok scPool (fun vs H Q E h => ?_) (fun cdv A outer s H vs Q E hr h => ?_)
  · obtain ⟨a, ns, rfl, _⟩ := h
    rfl
  · obtain ⟨a, ns, rfl, hS, hlen, k⟩ := h
    refine ⟨_, pss_one (ps_ret (pe_lst (pa_cons (pe_op op_cat (pe_call GN hr (by rfl) mN kN bN .nil pass0 (pa_cons (pv 0) (pa_cons pe_int (pa_cons pe_int pa_nil)))) (pe_lst (pa_cons pe_int pa_nil))) (pa_cons pe_int pa_nil)))), ?_⟩
    refine ⟨_, rfl, a, ns, rfl, hS, hlen, fun H1 p out s1 hp h1 hl => ?_⟩
    refine ⟨by show 1 ≤ sizeLine; decide, fun q hq => ?_⟩
    have npq : p ≠ q := ne_of_none h1 hq
    refine ⟨p, q, _, _, rfl, rfl, (by rw [upd_ne npq]; exact h1), upd_same, ?_, fun r hr2 => ?_⟩
    · simp only [List.length_map, List.length_cons, List.length_nil]
      exact Nat.le_of_lt (small1000 (by omega))
    · refine ⟨by show 2 ≤ sizeLine; decide, fun t ht => ?_⟩
      have s2 : Same H1 (upd H1 q (.lst [.int 5])) := same_new hq
      have s3 := same_new (o := .lst (out.map V.int ++ [.int 5])) hr2
      have s4 := same_new (o := .lst [.ref r, .int 0]) ht
      have s14 : Same H1 _ := (s2.trans s3).trans s4
      refine k _ t r (out ++ [5]) (s1.trans s14) ((s1.trans (s2.trans s3)).free ht) ((s1.trans s2).free hr2) ⟨upd_same, ?_, by simp, by simp; omega⟩
      have hrt : r ≠ t := ne_of_none upd_same ht
      rw [upd_ne hrt, upd_same, List.map_append]
      rfl
end
end K16

/-! K16, part B: the plain law: calls, their texts, what a text means. No program in sight. -/
namespace K16
open PySem L2 TL
/-! ### a sign's place in a list of signs -/
def fnd : List Nat → Nat → Int
  | [], _ => -1
  | a :: r, c => if a = c then 0 else if fnd r c < 0 then -1 else fnd r c + 1
theorem fnd_spec : ∀ (l : List Nat) (c : Nat), (fnd l c = -1 ∧ ∀ i : Nat, l[i]? ≠ some c) ∨ ∃ i : Nat, fnd l c = (i : Int) ∧ l[i]? = some c ∧ ∀ k : Nat, k < i → l[k]? ≠ some c
  | [], c => .inl ⟨rfl, fun i => by simp⟩
  | a :: r, c => by
    by_cases h : a = c
    · refine .inr ⟨0, by simp [fnd, h], by simp [h], fun k hk => by omega⟩
    · rcases fnd_spec r c with ⟨e, n⟩ | ⟨i, e, h1, n⟩
      · refine .inl ⟨by simp [fnd, h, e], fun i => ?_⟩
        cases i with
        | zero => simpa using h
        | succ j => simpa using n j
      · refine .inr ⟨i + 1, ?_, by simpa using h1, fun k hk => ?_⟩
        · have : ¬ ((i : Int) < 0) := by omega
          simp [fnd, h, e, this]
        · cases k with
          | zero => simpa using h
          | succ j => simpa using n j (by omega)
theorem pre_one (L : List Nat) (c i : Nat) : pre [c] (L.drop i) = true ↔ L[i]? = some c := by
  show ((L.drop i).take 1 == [c]) = true ↔ _
  rw [List.take_one, List.head?_drop]
  cases h : L[i]? with
  | none => simp
  | some x => simp
/-- find of one sign -/
theorem find_one {x y : Str} {c : Nat} (hy : tl y = [c]) : Txt.find x y = fnd (tl x) c := by
  have at1 : ∀ i, StrLaws.At x y x.length i ↔ (tl x)[i]? = some c := fun i => by
    rw [at_iff (by rw [hy]; simp) i, hy]
    exact pre_one (tl x) c i
  rcases PyProof.Rows.find_whole x y with ⟨e, n⟩ | ⟨i, e, h1, n⟩
  · rcases fnd_spec (tl x) c with ⟨e', _⟩ | ⟨j, _, h2, _⟩
    · rw [e, e']
    · exact absurd ((at1 j).mpr h2) (n j)
  · rcases fnd_spec (tl x) c with ⟨_, n'⟩ | ⟨j, e', h2, n'⟩
    · exact absurd ((at1 i).mp h1) (n' i)
    · have : i = j := by
        rcases Nat.lt_trichotomy i j with h | h | h
        · exact absurd ((at1 i).mp h1) (n' i h)
        · exact h
        · exact absurd ((at1 j).mpr h2) (n j h)
      rw [e, e', this]
theorem fnd_app (l : List Nat) (c d : Nat) (h : c ≠ d) : fnd (l ++ [d]) c = fnd l c := by
  induction l with
  | nil => simp [fnd, Ne.symm h]
  | cons a r ih => simp only [List.cons_append, fnd, ih]

/-! ### calls -/
inductive Call where
  | pass | dbl | rdbl | bid (l s : Int)
def callV : Call → List V
  | .pass => [.str "pass"]
  | .dbl => [.str "double"]
  | .rdbl => [.str "redouble"]
  | .bid l s => [.str "bid", .int l, .int s]
def callD : Call → List PyData
  | .pass => [.str "pass"]
  | .dbl => [.str "double"]
  | .rdbl => [.str "redouble"]
  | .bid l s => [.str "bid", .int l, .int s]
def resD : Option Call → PyData
  | none => .list [.int 1]
  | some c => .tuple (callD c)
/-- the letters of the strains, for k suits -/
def pref (k : Int) : List Nat := [99, 100, 104, 115].take k.toNat
def lets (k : Int) : List Nat := pref k ++ [110]
def letter (k s : Int) : Nat := (lets k).getD s.toNat 0
def textOf (k : Int) : Call → Str
  | .pass => "P"
  | .dbl => "X"
  | .rdbl => "XX"
  | .bid l s => Str.ofString (toString l) ++ ⟨#[letter k s]⟩
structure OkK (k : Int) : Prop where
  lo : 1 ≤ k
  hi : k ≤ 4
def OkC (k : Int) : Call → Prop
  | .bid l s => 1 ≤ l ∧ l ≤ 99 ∧ 0 ≤ s ∧ s ≤ k
  | _ => True
theorem OkK.cases {k : Int} (h : OkK k) : k = 1 ∨ k = 2 ∨ k = 3 ∨ k = 4 := by have := h.lo; have := h.hi; omega
/-- two signs or fewer that are a level -/
def dig : List Nat → Option Int
  | [a] => if 49 ≤ a ∧ a ≤ 57 then some ((a : Int) - 48) else none
  | [a, b] => if (49 ≤ a ∧ a ≤ 57) ∧ (48 ≤ b ∧ b ≤ 57) then some (10 * ((a : Int) - 48) + ((b : Int) - 48)) else none
  | _ => none
/-- digits and the letter -/
def mean2 (k : Int) (l : List Nat) : Option Call :=
  match l.getLast? with
  | none => none
  | some c => if fnd (lets k) c < 0 then none else match dig l.dropLast with
    | none => none
    | some v => some (.bid v (fnd (lets k) c))
/-- THE MEANING of a text -/
def mean (k : Int) (t : Str) : Option Call :=
  if t = "P" then some .pass else if t = "X" then some .dbl else if t = "XX" then some .rdbl else mean2 k (tl t)
theorem mean2_nil (k : Int) : mean2 k [] = none := rfl
theorem mean2_app (k : Int) (l : List Nat) (c : Nat) : mean2 k (l ++ [c]) = if fnd (lets k) c < 0 then none else match dig l with
    | none => none
    | some v => some (.bid v (fnd (lets k) c)) := by
  unfold mean2
  rw [List.getLast?_concat, List.dropLast_concat]

/-! ### levels -/
theorem dig_num {n : Nat} (h1 : 1 ≤ n) (h2 : n ≤ 99) : dig (numL n) = some (n : Int) := by
  by_cases h : n < 10
  · rw [numL_lt h]
    show (if 49 ≤ 48 + n ∧ 48 + n ≤ 57 then some (((48 + n : Nat) : Int) - 48) else none) = some (n : Int)
    rw [if_pos ⟨by omega, by omega⟩]
    congr 1
    omega
  · rw [numL_step (by omega), numL_lt (n := n / 10) (by omega)]
    show (if (49 ≤ 48 + n / 10 ∧ 48 + n / 10 ≤ 57) ∧ (48 ≤ 48 + n % 10 ∧ 48 + n % 10 ≤ 57) then some (10 * (((48 + n / 10 : Nat) : Int) - 48) + (((48 + n % 10 : Nat) : Int) - 48)) else none) = some (n : Int)
    rw [if_pos ⟨⟨by omega, by omega⟩, ⟨by omega, by omega⟩⟩]
    congr 1
    omega
theorem dig_some {l : List Nat} {v : Int} (h : dig l = some v) : ∃ n : Nat, 1 ≤ n ∧ n ≤ 99 ∧ v = (n : Int) ∧ l = numL n := by
  match l, h with
  | [a], h =>
    have h' : (if 49 ≤ a ∧ a ≤ 57 then some ((a : Int) - 48) else none) = some v := h
    by_cases c : 49 ≤ a ∧ a ≤ 57
    · rw [if_pos c] at h'
      have e := Option.some.inj h'
      refine ⟨a - 48, by omega, by omega, by omega, ?_⟩
      rw [numL_lt (by omega)]
      congr 1
      omega
    · rw [if_neg c] at h'
      cases h'
  | [a, b], h =>
    have h' : (if (49 ≤ a ∧ a ≤ 57) ∧ (48 ≤ b ∧ b ≤ 57) then some (10 * ((a : Int) - 48) + ((b : Int) - 48)) else none) = some v := h
    by_cases c : (49 ≤ a ∧ a ≤ 57) ∧ (48 ≤ b ∧ b ≤ 57)
    · rw [if_pos c] at h'
      have e := Option.some.inj h'
      refine ⟨10 * (a - 48) + (b - 48), by omega, by omega, by omega, ?_⟩
      rw [numL_step (by omega), numL_lt (n := (10 * (a - 48) + (b - 48)) / 10) (by omega)]
      have e1 : 48 + (10 * (a - 48) + (b - 48)) / 10 = a := by omega
      have e2 : 48 + (10 * (a - 48) + (b - 48)) % 10 = b := by omega
      rw [e1, e2]
      rfl
    · rw [if_neg c] at h'
      cases h'
theorem tl_toString {n : Nat} : tl (Str.ofString (toString ((n : Nat) : Int))) = numL n := tl_num n
/-- the levels' texts, as the law lists them -/
def levels : List V := (List.range 99).map fun i : Nat => V.str (Str.ofString (toString ((1 : Int) + (i : Int))))
theorem levels_in (ds : Str) : inV (.str ds) levels = (dig (tl ds)).isSome := by
  cases h : dig (tl ds) with
  | some v =>
    obtain ⟨n, h1, h2, e, hl⟩ := dig_some h
    show inV (.str ds) levels = true
    unfold inV levels
    rw [List.any_eq_true]
    refine ⟨_, List.mem_map.mpr ⟨n - 1, List.mem_range.mpr (by omega), rfl⟩, ?_⟩
    show (Str.ofString (toString ((1 : Int) + ((n - 1 : Nat) : Int))) == ds) = true
    rw [beq_iff_eq]
    have e1 : (1 : Int) + ((n - 1 : Nat) : Int) = ((n : Nat) : Int) := by omega
    rw [e1]
    exact ext_tl (by rw [tl_toString, hl])
  | none =>
    show inV (.str ds) levels = false
    unfold inV levels
    rw [List.any_eq_false]
    intro y hy
    obtain ⟨i, hi, rfl⟩ := List.mem_map.mp hy
    have hi' := List.mem_range.mp hi
    show ¬ (Str.ofString (toString ((1 : Int) + (i : Int))) == ds) = true
    rw [beq_iff_eq]
    intro e
    have e1 : (1 : Int) + (i : Int) = ((i + 1 : Nat) : Int) := by omega
    rw [e1] at e
    rw [← e, tl_toString, dig_num (by omega) (by omega)] at h
    cases h
theorem levels_flat : levels.all flatV = true := by
  unfold levels
  rw [List.all_eq_true]
  intro y hy
  obtain ⟨i, _, rfl⟩ := List.mem_map.mp hy
  rfl
theorem int_dig {ds : Str} {v : Int} (h : dig (tl ds) = some v) : PySem.intText? ds = some v ∧ ds.length ≤ 640 := by
  obtain ⟨n, h1, h2, e, hl⟩ := dig_some h
  have ed : ds = Str.ofString (toString ((n : Nat) : Int)) := ext_tl (by rw [tl_toString, hl])
  have hn : (numL n).length ≤ 2 := numL_len (by decide) (by omega)
  refine ⟨by rw [ed, e]; exact int_num (by omega), by rw [len_tl, hl]; omega⟩

/-! ### the letters -/
theorem letter_at {k s : Int} (hk : OkK k) (h0 : 0 ≤ s) (h1 : s ≤ k) : atI (lets k) s = some (letter k s) ∧ fnd (lets k) (letter k s) = s := by
  rcases hk.cases with rfl | rfl | rfl | rfl
  · have : s = 0 ∨ s = 1 := by omega
    rcases this with rfl | rfl <;> decide
  · have : s = 0 ∨ s = 1 ∨ s = 2 := by omega
    rcases this with rfl | rfl | rfl <;> decide
  · have : s = 0 ∨ s = 1 ∨ s = 2 ∨ s = 3 := by omega
    rcases this with rfl | rfl | rfl | rfl <;> decide
  · have : s = 0 ∨ s = 1 ∨ s = 2 ∨ s = 3 ∨ s = 4 := by omega
    rcases this with rfl | rfl | rfl | rfl | rfl <;> decide
theorem letter_last {k : Int} (hk : OkK k) : letter k k = 110 := by
  rcases hk.cases with rfl | rfl | rfl | rfl <;> decide
theorem letter_below {k s : Int} (hk : OkK k) (h0 : 0 ≤ s) (h1 : s ≤ k) (hs : s ≠ k) : atI [99, 100, 104, 115] s = some (letter k s) := by
  rcases hk.cases with rfl | rfl | rfl | rfl
  · have : s = 0 := by omega
    rcases this with rfl <;> decide
  · have : s = 0 ∨ s = 1 := by omega
    rcases this with rfl | rfl <;> decide
  · have : s = 0 ∨ s = 1 ∨ s = 2 := by omega
    rcases this with rfl | rfl | rfl <;> decide
  · have : s = 0 ∨ s = 1 ∨ s = 2 ∨ s = 3 := by omega
    rcases this with rfl | rfl | rfl | rfl <;> decide
theorem lets_no {k : Int} (hk : OkK k) : fnd (lets k) 80 = -1 ∧ fnd (lets k) 88 = -1 := by
  rcases hk.cases with rfl | rfl | rfl | rfl <;> decide
theorem fnd_n {k : Int} (hk : OkK k) : fnd (lets k) 110 = k := by
  rcases hk.cases with rfl | rfl | rfl | rfl <;> decide
theorem fnd_other {k : Int} {c : Nat} (h : c ≠ 110) : fnd (lets k) c = fnd (pref k) c := fnd_app (pref k) c 110 h
theorem letter_asc {k s : Int} (hk : OkK k) : letter k s < 128 := by
  unfold letter lets
  rw [List.getD_eq_getElem?_getD]
  cases h : (pref k ++ [110])[s.toNat]? with
  | none => decide
  | some x =>
    have hm := List.mem_of_getElem? h
    show x < 128
    unfold pref at hm
    rcases List.mem_append.mp hm with hm | hm
    · have := List.mem_of_mem_take hm
      simp at this
      omega
    · simp at hm
      omega
/-- A TEXT OF A CALL MEANS IT -/
theorem mean_text {k : Int} {c : Call} (hk : OkK k) (hc : OkC k c) : mean k (textOf k c) = some c := by
  cases c with
  | pass => rfl
  | dbl =>
    show (if ("X" : Str) = "P" then _ else if ("X" : Str) = "X" then some Call.dbl else _) = _
    rw [if_neg (by decide +kernel), if_pos rfl]
  | rdbl =>
    show (if ("XX" : Str) = "P" then _ else if ("XX" : Str) = "X" then _ else if ("XX" : Str) = "XX" then some Call.rdbl else _) = _
    rw [if_neg (by decide +kernel), if_neg (by decide +kernel), if_pos rfl]
  | bid l s =>
    obtain ⟨h1, h2, h3, h4⟩ := hc
    obtain ⟨n, rfl⟩ : ∃ n : Nat, l = (n : Int) := ⟨l.toNat, by omega⟩
    have e : tl (textOf k (.bid (n : Int) s)) = numL n ++ [letter k s] := by
      show tl (Str.ofString (toString ((n : Nat) : Int)) ++ ⟨#[letter k s]⟩) = _
      rw [tl_append, tl_toString]
    obtain ⟨_, hf⟩ := letter_at hk h3 h4
    have no : ∀ x : Str, ∀ d : Nat, (tl x).getLast? = some d → fnd (lets k) d = -1 → textOf k (.bid (n : Int) s) ≠ x := fun x d hx hd q => by
      rw [← q, e, List.getLast?_concat] at hx
      have ed := Option.some.inj hx
      rw [ed, hd] at hf
      omega
    obtain ⟨n1, n2⟩ := lets_no hk
    unfold mean
    rw [if_neg (no "P" 80 (by decide +kernel) n1), if_neg (no "X" 88 (by decide +kernel) n2), if_neg (no "XX" 88 (by decide +kernel) n2), e, mean2_app, hf, if_neg (by omega), dig_num (by omega) (by omega)]
end K16

/-! K16, part C: call_text, _law_call_text, _law_text. -/
namespace K16
open PySem L2 TL
theorem ifT {c : Bool} {A B : Prop} (hc : c = true) (h : A) : if c = true then A else B := by
  rw [if_pos hc]
  exact h
theorem ifF {c : Bool} {A B : Prop} (hc : c = false) (h : B) : if c = true then A else B := by
  rw [hc, if_neg Bool.false_ne_true]
  exact h
theorem deF {p : Prop} [Decidable p] (h : ¬ p) : decide p = false := decide_eq_false h
theorem deT {p : Prop} [Decidable p] (h : p) : decide p = true := decide_eq_true h
theorem int_ne {i j : Int} (h : i ≠ j) : ¬ (V.int i = V.int j) := fun z => by
  injection z with z
  exact h z
theorem tl_cdhs : tl ("cdhs" : Str) = [99, 100, 104, 115] := by decide +kernel
theorem tl_n : tl ("n" : Str) = [110] := by decide +kernel
theorem str_one (c : Nat) : tl ⟨#[c]⟩ = [c] := rfl
theorem str_n : ("n" : Str) = ⟨#[110]⟩ := ext_tl tl_n
/-- a number up to 99 and one sign -/
theorem len_level {l : Int} (h1 : 1 ≤ l) (h2 : l ≤ 99) : (Str.ofString (toString l)).length ≤ 2 := by
  obtain ⟨n, rfl⟩ : ∃ n : Nat, l = (n : Int) := ⟨l.toNat, by omega⟩
  rw [len_tl, tl_toString]
  exact numL_len (by decide) (by omega)
theorem level_small {l : Int} (h1 : 1 ≤ l) (h2 : l ≤ 99) : l.natAbs.log2 < 1920 := by
  have h : l.natAbs ≠ 0 := by omega
  rw [Nat.log2_lt h]
  exact Nat.lt_of_le_of_lt (show l.natAbs ≤ 99 by omega) (Nat.lt_of_lt_of_le (show 99 < 2 ^ 7 by decide) (Nat.pow_le_pow_right (by decide) (show 7 ≤ 1920 by decide)))
theorem line_big {n : Nat} (h : n ≤ 1000) : n ≤ sizeLine := Nat.le_of_lt (small1000 h)
/-- "cdhs"[:k] -/
theorem tl_cut {k : Int} (hk : OkK k) : tl (cutS ("cdhs" : Str) none (some k)) = pref k := by
  show ((tl ("cdhs" : Str)).drop 0).take (HT.sIx ("cdhs" : Str).length ("cdhs" : Str).length (some k) - 0) = _
  have e : ("cdhs" : Str).length = 4 := by rw [len_tl, tl_cdhs]; rfl
  rw [tl_cdhs, e]
  rcases hk.cases with rfl | rfl | rfl | rfl <;> decide
theorem tl_lets {k : Int} (hk : OkK k) : tl (cutS ("cdhs" : Str) none (some k) ++ "n") = lets k := by
  rw [tl_append, tl_cut hk, tl_n]
  rfl
theorem len_cut (k : Int) : (cutS ("cdhs" : Str) none (some k)).length ≤ 4 := by
  have := cutS_length ("cdhs" : Str) none (some k)
  rw [len_tl ("cdhs" : Str), tl_cdhs] at this
  exact this

def spCallText (K : PySem.W.Frag) : Sp := fun vs H Q _ => ∃ (k : Int) (a : Addr) (c : Call), vs = [.int k, .ref a] ∧ OkK k ∧ OkC k c ∧ SqT K H a (callV c) ∧ ∀ H', Same H H' → Q (.str (textOf k c)) H'
def spText : Sp := fun vs H Q _ => ∃ z : Str, vs = [.str z, .str z] ∧ Q (.bl true) H
section
variable {P : Program} {w : World} {K : PySem.W.Frag} {mg : Str → Option Value} {base : Heap}
/-! ### call_text -/
theorem scCallText : FnScope ["suits", "call"] ["suits", "call"] (defScope sCallText) := ⟨rfl, rfl, rfl, by decide +kernel, rfl, by decide +kernel, by decide +kernel⟩
theorem ok_callText {f : Addr} {fd : FuncData} {t : Tok} (F : Fun K "call_text" "call_text" sCallText f fd) (T : TxtA mg) (mL : mg "LETTERS" = some (.str "cdhs" t)) : FnOk P w K mg base CX0 1 f fd ["suits", "call"] (spCallText K) := by
  refine F.ok scCallText (fun vs H Q E h => ?_) (fun cdv A outer s H vs Q E hr h => ?_)
  · obtain ⟨k, a, c, rfl, _⟩ := h
    rfl
  · obtain ⟨k, a, c, rfl, hk, hc, hS, q⟩ := h
    have hu := hu_of hr
    refine ⟨_, pss_cons (ps_if (pt_cmpR op_eq (pe_ix ix_tup (pv 1) pe_int (fun _ _ => rfl)) pe_str (nomark _))
        (pss_one (ps_ret (pe_op op_add_str (pe_callTy call_str_int (by rfl) T.str (by decide +kernel) (pa_cons (pe_ix ix_tup (pv 1) pe_int (fun _ _ => rfl)) pa_nil))
          (pe_ifExp (pt_cmpR op_eq (pe_ix ix_tup (pv 1) pe_int (fun _ _ => rfl)) (pv 0) (nomark _)) pe_str (pe_ix ix_str (pe_glob (v := .str "cdhs") (by rfl) mL ⟨_, rfl⟩) (pe_ix ix_tup (pv 1) pe_int (fun _ _ => rfl)) (fun _ _ => rfl))))))
        pss_nil)
      (pss_one (ps_ret (pe_dget hu (pe_disp (pps_cons pe_str pe_str (pps_cons pe_str pe_str (pps_cons pe_str pe_str pps_nil))) (by rfl) (by rfl) (fun z => by cases z) (by decide)) (pe_ix ix_tup (pv 1) pe_int (fun _ _ => rfl)) (fun _ _ => rfl)))), ?_⟩
    have alt : (∃ x y : Str, callV c = [.str x] ∧ ¬ (V.str x = V.str "bid") ∧ valV (mergeK [] [(Sum.inr ("pass" : Str), V.str "P"), (Sum.inr ("double" : Str), V.str "X"), (Sum.inr ("redouble" : Str), V.str "XX")]) (Sum.inr x) = some (.str y) ∧ textOf k c = y) ∨ ∃ l s, c = .bid l s := by
      cases c with
      | pass => exact .inl ⟨"pass", "P", rfl, by decide +kernel, by decide +kernel, rfl⟩
      | dbl => exact .inl ⟨"double", "X", rfl, by decide +kernel, by decide +kernel, rfl⟩
      | rdbl => exact .inl ⟨"redouble", "XX", rfl, by decide +kernel, by decide +kernel, rfl⟩
      | bid l s => exact .inr ⟨l, s, rfl⟩
    rcases alt with ⟨x, y, ec, nb, hv, et⟩ | ⟨l, sn, rfl⟩
    · rw [ec] at hS
      refine ⟨_, rfl, a, _, _, _, rfl, rfl, hS, rfl, rfl, _, rfl, ifF (deF nb) ?_⟩
      intro p np
      refine ⟨upd_same, [(Sum.inr ("pass" : Str), V.str "P"), (Sum.inr ("double" : Str), V.str "X"), (Sum.inr ("redouble" : Str), V.str "XX")], rfl, by decide, ?_⟩
      have s1 : Same H (upd (upd H p (.dK [])) p (.dK (mergeK [] [(Sum.inr ("pass" : Str), V.str "P"), (Sum.inr ("double" : Str), V.str "X"), (Sum.inr ("redouble" : Str), V.str "XX")]))) := by
        rw [upd_upd]
        exact same_new np
      refine ⟨_, rfl, a, _, _, _, rfl, rfl, same_tup s1 hS, rfl, p, .str y, rfl, ?_, ?_⟩
      · have g := DGet.k (k := Sum.inr x) (upd_same (H := upd H p (.dK [])) (a := p) (o := .dK (mergeK [] [(Sum.inr ("pass" : Str), V.str "P"), (Sum.inr ("double" : Str), V.str "X"), (Sum.inr ("redouble" : Str), V.str "XX")])))
        rw [hv] at g
        exact g
      · rw [← et]
        exact q _ s1
    · obtain ⟨h1, h2, h3, h4⟩ := hc
      refine ⟨_, rfl, a, _, _, _, rfl, rfl, hS, rfl, rfl, _, rfl, ifT (deT rfl) ?_⟩
      refine ⟨_, rfl, a, _, _, _, rfl, rfl, hS, rfl, l, rfl, level_small h1 h2, ?_⟩
      have ll := len_level h1 h2
      refine ⟨_, rfl, a, _, _, _, rfl, rfl, hS, rfl, _, rfl, rfl, _, rfl, ?_⟩
      refine ite2 (fun hd => ?_) (fun hd => ?_)
      · have e : sn = k := by
          have z := of_decide_eq_true hd
          injection z
        refine ⟨_, _, rfl, rfl, ?_, ?_⟩
        · have : ("n" : Str).length = 1 := by rw [len_tl, tl_n]; rfl
          exact line_big (by omega)
        · have et : textOf k (.bid l sn) = Str.ofString (toString l) ++ "n" := by
            show Str.ofString (toString l) ++ ⟨#[letter k sn]⟩ = _
            rw [e, letter_last hk, str_n]
          rw [← et]
          exact q H (Same.refl H)
      · have e : sn ≠ k := fun z => hd (deT (by rw [z]))
        refine ⟨_, rfl, a, _, _, _, rfl, rfl, hS, rfl, _, _, letter k sn, rfl, rfl, ?_, ?_, _, _, rfl, rfl, ?_, q H (Same.refl H)⟩
        · rw [len_tl, tl_cdhs]
          exact line_big (by decide)
        · rw [show ("cdhs" : Str).cps.toList = [99, 100, 104, 115] from tl_cdhs]
          exact letter_below hk h3 h4 e
        · exact line_big (by show _ + 1 ≤ 1000; omega)
/-! ### _law_call_text -/
theorem scLawText : FnScope ["_law_suits", "_law_call"] ["_law_suits", "_law_call"] (defScope sLawText) := ⟨rfl, rfl, rfl, by decide +kernel, rfl, by decide +kernel, by decide +kernel⟩
theorem ok_lawText {f : Addr} {fd : FuncData} (F : Fun K "_law_call_text" "_law_call_text" sLawText f fd) (T : TxtA mg) : FnOk P w K mg base CX0 1 f fd ["_law_suits", "_law_call"] (spCallText K) := by
  refine F.ok scLawText (fun vs H Q E h => ?_) (fun cdv A outer s H vs Q E hr h => ?_)
  · obtain ⟨k, a, c, rfl, _⟩ := h
    rfl
  · obtain ⟨k, a, c, rfl, hk, hc, hS, q⟩ := h
    refine ⟨_, pss_cons (ps_if (pt_cmpR op_eq (pe_ix ix_tup (pv 1) pe_int (fun _ _ => rfl)) pe_str (nomark _))
        (pss_one (ps_ret (pe_op op_add_str (pe_callTy call_str_int (by rfl) T.str (by decide +kernel) (pa_cons (pe_ix ix_tup (pv 1) pe_int (fun _ _ => rfl)) pa_nil))
          (pe_ix ix_str (pe_op op_add_str (pe_slice sl_str pe_str po_none (po_some (pv 0))) pe_str) (pe_ix ix_tup (pv 1) pe_int (fun _ _ => rfl)) (fun _ _ => rfl)))))
        pss_nil)
      (pss_one (ps_ret (pe_ix ix_list (pe_lst (pa_cons pe_str (pa_cons pe_str (pa_cons pe_str pa_nil))))
        (pe_bm PySem.F.plainAttrs_list PySem.F.slot_list_index PySem.F.type_list_index mt_index (pe_lst (pa_cons pe_str (pa_cons pe_str (pa_cons pe_str pa_nil)))) (pa_cons (pe_ix ix_tup (pv 1) pe_int (fun _ _ => rfl)) pa_nil)) (fun _ _ => rfl)))), ?_⟩
    have alt : (∃ (x y : Str) (j : Nat), callV c = [.str x] ∧ ¬ (V.str x = V.str "bid") ∧ ([.str "pass", .str "double", .str "redouble"] : List V)[j]? = some (.str x) ∧
        (∀ (m : Nat) (z' : V), m < j → ([.str "pass", .str "double", .str "redouble"] : List V)[m]? = some z' → eqV z' (.str x) = false) ∧ ([.str "P", .str "X", .str "XX"] : List V)[j]? = some (.str y) ∧ textOf k c = y) ∨ ∃ l s, c = .bid l s := by
      cases c with
      | pass => exact .inl ⟨"pass", "P", 0, rfl, by decide +kernel, rfl, fun m z h => by omega, rfl, rfl⟩
      | dbl => exact .inl ⟨"double", "X", 1, rfl, by decide +kernel, rfl, fun m z h e => by
          have : m = 0 := by omega
          subst this
          have e' := Option.some.inj e
          rw [← e']
          decide +kernel, rfl, rfl⟩
      | rdbl => exact .inl ⟨"redouble", "XX", 2, rfl, by decide +kernel, rfl, fun m z h e => by
          have : m = 0 ∨ m = 1 := by omega
          rcases this with rfl | rfl
          · have e' := Option.some.inj e
            rw [← e']
            decide +kernel
          · have e' := Option.some.inj e
            rw [← e']
            decide +kernel, rfl, rfl⟩
      | bid l s => exact .inr ⟨l, s, rfl⟩
    rcases alt with ⟨x, y, j, ec, nb, hx, hno, hy, et⟩ | ⟨l, sn, rfl⟩
    · rw [ec] at hS
      refine ⟨_, rfl, a, _, _, _, rfl, rfl, hS, rfl, rfl, _, rfl, ifF (deF nb) ?_⟩
      refine ⟨line_big (by decide), fun p np => ?_⟩
      refine ⟨line_big (by decide), fun r nr => ?_⟩
      have s1 := same_new (o := .lst [.str "P", .str "X", .str "XX"]) np
      have s2 := same_new (o := .lst [.str "pass", .str "double", .str "redouble"]) nr
      refine ⟨.inl ⟨rfl, _, .inl (.inl upd_same)⟩, _, rfl, a, _, _, _, rfl, rfl, same_tup (s1.trans s2) hS, rfl, ?_⟩
      refine ⟨r, _, .str x, j, .str x, rfl, rfl, SqL.of upd_same, rfl, rfl, hx, (by show (x == x) = true; exact beq_self_eq_true x), hno, ?_⟩
      refine ⟨p, _, _, .str y, rfl, rfl, s2.seq (SqL.of upd_same), atI_nat hy, ?_⟩
      rw [← et]
      exact q _ (s1.trans s2)
    · obtain ⟨h1, h2, h3, h4⟩ := hc
      refine ⟨_, rfl, a, _, _, _, rfl, rfl, hS, rfl, rfl, _, rfl, ifT (deT rfl) ?_⟩
      refine ⟨_, rfl, a, _, _, _, rfl, rfl, hS, rfl, l, rfl, level_small h1 h2, ?_⟩
      have ll := len_level h1 h2
      have lc := len_cut k
      have ln : ("n" : Str).length = 1 := by rw [len_tl, tl_n]; rfl
      refine ⟨_, rfl, _, rfl, _, rfl, (by rw [len_tl, tl_cdhs]; exact line_big (by decide)), _, _, rfl, rfl, line_big (by omega), ?_⟩
      refine ⟨_, rfl, a, _, _, _, rfl, rfl, hS, rfl, _, _, letter k sn, rfl, rfl, ?_, ?_, _, _, rfl, rfl, ?_, q H (Same.refl H)⟩
      · rw [len_tl, tl_lets hk]
        exact line_big (by unfold lets pref; simp; omega)
      · rw [show (cutS ("cdhs" : Str) none (some k) ++ "n").cps.toList = lets k from tl_lets hk]
        exact (letter_at hk h3 h4).1
      · exact line_big (by show _ + 1 ≤ 1000; omega)
/-! ### _law_text -/
theorem scText : FnScope ["_law_actual", "_law_due"] ["_law_actual", "_law_due"] (defScope sText) := ⟨rfl, rfl, rfl, by decide +kernel, rfl, by decide +kernel, by decide +kernel⟩
theorem ok_text {f : Addr} {fd : FuncData} (F : Fun K "_law_text" "_law_text" sText f fd) (T : TxtA mg) : FnOk P w K mg base CX0 1 f fd ["_law_actual", "_law_due"] spText := by
  refine F.ok scText (fun vs H Q E h => ?_) (fun cdv A outer s H vs Q E hr h => ?_)
  · obtain ⟨z, rfl, _⟩ := h
    rfl
  · obtain ⟨z, rfl, q⟩ := h
    refine ⟨_, pss_one (ps_ret (pe_and (pe_callB call_isi (by rfl) T.isi (by decide +kernel) (pa_cons (pv 0) (pa_cons (pe_bltn (v := .ty "str") (u := .type "str") (by rfl) T.str (by decide +kernel) rfl) pa_nil))) (pe_one (pe_cmpR op_eq (pv 0) (pv 1) (nomark _))))), ?_⟩
    refine ⟨_, rfl, _, .ty "str", .type "str", .type "str", true, rfl, .ty "str", .base (.str z), kit_ty (by decide +kernel), _, rfl, iteT ?_⟩
    refine ⟨_, rfl, _, rfl, rfl, ?_⟩
    have e : decide (V.str z = V.str z) = true := deT rfl
    rw [e]
    exact q
end
end K16

/-! K16, part D: read_call. -/
namespace K16
open PySem L2 TL
/-! ### a text's last sign and the rest -/
theorem cut_nil {t : Str} (h : tl t = []) : tl (cutS t (some (-1)) none) = [] ∧ tl (cutS t none (some (-1))) = [] := by
  constructor
  · show ((tl t).drop _).take _ = []
    rw [h, List.drop_nil, List.take_nil]
  · show ((tl t).drop _).take _ = []
    rw [h, List.drop_nil, List.take_nil]
theorem sIx_back (n d : Nat) : HT.sIx n d (some (-1)) = n - 1 := by
  show (if (-1 : Int) < 0 then ((-1 : Int) + (n : Int)).toNat else min (-1 : Int).toNat n) = n - 1
  rw [if_pos (by decide)]
  omega
theorem cut_last {t : Str} {l : List Nat} {c : Nat} (h : tl t = l ++ [c]) : tl (cutS t (some (-1)) none) = [c] ∧ tl (cutS t none (some (-1))) = l := by
  have hn : t.length = l.length + 1 := by rw [len_tl, h]; simp
  constructor
  · show ((tl t).drop (HT.sIx t.length 0 (some (-1)))).take (HT.sIx t.length t.length none - HT.sIx t.length 0 (some (-1))) = [c]
    rw [sIx_back, HT.sIx_none, hn, h]
    have e : l.length + 1 - 1 = l.length := by omega
    rw [e, List.drop_left]
    have e2 : l.length + 1 - l.length = 1 := by omega
    rw [e2]
    rfl
  · show ((tl t).drop (HT.sIx t.length 0 none)).take (HT.sIx t.length t.length (some (-1)) - HT.sIx t.length 0 none) = l
    rw [sIx_back, HT.sIx_none, hn, h]
    have e : l.length + 1 - 1 - 0 = l.length := by omega
    rw [e, List.drop_zero, List.take_left]
/-- a text of plain signs, of some length -/
structure Asc (t : Str) : Prop where
  len : t.length ≤ 100
  low : ∀ c ∈ tl t, c < 1114112
theorem Asc.cut {t : Str} (h : Asc t) (a b : Option Int) : Asc (cutS t a b) :=
  ⟨Nat.le_trans (cutS_length t a b) h.len, fun c hc => h.low c (by
    have hc' : c ∈ ((tl t).drop (HT.sIx t.length 0 a)).take (HT.sIx t.length t.length b - HT.sIx t.length 0 a) := hc
    exact List.mem_of_mem_drop (List.mem_of_mem_take hc'))⟩
/-! ### digits -/
theorem tl_digits : tl ("0123456789" : Str) = [48, 49, 50, 51, 52, 53, 54, 55, 56, 57] := by decide +kernel
theorem mem_digits {c : Nat} : c ∈ tl ("0123456789" : Str) ↔ 48 ≤ c ∧ c ≤ 57 := by
  rw [tl_digits]
  simp
  omega
theorem fnd_digit {c : Nat} (h : 48 ≤ c ∧ c ≤ 57) : fnd (tl ("0123456789" : Str)) c = (c : Int) - 48 := by
  rw [tl_digits]
  have : c = 48 ∨ c = 49 ∨ c = 50 ∨ c = 51 ∨ c = 52 ∨ c = 53 ∨ c = 54 ∨ c = 55 ∨ c = 56 ∨ c = 57 := by omega
  rcases this with rfl | rfl | rfl | rfl | rfl | rfl | rfl | rfl | rfl | rfl <;> decide
def sign (c : Nat) : V := .str ⟨#[c]⟩
/-- the signs that are no digits -/
def wrongs (l : List Nat) : List V := (l.filter fun c => decide (¬ c ∈ tl ("0123456789" : Str))).map sign
theorem wrongs_nil {l : List Nat} : wrongs l = [] ↔ ∀ c ∈ l, 48 ≤ c ∧ c ≤ 57 := by
  unfold wrongs
  rw [List.map_eq_nil_iff, List.filter_eq_nil_iff]
  constructor
  · intro h c hc
    have := h c hc
    rw [decide_eq_true_eq, Classical.not_not, mem_digits] at this
    exact this
  · intro h c hc
    rw [decide_eq_true_eq, Classical.not_not, mem_digits]
    exact h c hc
theorem wrongs_more {l : List Nat} {i c : Nat} (h : l[i]? = some c) : wrongs (l.take (i + 1)) = if decide (¬ c ∈ tl ("0123456789" : Str)) = true then wrongs (l.take i) ++ [sign c] else wrongs (l.take i) := by
  unfold wrongs
  rw [List.take_add_one, h]
  show ((l.take i ++ [c]).filter _).map sign = _
  rw [List.filter_append, List.map_append, List.filter_cons, List.filter_nil]
  split
  · rfl
  · simp
/-- the list's data -/
def wrongD (l : List Nat) : List PyData := (l.filter fun c => decide (¬ c ∈ tl ("0123456789" : Str))).map fun c => .str ⟨#[c]⟩
theorem wrong_all {K : PySem.W.Frag} {H : Hp} : ∀ l : List Nat, DpAll K H (l.map sign) (l.map fun c => .str ⟨#[c]⟩)
  | [] => .nil
  | _ :: r => .cons (.str _) (wrong_all r)
theorem wrong_lay : ∀ l : List Nat, (∀ c ∈ l, c < 1114112) → PyData.canLayAll0 (l.map fun c => PyData.str ⟨#[c]⟩) = true
  | [], _ => rfl
  | c :: r, h => by
    show (PyData.canLay0 (.str ⟨#[c]⟩) && PyData.canLayAll0 (r.map fun c => PyData.str ⟨#[c]⟩)) = true
    rw [wrong_lay r fun d hd => h d (List.mem_cons_of_mem _ hd), Bool.and_true]
    have := h c List.mem_cons_self
    show (#[c].all (· < 0x110000)) = true
    simp [this]
theorem depth_strs : ∀ l : List Nat, PyData.depthAll (l.map fun c => PyData.str ⟨#[c]⟩) ≤ 1
  | [] => by decide
  | c :: r => by
    have := depth_strs r
    show max (PyData.depth (.str ⟨#[c]⟩)) (PyData.depthAll (r.map fun c => PyData.str ⟨#[c]⟩)) ≤ 1
    have e : PyData.depth (.str ⟨#[c]⟩) ≤ 1 := Nat.zero_le 1
    omega
theorem wrong_shaped {l : List Nat} (h : ∀ c ∈ l, c < 1114112) : SeqAt.shaped (.list (wrongD l)) = true := by
  have h' : ∀ c ∈ l.filter (fun c => decide (¬ c ∈ tl ("0123456789" : Str))), c < 1114112 := fun c hc => h c (List.mem_filter.mp hc).1
  unfold SeqAt.shaped
  rw [Bool.and_eq_true]
  refine ⟨wrong_lay _ h', decide_eq_true ?_⟩
  have := depth_strs (l.filter fun c => decide (¬ c ∈ tl ("0123456789" : Str)))
  show PyData.depthAll (wrongD l) + 1 ≤ 64
  unfold wrongD
  omega
theorem wrong_eqv (l : List Nat) : PyData.eqv (.list (wrongD l)) (.list []) = decide (wrongs l = []) := by
  have e : wrongs l = [] ↔ wrongD l = [] := by
    unfold wrongs wrongD
    rw [List.map_eq_nil_iff, List.map_eq_nil_iff]
  cases h : wrongD l with
  | nil =>
    rw [decide_eq_true (e.mpr h)]
    rfl
  | cons d r =>
    rw [decide_eq_false fun q => by
      have := e.mp q
      rw [h] at this
      cases this]
    rfl
/-! ### what stands behind the top: the table of texts, the class of the error -/
structure TxtR (w : World) (K : PySem.W.Frag) (mg : Str → Option Value) (T aP aX aR CI : Addr) : Prop where
  letters : ∃ t, mg "LETTERS" = some (.str "cdhs" t)
  mT : mg "TEXTS" = some (.ref T)
  at_ : ∃ t1 t2 t3 n, K.lookup T = some ⟨.type "dict", none, .dict #[⟨PyData.keyHash w.params "P", .str "P" t1, .ref aP⟩, ⟨PyData.keyHash w.params "X", .str "X" t2, .ref aX⟩, ⟨PyData.keyHash w.params "XX", .str "XX" t3, .ref aR⟩] n, #[]⟩
  low : (T == sysModules) = false
  tP : ∃ d t n sl, K.lookup aP = some ⟨.type "tuple", d, .seq #[.str "pass" t] n, sl⟩
  tX : ∃ d t n sl, K.lookup aX = some ⟨.type "tuple", d, .seq #[.str "double" t] n, sl⟩
  tR : ∃ d t n sl, K.lookup aR = some ⟨.type "tuple", d, .seq #[.str "redouble" t] n, sl⟩
  gI : mg "InvalidText" = some (.ref CI)
  xI : PySem.W.excIn K CI [.type "ValueError", .type "Exception", .type "BaseException", .type "object"] "ValueError.__new__" = true
  kI : PySem.W.keepIn K (.ref CI) = true
  bI : PySem.W.subIn K (.ref CI) (.type "BaseException") = some true
  tI : PySem.W.typeIn K (.ref CI) = some (.type "type")
section
variable {w : World} {K : PySem.W.Frag} {mg : Str → Option Value} {T aP aX aR CI : Addr}
/-- the call at a text of the table -/
def tabAt (aP aX aR : Addr) (z : Str) : Option Addr := if z = "P" then some aP else if z = "X" then some aX else if z = "XX" then some aR else none
theorem TxtR.ns (R : TxtR w K mg T aP aX aR CI) (z : Str) : PySem.W.nsIn K T z = some ((tabAt aP aX aR z).map Value.ref) := by
  obtain ⟨t1, t2, t3, n, h⟩ := R.at_
  unfold PySem.W.nsIn tabAt
  rw [h]
  by_cases h1 : z = "P"
  · subst h1
    rfl
  · have e1 : (("P" : Str) == z) = false := by simpa using fun q => h1 q.symm
    rw [if_neg h1]
    by_cases h2 : z = "X"
    · subst h2
      have e1 : (("P" : Str) == ("X" : Str)) = false := by decide +kernel
      simp [Value.isStr, e1]
    · have e2 : (("X" : Str) == z) = false := by simpa using fun q => h2 q.symm
      rw [if_neg h2]
      by_cases h3 : z = "XX"
      · subst h3
        have e1 : (("P" : Str) == ("XX" : Str)) = false := by decide +kernel
        have e2 : (("X" : Str) == ("XX" : Str)) = false := by decide +kernel
        simp [Value.isStr, e1, e2]
      · have e3 : (("XX" : Str) == z) = false := by simpa using fun q => h3 q.symm
        rw [if_neg h3]
        simp [Value.isStr, e1, e2, e3, DictEntry.refKey]
theorem TxtR.lit (R : TxtR w K mg T aP aX aR CI) : ∃ es n, KDict K w T es n := by
  obtain ⟨t1, t2, t3, n, h⟩ := R.at_
  exact ⟨_, n, h, ⟨⟨_, _, rfl, rfl⟩, ⟨_, _, rfl, rfl⟩, ⟨_, _, rfl, rfl⟩, trivial⟩, R.low⟩
theorem tup_of {K : PySem.W.Frag} {H : Hp} {a : Addr} {x : Str} (h : ∃ d t n sl, K.lookup a = some ⟨.type "tuple", d, .seq #[.str x t] n, sl⟩) : SqT K H a [.str x] := by
  obtain ⟨d, t, n, sl, h⟩ := h
  exact .inr ⟨_, _, _, h, rfl, rfl, line_big (show 1 ≤ 1000 by decide), .cons ⟨_, rfl⟩ .nil⟩
theorem TxtR.hit (R : TxtR w K mg T aP aX aR CI) {z : Str} {a : Addr} (h : tabAt aP aX aR z = some a) (k : Int) : ∃ c, mean k z = some c ∧ (∀ H, SqT K H a (callV c)) ∧ KDct K w T z (.ref a) := by
  have hd : KDct K w T z (.ref a) := by
    obtain ⟨es, n, D⟩ := R.lit
    exact ⟨es, n, .ref a, D.at_, D.lit, by rw [R.ns z, h]; rfl, rfl⟩
  unfold tabAt at h
  by_cases h1 : z = "P"
  · rw [if_pos h1] at h
    cases h
    exact ⟨.pass, by unfold mean; rw [if_pos h1], fun H => tup_of R.tP, hd⟩
  · rw [if_neg h1] at h
    by_cases h2 : z = "X"
    · rw [if_pos h2] at h
      cases h
      exact ⟨.dbl, by unfold mean; rw [if_neg h1, if_pos h2], fun H => tup_of R.tX, hd⟩
    · rw [if_neg h2] at h
      by_cases h3 : z = "XX"
      · rw [if_pos h3] at h
        cases h
        exact ⟨.rdbl, by unfold mean; rw [if_neg h1, if_neg h2, if_pos h3], fun H => tup_of R.tR, hd⟩
      · rw [if_neg h3] at h
        cases h
theorem tab_miss {z : Str} (h : tabAt aP aX aR z = none) (k : Int) : mean k z = mean2 k (tl z) := by
  unfold tabAt at h
  by_cases h1 : z = "P"
  · rw [if_pos h1] at h
    cases h
  · rw [if_neg h1] at h
    by_cases h2 : z = "X"
    · rw [if_pos h2] at h
      cases h
    · rw [if_neg h2] at h
      by_cases h3 : z = "XX"
      · rw [if_pos h3] at h
        cases h
      · unfold mean
        rw [if_neg h1, if_neg h2, if_neg h3]
end
end K16

/-! K16, part E: read_call. -/
namespace K16
open PySem L2 TL
def spRead (K : PySem.W.Frag) (CI : Addr) : Sp := fun vs H Q E => ∃ (k : Int) (t : Str), vs = [.int k, .str t] ∧ OkK k ∧ Asc t ∧
  (mean k t = none → ∀ H', Same H H' → E (.ref CI) none H') ∧ (∀ c, mean k t = some c → ∀ H' a, Same H H' → SqT K H' a (callV c) → Q (.ref a) H')
/-- the level that the loop reckons -/
def lev (l : List Nat) : Int := l.foldl (fun (v : Int) (c : Nat) => 10 * v + fnd (tl ("0123456789" : Str)) c) 0
theorem lev_more {l : List Nat} {i c : Nat} (h : l[i]? = some c) : lev (l.take (i + 1)) = 10 * lev (l.take i) + fnd (tl ("0123456789" : Str)) c := by
  unfold lev
  rw [List.take_add_one, h]
  show (l.take i ++ [c]).foldl _ 0 = _
  rw [List.foldl_append]
  rfl
theorem lev_dig {l : List Nat} {v : Int} (h : dig l = some v) : lev l = v := by
  match l, h with
  | [a], h =>
    have h' : (if 49 ≤ a ∧ a ≤ 57 then some ((a : Int) - 48) else none) = some v := h
    by_cases c : 49 ≤ a ∧ a ≤ 57
    · rw [if_pos c] at h'
      have e := Option.some.inj h'
      show 10 * 0 + fnd (tl ("0123456789" : Str)) a = v
      rw [fnd_digit ⟨by omega, by omega⟩]
      omega
    · rw [if_neg c] at h'
      cases h'
  | [a, b], h =>
    have h' : (if (49 ≤ a ∧ a ≤ 57) ∧ (48 ≤ b ∧ b ≤ 57) then some (10 * ((a : Int) - 48) + ((b : Int) - 48)) else none) = some v := h
    by_cases c : (49 ≤ a ∧ a ≤ 57) ∧ (48 ≤ b ∧ b ≤ 57)
    · rw [if_pos c] at h'
      have e := Option.some.inj h'
      show 10 * (10 * 0 + fnd (tl ("0123456789" : Str)) a) + fnd (tl ("0123456789" : Str)) b = v
      rw [fnd_digit ⟨by omega, by omega⟩, fnd_digit ⟨by omega, by omega⟩]
      omega
    · rw [if_neg c] at h'
      cases h'
/-- the tests of the program, one by one -/
theorem dig_len {l : List Nat} (h : ¬ (1 ≤ l.length ∧ l.length ≤ 2)) : dig l = none := by
  match l, h with
  | [], _ => rfl
  | [a], h => exact absurd ⟨by simp, by simp⟩ h
  | [a, b], h => exact absurd ⟨by simp, by simp⟩ h
  | a :: b :: c :: r, _ => rfl
theorem dig_wrong {l : List Nat} (h : ¬ ∀ c ∈ l, 48 ≤ c ∧ c ≤ 57) : dig l = none := by
  cases e : dig l with
  | none => rfl
  | some v =>
    match l, e, h with
    | [a], e, h =>
      have h' : (if 49 ≤ a ∧ a ≤ 57 then some ((a : Int) - 48) else none) = some v := e
      by_cases c : 49 ≤ a ∧ a ≤ 57
      · exact absurd (fun d hd => by simp at hd; subst hd; omega) h
      · rw [if_neg c] at h'
        cases h'
    | [a, b], e, h =>
      have h' : (if (49 ≤ a ∧ a ≤ 57) ∧ (48 ≤ b ∧ b ≤ 57) then some (10 * ((a : Int) - 48) + ((b : Int) - 48)) else none) = some v := e
      by_cases c : (49 ≤ a ∧ a ≤ 57) ∧ (48 ≤ b ∧ b ≤ 57)
      · exact absurd (fun d hd => by simp at hd; rcases hd with rfl | rfl <;> omega) h
      · rw [if_neg c] at h'
        cases h'
theorem dig_zero {l : List Nat} (h : l[0]? = some 48) : dig l = none := by
  match l, h with
  | [a], h =>
    have e : a = 48 := Option.some.inj h
    subst e
    rfl
  | [a, b], h =>
    have e : a = 48 := Option.some.inj h
    subst e
    simp [dig]
  | a :: b :: c :: r, _ => rfl
theorem dig_ok {l : List Nat} (h1 : 1 ≤ l.length ∧ l.length ≤ 2) (h2 : ∀ c ∈ l, 48 ≤ c ∧ c ≤ 57) (h3 : l[0]? ≠ some 48) : ∃ v, dig l = some v := by
  match l, h1, h2, h3 with
  | [], h1, _, _ => exact absurd h1.1 (by decide)
  | [a], _, h2, h3 =>
    have := h2 a (by simp)
    have h4 : a ≠ 48 := fun q => h3 (by rw [q]; rfl)
    exact ⟨_, if_pos ⟨by omega, by omega⟩⟩
  | [a, b], _, h2, h3 =>
    have q1 := h2 a (by simp)
    have q2 := h2 b (by simp)
    have h4 : a ≠ 48 := fun q => h3 (by rw [q]; rfl)
    exact ⟨_, if_pos ⟨⟨by omega, by omega⟩, q2⟩⟩
  | a :: b :: c :: r, h1, _, _ =>
    have := h1.2
    simp at this
/-- what text means, by the program's own tests: sv the strain's number, D the digits -/
structure Reads (k : Int) (t : Str) (sv : Int) (D : List Nat) : Prop where
  bad : (¬ (1 ≤ D.length ∧ D.length ≤ 2) ∨ (¬ ∀ c ∈ D, 48 ≤ c ∧ c ≤ 57) ∨ D[0]? = some 48 ∨ sv < 0) → mean2 k (tl t) = none
  good : ∀ v, dig D = some v → ¬ sv < 0 → mean2 k (tl t) = some (.bid v sv)
theorem reads {k : Int} {t : Str} (hk : OkK k) {sv : Int}
    (hn : tl (cutS t (some (-1)) none) = [110] → sv = k) (ho : ∀ c, tl (cutS t (some (-1)) none) = [c] → c ≠ 110 → sv = fnd (pref k) c) : Reads k t sv (tl (cutS t none (some (-1)))) := by
  rcases List.eq_nil_or_concat (tl t) with e | ⟨l, c, e⟩
  · obtain ⟨e1, e2⟩ := cut_nil e
    rw [e2]
    refine ⟨fun _ => ?_, fun v h => by cases h⟩
    rw [e]
    rfl
  · rw [List.concat_eq_append] at e
    obtain ⟨e1, e2⟩ := cut_last e
    have hs : sv = fnd (lets k) c := by
      by_cases h : c = 110
      · subst h
        rw [fnd_n hk]
        exact hn e1
      · rw [fnd_other h]
        exact ho c e1 h
    rw [e2]
    refine ⟨fun h => ?_, fun v h h2 => by rw [e, mean2_app, ← hs, if_neg h2, h]⟩
    rw [e, mean2_app, ← hs]
    rcases h with h | h | h | h
    · rw [dig_len h]
      split <;> rfl
    · rw [dig_wrong h]
      split <;> rfl
    · rw [dig_zero h]
      split <;> rfl
    · rw [if_pos h]
/-! ### readings said in other words -/
theorem pe_imp {X : Cx} {e : Expr} {t t' : TE} (h : PE X e t) (i : ∀ σ H Q, t' σ H Q → t σ H Q) : PE X e t' := ⟨fun pins s σ H Q I q => h.run pins s σ H Q I (i σ H Q q)⟩
theorem pt_imp {X : Cx} {e : Expr} {t t' : TT} (h : PT X e t) (i : ∀ σ H Q, t' σ H Q → t σ H Q) : PT X e t' := ⟨fun pins s σ H Q I q => h.run pins s σ H Q I (i σ H Q q)⟩
/-- the strain's number -/
def tStrain : TE := fun σ H Q => ∃ (k : Int) (t : Str), σ[0]? = some (some (.int k)) ∧ σ[1]? = some (some (.str t)) ∧ OkK k ∧ Asc t ∧ ∀ sv : Int, Reads k t sv (tl (cutS t none (some (-1)))) → Q (.int sv) H
/-- is the text refused? -/
def tCond : TT := fun σ H Q => ∃ (ds : Str) (W : Addr) (sv : Int), σ[2]? = some (some (.int sv)) ∧ σ[3]? = some (some (.str ds)) ∧ σ[5]? = some (some (.ref W)) ∧ Asc ds ∧ H W = some (.lst (wrongs (tl ds))) ∧
  ∀ (b : Bool) (H' : Hp), Same H H' → (b = true → ¬ (1 ≤ (tl ds).length ∧ (tl ds).length ≤ 2) ∨ (¬ ∀ c ∈ tl ds, 48 ≤ c ∧ c ≤ 57) ∨ (tl ds)[0]? = some 48 ∨ sv < 0) → (b = false → (∃ v, dig (tl ds) = some v) ∧ ¬ sv < 0) → Q b H'
theorem str_ne {x y : Str} (h : ¬ tl x = tl y) : ¬ (V.str x = V.str y) := fun z => by
  injection z with z
  exact h (by rw [z])
abbrev tBack : TT := fun _ _ _ => True
abbrev tNeg1 : St → Hp → (Option Int → Hp → Prop) → Prop := tPart (tUn (rU fun i => .int (-i)) (tC (.int 1)))
abbrev rFind : V → List V → Hp → VK → Prop := fun x xs H Q => ∃ a b, x = .str a ∧ xs = [.str b] ∧ Q (.int (Txt.find a b)) H
theorem strain_imp : ∀ σ H Q, tStrain σ H Q → tIf (tTest (tOp rEq (tSl rSlS (tVar 1) tNeg1 tNoPart) (tC (.str "n")))) (tVar 0) (tM1 rFind (tSl rSlS (tC (.str "cdhs")) tNoPart (tPart (tVar 0))) (tSl rSlS (tVar 1) tNeg1 tNoPart)) σ H Q := by
  intro σ H Q h
  obtain ⟨k, t, e0, e1, hk, ht, q⟩ := h
  refine ⟨_, e1, _, rfl, _, rfl, t, rfl, line_big (Nat.le_trans ht.len (by decide)), rfl, _, rfl, ite2 (fun h1 => ?_) (fun h1 => ?_)⟩
  · have h2 : cutS t (some (-1)) none = "n" := by
      have z := of_decide_eq_true h1
      injection z
    refine ⟨_, e0, q k (reads hk (fun _ => rfl) fun c hc hn => ?_)⟩
    rw [h2, tl_n] at hc
    have := (List.cons.inj hc).1
    exact absurd this.symm hn
  · refine ⟨_, e0, _, rfl, _, rfl, (by rw [len_tl, tl_cdhs]; exact line_big (by decide)), ⟨_, rfl⟩, _, e1, _, rfl, _, rfl, t, rfl, line_big (Nat.le_trans ht.len (by decide)), _, _, rfl, rfl, ?_⟩
    refine q _ (reads hk (fun hc => ?_) fun c hc hn => ?_)
    · exact absurd (deT (by rw [show cutS t (some (-1)) none = "n" from ext_tl (by rw [tl_n]; exact hc)])) h1
    · rw [find_one hc, tl_cut hk]
abbrev rLenS : List V → Hp → VK → Prop := fun xs H Q => ∃ z, xs = [V.str z] ∧ z.length ≤ sizeLine ∧ Q (V.int z.length) H
theorem cond_imp {K : PySem.W.Frag} : ∀ σ H Q, tCond σ H Q → tOr (tNot (tTest (tChain (rI0 fun i j => V.bl (decide (i ≤ j))) (rI0 fun i j => V.bl (decide (i ≤ j))) (tC (V.int 1)) (tCB rLenS (tCons (tVar 3) tNil)) (tC (V.int 2)))))
    (tOr (tTest (tOp (rNeD K) (tVar 5) (tLst tNil))) (tOr (tTest (tOp rEq (tOp rIxS (tVar 3) (tC (V.int 0))) (tC (V.str "0")))) (tTest (tOp (rI0 fun i j => V.bl (decide (i < j))) (tVar 2) (tC (V.int 0)))))) σ H Q := by
  intro σ H Q h
  obtain ⟨ds, W, sv, e2, e3, e5, ha, hW, q⟩ := h
  have el := len_tl ds
  refine ⟨_, e3, ds, rfl, line_big (Nat.le_trans ha.len (by decide)), _, _, rfl, rfl, _, rfl, ite2 (fun h1 => ?_) (fun h1 => ?_)⟩
  · have h1' := of_decide_eq_true h1
    refine ⟨_, _, rfl, rfl, _, rfl, ite2 (fun h2 => ?_) (fun h2 => ?_)⟩
    · refine q true H (Same.refl H) (fun _ => .inl fun z => ?_) (fun z => by cases z)
      have h2' : ¬ ((ds.length : Int) ≤ 2) := fun z2 => by
        rw [decide_eq_true z2] at h2
        cases h2
      omega
    · have h2' : (ds.length : Int) ≤ 2 := by
        have : decide ((ds.length : Int) ≤ 2) = true := by simpa using h2
        exact of_decide_eq_true this
      have hl : 1 ≤ (tl ds).length ∧ (tl ds).length ≤ 2 := ⟨by omega, by omega⟩
      refine ⟨_, e5, Nat.zero_le _, fun L nL => ?_⟩
      have s1 : Same H (upd H L (.lst [])) := same_new nL
      refine ⟨.list (wrongD (tl ds)), .list [], .lst (SqL.of (s1 _ _ hW)) (wrong_all _), .lst (SqL.of upd_same) .nil, wrong_shaped ha.low, rfl, _, rfl, ?_⟩
      rw [wrong_eqv]
      refine ite2 (fun h3 => ?_) (fun h3 => ?_)
      · refine q true _ s1 (fun _ => .inr (.inl fun z => ?_)) (fun z => by cases z)
        rw [decide_eq_true (wrongs_nil.mpr z)] at h3
        cases h3
      · have h3' : ∀ c ∈ tl ds, 48 ≤ c ∧ c ≤ 57 := by
          refine wrongs_nil.mp ?_
          have : decide (wrongs (tl ds) = []) = true := by simpa using h3
          exact of_decide_eq_true this
        have h0 : (tl ds)[0]? = some ((tl ds)[0]'(by omega)) := by simp
        generalize (tl ds)[0]'(by omega) = c at h0
        refine ⟨_, e3, ds, 0, c, rfl, rfl, line_big (Nat.le_trans ha.len (by decide)), atI_nat (j := 0) h0, rfl, _, rfl, ite2 (fun h4 => ?_) (fun h4 => ?_)⟩
        · refine q true _ s1 (fun _ => .inr (.inr (.inl ?_))) (fun z => by cases z)
          have z := of_decide_eq_true h4
          have z2 : (⟨#[c]⟩ : Str) = "0" := by injection z
          have z3 : tl (⟨#[c]⟩ : Str) = tl ("0" : Str) := by rw [z2]
          rw [str_one, show tl ("0" : Str) = [48] by decide +kernel] at z3
          rw [h0, (List.cons.inj z3).1]
        · have h4' : c ≠ 48 := fun z => h4 (deT (by
            rw [z]
            have : (⟨#[48]⟩ : Str) = "0" := ext_tl (by rw [show tl ("0" : Str) = [48] by decide +kernel])
            rw [this]))
          refine ⟨_, e2, _, _, rfl, rfl, _, rfl, q _ _ s1 (fun z => .inr (.inr (.inr (of_decide_eq_true z)))) (fun z => ⟨dig_ok hl h3' fun z2 => ?_, fun z2 => ?_⟩)⟩
          · rw [h0] at z2
            exact h4' (Option.some.inj z2)
          · rw [decide_eq_true z2] at z
            cases z
  · refine ⟨_, rfl, ifT rfl (q true H (Same.refl H) (fun _ => .inl fun z => h1 (deT (by omega))) (fun z => by cases z))⟩
section
variable {P : Program} {w : World} {K : PySem.W.Frag} {mg : Str → Option Value} {base : Heap}
theorem scRead : FnScope ["suits", "text", "strain", "digits", "char", "wrong", "level"] ["suits", "text"] (defScope sRead) := ⟨rfl, rfl, rfl, by decide +kernel, rfl, by decide +kernel, by decide +kernel⟩
theorem ok_read {f : Addr} {fd : FuncData} {Ta aP aX aR CI : Addr} (F : Fun K "read_call" "read_call" sRead f fd) (T : TxtA mg) (R : TxtR w K mg Ta aP aX aR CI) : FnOk P w K mg base (L2.CX P w) 1 f fd ["suits", "text"] (spRead K CI) := by
  refine F.okX scRead (fun vs H Q E h => ?_) (fun cdv A outer s H vs Q E hr h => ?_)
  · obtain ⟨k, t, rfl, _⟩ := h
    rfl
  · obtain ⟨k, t, rfl, hk, ht, qE, qQ⟩ := h
    obtain ⟨es, n, D⟩ := R.lit
    obtain ⟨tt, mL⟩ := R.letters
    refine ⟨_, pss_cons (ps_if (pt_cmpR (op_in_kd D) (pv 1) (pe_glob (v := .ref Ta) (by rfl) R.mT rfl) (by rfl)) (pss_one (ps_ret (pe_ix ix_kdict (pe_glob (v := .ref Ta) (by rfl) R.mT rfl) (pv 1) (fun _ _ => rfl)))) pss_nil)
      (pss_cons (ps_set (i := 2) scRead.nd rfl (Or.inl rfl) (pe_imp (t' := tStrain) (pe_ifExp (pt_cmpR op_eq (pe_slice sl_str (pv 1) (po_some (pe_un un_neg pe_int)) po_none) pe_str (nomark _)) (pv 0)
        (pe_m1 PySem.F.slot_str_find PySem.F.type_str_find mt_find (pe_slice sl_str (pe_glob (v := .str "cdhs") (by rfl) mL ⟨_, rfl⟩) po_none (po_some (pv 0))) (pe_slice sl_str (pv 1) (po_some (pe_un un_neg pe_int)) po_none))) strain_imp))
      (pss_cons (ps_set (i := 3) scRead.nd rfl (Or.inl rfl) (pe_slice sl_str (pv 1) po_none (po_some (pe_un un_neg pe_int))))
      (pss_cons (ps_setLc (i := 5) (own := [("char", 4)]) (g := gName 4) rfl scRead.nd rfl rfl (sw_true rfl rfl rfl (by decide +kernel)) (pi_str (pv 3)) (blkOk_by (own := [("char", 4)]) (N := ["suits", "text", "strain", "digits", "char", "wrong", "level"]) (sc := defScope sRead) (by decide +kernel)) (fun _ _ _ _ _ => pg_name (i := 4) scRead.nd rfl (Or.inl rfl))
        (fun _ _ _ _ _ => pts_one (pt_cmpR op_notIn_sign (pv 4) pe_str (by rfl))) (fun _ _ _ _ _ => pv 4))
      (pss_cons (ps_if (pt_imp (t' := tCond) (PW.pt (pw_or (pt_not (pt_chain op_le op_le pe_int (pe_callB call_len_str (by rfl) T.len PySem.boot_len (pa_cons (pv 3) pa_nil)) pe_int))
          (pw_or (pt_cmpR (op_neD hr.units) (pv 5) (pe_lst pa_nil) (nomark _)) (pw_or (pt_cmpR op_eq (pe_ix ix_str (pv 3) pe_int (fun _ _ => rfl)) pe_str (nomark _)) (pw_or1 (pt_cmpR op_lt (pv 2) pe_int (nomark _))))))) cond_imp)
        (pss_one (ps_raise rfl (takes_of rfl rfl rfl rfl) (pmk_own PySem.F.excBase_ValueError R.xI R.gI R.kI (raises_own R.bI R.tI) (by rfl)))) pss_nil)
      (PSs.nox (pss_cons (ps_set (i := 6) scRead.nd rfl (Or.inl rfl) pe_int)
        (pss_cons (ps_for PassesOwn.never rfl (pi_str (pv 3)) (pg_name (i := 4) scRead.nd rfl (Or.inl rfl))
          (pss_one (ps_set (i := 6) scRead.nd rfl (Or.inl rfl) (pe_op op_add (pe_op op_mul pe_int (pv 6)) (pe_m1 PySem.F.slot_str_find PySem.F.type_str_find mt_find pe_str (pv 4))))))
        (pss_one (ps_ret (pe_tup (pa_cons pe_str (pa_cons (pv 6) (pa_cons (pv 2) pa_nil))))))))))))), ?_⟩
    refine ⟨_, rfl, t, _, rfl, rfl, R.ns t, _, rfl, ?_⟩
    cases ht0 : tabAt aP aX aR t with
    | some a =>
      obtain ⟨c, hm, hT, hd⟩ := R.hit ht0 k
      refine ifT rfl ?_
      exact ⟨_, rfl, Ta, t, _, rfl, rfl, hd, qQ c hm H a (Same.refl H) (hT H)⟩
    | none =>
      have hmean := tab_miss ht0 k
      refine ifF rfl ?_
      refine ⟨k, t, rfl, rfl, hk, ht, fun sv rd => ?_⟩
      -- digits
      refine ⟨_, rfl, _, rfl, _, rfl, t, rfl, line_big (Nat.le_trans ht.len (by decide)), ?_⟩
      have hds := ht.cut none (some (-1))
      generalize cutS t none (some (-1)) = ds at hds rd ⊢
      have hfull : (tl ds).take ds.cps.size = tl ds := by
        rw [List.take_of_length_le]
        simp
      have hget : ∀ {i c : Nat}, ds.cps[i]? = some c → (tl ds)[i]? = some c := fun {i c} h => by simpa using h
      -- wrong
      refine ⟨_, rfl, ds, rfl, fun W hW => lc_it walk_str (fun i H' => Same H H' ∧ H' W = some (.lst (wrongs ((tl ds).take i)))) ⟨same_new hW, upd_same⟩ (fun _ _ _ _ => trivial) ?_ ?_⟩
      · rintro i x H1 H2 hi ⟨hs, hw⟩ ⟨rfl, c, hc, rfl⟩
        have hm := wrongs_more (hget hc)
        refine ⟨rfl, _, rfl, c, _, rfl, rfl, _, rfl, ite2 (fun h1 => ?_) (fun h1 => ?_)⟩
        · have h2 : decide (¬ c ∈ tl ("0123456789" : Str)) = true := by simpa using h1
          rw [if_pos h2] at hm
          refine ⟨_, rfl, _, hw, ?_, fun b o e => ?_, by rw [upd_same, hm]; rfl⟩
          · have h3 : (wrongs ((tl ds).take i)).length ≤ 1000 := by
              unfold wrongs
              rw [List.length_map]
              have h4 := List.length_filter_le (fun c => decide (¬ c ∈ tl ("0123456789" : Str))) ((tl ds).take i)
              rw [List.length_take] at h4
              have := hds.len
              rw [len_tl] at this
              omega
            exact small1000 h3
          · rw [upd_ne (ne_of_none e hW)]
            exact hs _ _ e
        · have h2 : ¬ decide (¬ c ∈ tl ("0123456789" : Str)) = true := by simpa using h1
          rw [if_neg h2] at hm
          exact ⟨hs, by rw [hm]; exact hw⟩
      · rintro H1 ⟨hs, hw⟩
        rw [hfull] at hw
        refine ⟨ds, W, sv, rfl, rfl, rfl, hds, hw, fun b H3 s3 hb hg => ?_⟩
        cases b with
        | true => exact ifT rfl (qE (hmean.trans (rd.bad (hb rfl))) H3 (hs.trans s3))
        | false =>
          obtain ⟨⟨v, hv⟩, hsv⟩ := hg rfl
          refine ifF rfl ?_
          refine ⟨_, rfl, ds, rfl, for_it walk_str (fun i σ H' => ∃ v4, σ = [some (.int k), some (.str t), some (.int sv), some (.str ds), v4, some (.ref W), some (.int (lev ((tl ds).take i)))] ∧ H' = H3) ⟨none, rfl, rfl⟩ (fun _ _ _ _ _ => trivial) ?_ ?_⟩
          · rintro i x σ H4 H5 hi ⟨v4, rfl, rfl⟩ ⟨rfl, c, hc, rfl⟩
            refine ⟨_, rfl, _, _, rfl, rfl, .inl ⟨by decide, by decide⟩, ⟨_, rfl⟩, _, rfl, _, _, rfl, rfl, _, _, rfl, rfl, ?_⟩
            refine ⟨some (sign c), ?_, rfl⟩
            rw [lev_more (hget hc), ← find_one (x := "0123456789") (str_one c)]
            rfl
          · rintro σ H4 ⟨v4, rfl, rfl⟩
            refine ⟨_, rfl, _, rfl, line_big (show 3 ≤ 1000 by decide), fun p np => qQ (.bid v sv) (hmean.trans (rd.good v hv hsv)) _ p ((hs.trans s3).trans (same_new np)) (SqT.of ?_)⟩
            rw [upd_same, hfull, lev_dig hv]
            rfl
end
end K16

/-! K16, part F: _law_meant. -/
namespace K16
open PySem L2 TL
/-- a value that says what a text means: the call's tuple, or [1] -/
def IsRes (K : PySem.W.Frag) (H : Hp) (v : V) : Option Call → Prop
  | none => ∃ a, v = .ref a ∧ SqL K H a [.int 1]
  | some c => ∃ a, v = .ref a ∧ SqT K H a (callV c)
def spMeant (K : PySem.W.Frag) : Sp := fun vs H Q _ => ∃ (k : Int) (t : Str), vs = [.int k, .str t] ∧ OkK k ∧ Asc t ∧ ∀ H' v, Same H H' → IsRes K H' v (mean k t) → Q v H'
/-- the law's own tests -/
structure Meant (k : Int) (t : Str) (sv : Int) (D : List Nat) : Prop where
  bad : (sv < 0 ∨ t = "" ∨ dig D = none) → mean2 k (tl t) = none
  good : ∀ v, dig D = some v → ¬ sv < 0 → mean2 k (tl t) = some (.bid v sv)
theorem meant {k : Int} {t : Str} {sv : Int} (hs : ∀ c, tl (cutS t (some (-1)) none) = [c] → sv = fnd (lets k) c) : Meant k t sv (tl (cutS t none (some (-1)))) := by
  rcases List.eq_nil_or_concat (tl t) with e | ⟨l, c, e⟩
  · obtain ⟨e1, e2⟩ := cut_nil e
    rw [e2]
    refine ⟨fun _ => ?_, fun v h => by cases h⟩
    rw [e]
    rfl
  · rw [List.concat_eq_append] at e
    obtain ⟨e1, e2⟩ := cut_last e
    have hs := hs c e1
    rw [e2]
    refine ⟨fun h => ?_, fun v h h2 => by rw [e, mean2_app, ← hs, if_neg h2, h]⟩
    rw [e, mean2_app, ← hs]
    rcases h with h | h | h
    · rw [if_pos h]
    · rw [h] at e
      have : tl ("" : Str) = [] := by decide +kernel
      rw [this] at e
      cases l <;> cases e
    · rw [h]
      split <;> rfl
theorem levels_more {i : Nat} (h : i < 99) : levels.take (i + 1) = levels.take i ++ [V.str (Str.ofString (toString ((1 : Int) + (i : Int))))] := by
  have e : levels[i]? = some (V.str (Str.ofString (toString ((1 : Int) + (i : Int))))) := by
    unfold levels
    simp [h]
  rw [List.take_add_one, e]
  rfl
theorem levels_full : levels.take 99 = levels := by
  rw [List.take_of_length_le]
  unfold levels
  simp
theorem tups_at {K : PySem.W.Frag} {H : Hp} {p1 p2 p3 : Addr} {x1 x2 x3 xs : List V} (h1 : SqT K H p1 x1) (h2 : SqT K H p2 x2) (h3 : SqT K H p3 x3) : ∀ {j : Nat}, ([x1, x2, x3] : List (List V))[j]? = some xs → ∃ p, ([.ref p1, .ref p2, .ref p3] : List V)[j]? = some (.ref p) ∧ SqT K H p xs
  | 0, e => ⟨p1, rfl, by cases e; exact h1⟩
  | 1, e => ⟨p2, rfl, by cases e; exact h2⟩
  | 2, e => ⟨p3, rfl, by cases e; exact h3⟩
  | _ + 3, e => by cases e
/-- in the law's own table, at place j -/
structure Hit (k : Int) (t : Str) (j : Nat) (c : Call) : Prop where
  mean : mean k t = some c
  at_ : ([.str "P", .str "X", .str "XX"] : List V)[j]? = some (.str t)
  no : ∀ (m : Nat) (z' : V), m < j → ([.str "P", .str "X", .str "XX"] : List V)[m]? = some z' → eqV z' (.str t) = false
  isIn : inV (.str t) [.str "P", .str "X", .str "XX"] = true
  tup : ([[.str "pass"], [.str "double"], [.str "redouble"]] : List (List V))[j]? = some (callV c)
theorem hits (k : Int) (t : Str) : (∃ j c, Hit k t j c) ∨ (inV (.str t) [.str "P", .str "X", .str "XX"] = false ∧ mean k t = mean2 k (tl t)) := by
  by_cases h1 : t = "P"
  · subst h1
    exact .inl ⟨0, .pass, rfl, rfl, fun m z h => by omega, by decide +kernel, rfl⟩
  · by_cases h2 : t = "X"
    · subst h2
      refine .inl ⟨1, .dbl, ?_, rfl, fun m z h e => ?_, by decide +kernel, rfl⟩
      · unfold mean
        rw [if_neg h1, if_pos rfl]
      · have : m = 0 := by omega
        subst this
        rw [← Option.some.inj e]
        decide +kernel
    · by_cases h3 : t = "XX"
      · subst h3
        refine .inl ⟨2, .rdbl, ?_, rfl, fun m z h e => ?_, by decide +kernel, rfl⟩
        · unfold mean
          rw [if_neg h1, if_neg h2, if_pos rfl]
        · have : m = 0 ∨ m = 1 := by omega
          rcases this with rfl | rfl
          · rw [← Option.some.inj e]
            decide +kernel
          · rw [← Option.some.inj e]
            decide +kernel
      · refine .inr ⟨?_, ?_⟩
        · have e1 : (("P" : Str) == t) = false := by simpa using fun q => h1 q.symm
          have e2 : (("X" : Str) == t) = false := by simpa using fun q => h2 q.symm
          have e3 : (("XX" : Str) == t) = false := by simpa using fun q => h3 q.symm
          simp [inV, eqV, e1, e2, e3]
        · unfold mean
          rw [if_neg h1, if_neg h2, if_neg h3]
/-- is the text refused, by the law's tests? -/
def tCond2 : TT := fun σ H Q => ∃ (t ds : Str) (sv : Int), σ[1]? = some (some (.str t)) ∧ σ[2]? = some (some (.int sv)) ∧ σ[3]? = some (some (.str ds)) ∧ σ.length = 5 ∧
  ∀ (b : Bool) (H' : Hp), Same H H' → (b = true → sv < 0 ∨ t = "" ∨ dig (tl ds) = none) → (b = false → (∃ v, dig (tl ds) = some v) ∧ ¬ sv < 0) → Q b H'
abbrev rStrI : List V → Hp → VK → Prop := fun xs H Q => ∃ i : Int, xs = [.int i] ∧ i.natAbs.log2 < 1920 ∧ Q (.str (Str.ofString (toString i))) H
theorem cond2_imp {K : PySem.W.Frag} : ∀ σ H Q, tCond2 σ H Q → tOr (tTest (tOp (rI0 fun i j => V.bl (decide (i < j))) (tVar 2) (tC (V.int 0)))) (tOr (tTest (tOp rEq (tVar 1) (tC (V.str ""))))
    (tTest (tOp (rIn K true) (tVar 3) (tLc (iRng2 (tCons (tC (.int 1)) (tCons (tC (.int 100)) tNil))) (gName 4) tYes (tCB rStrI (tCons (tVar 4) tNil)) [4])))) σ H Q := by
  intro σ H Q h
  obtain ⟨t, ds, sv, e1, e2, e3, hl, q⟩ := h
  refine ⟨_, e2, _, _, rfl, rfl, _, rfl, ite2 (fun h1 => ?_) (fun h1 => ?_)⟩
  · exact q true H (Same.refl H) (fun _ => .inl (of_decide_eq_true h1)) (fun z => by cases z)
  · have h1' : ¬ sv < 0 := fun z => h1 (deT z)
    refine ⟨_, e1, rfl, _, rfl, ite2 (fun h2 => ?_) (fun h2 => ?_)⟩
    · refine q true H (Same.refl H) (fun _ => .inr (.inl ?_)) (fun z => by cases z)
      have z := of_decide_eq_true h2
      injection z
    · refine ⟨_, e3, 1, 100, rfl, ⟨by decide, by decide, by decide, by decide⟩, fun D hD => lc_range (lo := 1) (n := 99) (fun i H' => Same H H' ∧ H' D = some (.lst (levels.take i))) ⟨same_new hD, upd_same⟩ ?_ ?_⟩
      · rintro i H1 hi ⟨hs, hw⟩
        refine ⟨?_, ?_⟩
        · show (((σ.set 4 none).set 4 (some (.int (1 + (i : Int))))).set 4 none) = σ.set 4 none
          simp
        · refine iteT (B := Same H H1 ∧ H1 D = some (.lst (levels.take (i + 1)))) ?_
          refine ⟨.int (1 + (i : Int)), ?_, _, rfl, level_small (by omega) (by omega), _, hw, ?_, fun b o e => ?_, ?_⟩
          · show ((σ.set 4 none).set 4 (some (.int (1 + (i : Int)))))[4]? = _
            simp [hl]
          · refine small1000 ?_
            rw [List.length_take]
            omega
          · rw [upd_ne (ne_of_none e hD)]
            exact hs _ _ e
          · rw [upd_same, levels_more hi]
      · rintro H1 ⟨hs, hw⟩
        rw [levels_full] at hw
        refine ⟨D, _, rfl, .inl (SqL.of hw), rfl, levels_flat, _, rfl, ?_⟩
        show Q (!inV (.str ds) levels) H1
        rw [levels_in]
        refine q _ H1 hs (fun z => .inr (.inr ?_)) (fun z => ⟨?_, h1'⟩)
        · cases hd : dig (tl ds) with
          | none => rfl
          | some v =>
            rw [hd] at z
            cases z
        · cases hd : dig (tl ds) with
          | none =>
            rw [hd] at z
            cases z
          | some v => exact ⟨v, rfl⟩
section
variable {P : Program} {w : World} {K : PySem.W.Frag} {mg : Str → Option Value} {base : Heap}
theorem scMeant : FnScope ["_law_suits", "_law_text_here", "_law_strain", "_law_digits", "_law_level"] ["_law_suits", "_law_text_here"] (defScope sMeant) := ⟨rfl, rfl, rfl, by decide +kernel, rfl, by decide +kernel, by decide +kernel⟩
theorem ok_meant {f : Addr} {fd : FuncData} (F : Fun K "_law_meant" "_law_meant" sMeant f fd) (T : TxtA mg) : FnOk P w K mg base CX0 1 f fd ["_law_suits", "_law_text_here"] (spMeant K) := by
  refine F.ok scMeant (fun vs H Q E h => ?_) (fun cdv A outer s H vs Q E hr h => ?_)
  · obtain ⟨k, t, rfl, _⟩ := h
    rfl
  · obtain ⟨k, t, rfl, hk, ht, q⟩ := h
    refine ⟨_, pss_cons (ps_if (pt_cmpR op_in_seq (pv 1) (pe_tup (pa_cons pe_str (pa_cons pe_str (pa_cons pe_str pa_nil)))) (by rfl))
        (pss_one (ps_ret (pe_ix ix_list (pe_lst (pa_cons (pe_tup (pa_cons pe_str pa_nil)) (pa_cons (pe_tup (pa_cons pe_str pa_nil)) (pa_cons (pe_tup (pa_cons pe_str pa_nil)) pa_nil))))
          (pe_bm PySem.F.plainAttrs_list PySem.F.slot_list_index PySem.F.type_list_index mt_index (pe_lst (pa_cons pe_str (pa_cons pe_str (pa_cons pe_str pa_nil)))) (pa_cons (pv 1) pa_nil)) (fun _ _ => rfl)))) pss_nil)
      (pss_cons (ps_set (i := 2) scMeant.nd rfl (Or.inl rfl) (pe_m1 PySem.F.slot_str_find PySem.F.type_str_find mt_find (pe_op op_add_str (pe_slice sl_str pe_str po_none (po_some (pv 0))) pe_str) (pe_slice sl_str (pv 1) (po_some (pe_un un_neg pe_int)) po_none)))
      (pss_cons (ps_set (i := 3) scMeant.nd rfl (Or.inl rfl) (pe_slice sl_str (pv 1) po_none (po_some (pe_un un_neg pe_int))))
      (pss_cons (ps_if (pt_imp (t' := tCond2) (PW.pt (pw_or (pt_cmpR op_lt (pv 2) pe_int (nomark _)) (pw_or (pt_cmpR op_eq (pv 1) pe_str (nomark _)) (pw_or1 (pt_cmpR op_notIn_seq (pv 3)
          (pe_lc (own := [("_law_level", 4)]) (g := gName 4) (tt := tYes) (by rfl) scMeant.nd (pi_range2 (by rfl) T.range (pa_cons pe_int (pa_cons pe_int pa_nil)))
            (blkOk_by (own := [("_law_level", 4)]) (N := ["_law_suits", "_law_text_here", "_law_strain", "_law_digits", "_law_level"]) (sc := defScope sMeant) (by decide +kernel))
            (fun _ _ _ _ _ => pg_name (i := 4) scMeant.nd rfl (Or.inl rfl)) (fun _ _ _ _ _ => pts_nil) (fun _ _ _ _ _ => pe_callTy call_str_int (by rfl) T.str (by decide +kernel) (pa_cons (pv 4) pa_nil))) (by rfl)))))) cond2_imp)
        (pss_one (ps_ret (pe_lst (pa_cons pe_int pa_nil)))) pss_nil)
      (pss_one (ps_ret (pe_tup (pa_cons pe_str (pa_cons (pe_callTy call_int_str (by rfl) T.int (by decide +kernel) (pa_cons (pv 3) pa_nil)) (pa_cons (pv 2) pa_nil))))))))), ?_⟩
    refine ⟨_, rfl, line_big (by decide), fun p0 n0 => ?_⟩
    have s0 := same_new (o := .tup [.str "P", .str "X", .str "XX"]) n0
    refine ⟨p0, _, rfl, .inr (SqT.of upd_same), rfl, rfl, _, rfl, ?_⟩
    show if inV (.str t) [.str "P", .str "X", .str "XX"] = true then _ else _
    rcases hits k t with ⟨j, c, hit⟩ | ⟨hno, hmean⟩
    · refine ifT hit.isIn ?_
      refine ⟨line_big (by decide), fun p1 n1 => ⟨line_big (by decide), fun p2 n2 => ⟨line_big (by decide), fun p3 n3 => ⟨line_big (show 3 ≤ 1000 by decide), fun p4 n4 => ⟨line_big (by decide), fun p5 n5 => ?_⟩⟩⟩⟩⟩
      have s1 := same_new (o := .tup [.str "pass"]) n1
      have s2 := same_new (o := .tup [.str "double"]) n2
      have s3 := same_new (o := .tup [.str "redouble"]) n3
      have s4 := same_new (o := .lst [.ref p1, .ref p2, .ref p3]) n4
      have s5 := same_new (o := .lst [.str "P", .str "X", .str "XX"]) n5
      obtain ⟨p, hp, hT⟩ := tups_at (K := K) (same_tup (((s2.trans s3).trans s4).trans s5) (SqT.of upd_same)) (same_tup ((s3.trans s4).trans s5) (SqT.of upd_same)) (same_tup (s4.trans s5) (SqT.of upd_same)) hit.tup
      refine ⟨.inl ⟨rfl, _, .inl (.inl upd_same)⟩, _, rfl, p5, _, .str t, j, .str t, rfl, rfl, SqL.of upd_same, rfl, rfl, hit.at_, (by show (t == t) = true; exact beq_self_eq_true t), hit.no, ?_⟩
      refine ⟨p4, _, _, .ref p, rfl, rfl, s5.seq (SqL.of upd_same), atI_nat hp, ?_⟩
      exact q _ _ (((((s0.trans s1).trans s2).trans s3).trans s4).trans s5) (by rw [hit.mean]; exact ⟨p, rfl, hT⟩)
    · refine ifF hno ?_
      have lc := len_cut k
      have ln : ("n" : Str).length = 1 := by rw [len_tl, tl_n]; rfl
      refine ⟨_, rfl, _, rfl, _, rfl, (by rw [len_tl, tl_cdhs]; exact line_big (by decide)), _, _, rfl, rfl, line_big (by omega), ⟨_, rfl⟩, _, rfl, _, rfl, _, rfl, t, rfl, line_big (Nat.le_trans ht.len (by decide)), _, _, rfl, rfl, ?_⟩
      have md := meant (k := k) (t := t) (sv := Txt.find (cutS ("cdhs" : Str) none (some k) ++ "n") (cutS t (some (-1)) none)) (fun c hc => by rw [find_one hc, tl_lets hk])
      generalize Txt.find (cutS ("cdhs" : Str) none (some k) ++ "n") (cutS t (some (-1)) none) = sv at md ⊢
      refine ⟨_, rfl, _, rfl, _, rfl, t, rfl, line_big (Nat.le_trans ht.len (by decide)), ?_⟩
      generalize cutS t none (some (-1)) = ds at md ⊢
      refine ⟨t, ds, sv, rfl, rfl, rfl, rfl, fun b H1 s1 hb hg => ?_⟩
      cases b with
      | true =>
        refine ifT rfl ⟨line_big (show 1 ≤ 1000 by decide), fun p np => ?_⟩
        exact q _ _ ((s0.trans s1).trans (same_new np)) (by rw [hmean, md.bad (hb rfl)]; exact ⟨p, rfl, SqL.of upd_same⟩)
      | false =>
        obtain ⟨⟨v, hv⟩, hsv⟩ := hg rfl
        obtain ⟨i1, i2⟩ := int_dig hv
        refine ifF rfl ⟨_, rfl, ds, v, rfl, i1, i2, _, rfl, line_big (show 3 ≤ 1000 by decide), fun p np => ?_⟩
        exact q _ _ ((s0.trans s1).trans (same_new np)) (by rw [hmean, md.good v hv hsv]; exact ⟨p, rfl, SqT.of upd_same⟩)
end
end K16

/-! K16, part G: _law_told. -/
namespace K16
open PySem L2 TL
abbrev rInt1 : List V → Hp → VK → Prop := fun xs H Q => (∃ i, xs = [.int i] ∧ Q (.int i) H) ∨ ∃ k, xs = [.bl k] ∧ Q (.int (if k then 1 else 0)) H
theorem pe_if {X : Cx} {e : Expr} {p : Prop} {t : TE} (h : p → PE X e t) : PE X e (fun σ H Q => p ∧ t σ H Q) := ⟨fun pins s σ H Q I q => (h q.1).run pins s σ H Q I q.2⟩
/-- the base class of the errors -/
structure TxtF (K : PySem.W.Frag) (mg : Str → Option Value) (CF CI : Addr) : Prop where
  gF : mg "FinesseError" = some (.ref CF)
  bF : PySem.W.subIn K (.ref CF) (.type "BaseException") = some true
  hF : PySem.W.hasDictIn K CF = true
  tF : PySem.W.typeIn K (.ref CF) = some (.type "type")
  sF : PySem.W.subIn K (.ref CI) (.ref CF) = some true
  excC : ExcC K CI
  kit : PySem.W.kitOne K (.ref CI) (.ref CI) = some true
/-- what the suite does with the error at a, of the class cls, its own dict d -/
def tSuite (K : PySem.W.Frag) (CI a : Addr) (cls : Value) (d : Option Addr) : TS := tRet (tLst (tCons (tCB rInt1 (tCons (fun σ H Q => (cls = .ref CI ∧ d = none) ∧ tCB (rIsE K CI a) (tCons (tVar 2) (tCons (tC (.ref CI)) tNil)) σ H Q) tNil)) tNil))
section
variable {P : Program} {w : World} {K : PySem.W.Frag} {mg : Str → Option Value} {base : Heap}
theorem scTold : FnScope ["_law_suits", "_law_text_here", "e"] ["_law_suits", "_law_text_here"] (defScope sTold) := ⟨rfl, rfl, rfl, by decide +kernel, rfl, by decide +kernel, by decide +kernel⟩
theorem ok_told {f fR : Addr} {fd fdR : FuncData} {Ta aP aX aR CI CF : Addr} (F : Fun K "_law_told" "_law_told" sTold f fd) (T : TxtA mg) (R : TxtR w K mg Ta aP aX aR CI) (B : TxtF K mg CF CI)
    (FR : Fun K "read_call" "read_call" sRead fR fdR) (bR : Binds K fdR ["suits", "text"] []) (mR : mg "read_call" = some (.ref fR)) : FnOk P w K mg base CX0 2 f fd ["_law_suits", "_law_text_here"] (spMeant K) := by
  have GR : FnOk P w K mg base (L2.CX P w) 1 fR fdR ["suits", "text"] (spRead K CI) := ok_read FR T R
  refine F.ok scTold (fun vs H Q E h => ?_) (fun cdv A outer s H vs Q E hr h => ?_)
  · obtain ⟨k, t, rfl, _⟩ := h
    rfl
  · obtain ⟨k, t, rfl, hk, ht, q⟩ := h
    refine ⟨_, pss_one (ps_try_as (i := 2) (tb := fun W => tRet (tCallS (spRead K CI) (WE W) (tCons (tVar 0) (tCons (tVar 1) tNil)))) (ts := tSuite K CI) (Wout := fun _ _ _ _ => False) rfl rfl scTold.nd rfl rfl ⟨rfl, by decide, Or.inl B.gF⟩ takes0
      (fun W pn xe tk _ => pss_one (ps_ret (by exact (pe_callS GR hr rfl mR FR.kp bR (fun σ => passAt tk σ) (by exact (pa_cons (pv 0) (pa_cons (pv 1) pa_nil)))))))
      (fun a oe cls d pn hz hf => pss_one (ps_ret (pe_lst (pa_cons (pe_callTy call_int1 (by rfl) T.int (by decide +kernel) (pa_cons (pe_if (fun z => by
        obtain ⟨rfl, rfl⟩ := z
        exact pe_callB (call_isE B.excC hz hf) (by rfl) T.isi (by decide +kernel) (pa_cons (pv 2) (pa_cons (pe_glob (v := .ref CI) (by rfl) R.gI rfl) pa_nil)))) pa_nil)) pa_nil))))), ?_⟩
    refine ⟨_, rfl, _, rfl, k, t, rfl, hk, ht, fun hm H' s' => ⟨true, PySem.W.exm_ref B.bF B.hF B.tF B.sF, fun _ a ha => ?_, fun z => by cases z⟩, fun c hm H' a s' hT => q H' (.ref a) s' (by rw [hm]; exact ⟨a, rfl, hT⟩)⟩
    refine ⟨⟨rfl, rfl⟩, _, rfl, .ref CI, .ref CI, true, rfl, fun u h => h, B.kit, .inr ⟨true, rfl, line_big (show 1 ≤ 1000 by decide), fun p np => ?_⟩⟩
    exact q _ _ (s'.trans (same_new np)) (by rw [hm]; exact ⟨p, rfl, SqL.of upd_same⟩)
end
end K16

/-! K16, part H: t[::-1] of a text; the law's three draws of a turn as readings of their own. -/
namespace K16
open PySem L2 TL PyProof.Rows
/-- t[::-1]: some text of the same signs, no longer -/
def tRevS (te : TE) : TE := fun σ H Q => te σ H fun x H1 => ∃ z, x = .str z ∧ z.length ≤ sizeLine ∧ ∀ y : Str, y.length ≤ z.length → (∀ c ∈ tl y, c ∈ tl z) → Q (.str y) H1
/-- a part of a slice that is always o -/
theorem part_is {X : Cx} {e : Option Expr} {t : L2.St → Hp → (Option Int → Hp → Prop) → Prop} {o : Option Int} (part : PO X e t) (always : ∀ (σ : L2.St) (H : Hp) (R : Option Int → Hp → Prop), R o H → t σ H R)
    {pins : List (Addr × Obj)} {σ : L2.St} {H : Hp} {s : Shared} {Z : Value → Shared → Prop} (I : Inv X pins σ H s) (z : ∀ u s', IsPart u o → Inv X pins σ H s' → Z u s') :
    wpAny (model X.prog X.w) X.A (evalPart e X.env) Z X.xe s :=
  thn (part.run pins s σ H (fun o' H' => o' = o ∧ H' = H) I (always σ H _ ⟨rfl, rfl⟩)) fun u s' got => by
    obtain ⟨o', H', J, pu, eo, eH⟩ := got
    rw [eo] at pu
    rw [eH] at J
    exact z u s' pu J
/-- the object that stands for ::-1 -/
theorem back_slice {X : Cx} {k : Nat} {p1 p2 p3 : Pos} {pins : List (Addr × Obj)} {σ : L2.St} {H : Hp} {s : Shared} {Z : Value → Shared → Prop} (I : Inv X pins σ H s)
    (z : ∀ a s' u, s'.heap.IsSlice a none none (some (-1, u)) → Inv X pins σ H s' → Z (.ref a) s') :
    wpAny (model X.prog X.w) X.A (eval (.Slice none none (some (.UnaryOp .USub (.Constant (.int 1) k p1) p2)) p3) X.env) Z X.xe s := by
  refine wpAny_Slice (part_is po_none (fun _ _ _ r => r) I fun vl s1 pl I1 => part_is po_none (fun _ _ _ r => r) I1 fun vu s2 pu I2 => part_is (o := some (-1)) (po_some (pe_un un_neg pe_int)) (fun _ _ _ r => ⟨1, rfl, -1, rfl, r⟩) I2 fun vs s3 ps I3 => ?_)
  cases pl
  cases pu
  cases ps with
  | int i u => exact z _ _ u ⟨_, Heap.get?_push_size _ rfl, rfl, rfl⟩ (I3.kept (t' := s3.toks) fun _ _ q => Heap.get?_push_of_some _ q)
/-- what [::-1] makes of a text: nothing new, nothing more -/
theorem back_text (z : Str) (u : Tok) : (⟨((slicePicked z none none (some (-1, u))).filterMap (z.cps[·]?)).toArray⟩ : Str).length ≤ z.length ∧ ∀ c ∈ tl (⟨((slicePicked z none none (some (-1, u))).filterMap (z.cps[·]?)).toArray⟩ : Str), c ∈ tl z := by
  constructor
  · show (List.filterMap _ (slicePicked z none none (some (-1, u)))).toArray.size ≤ z.length
    rw [List.size_toArray]
    exact Nat.le_trans (List.length_filterMap_le _ _) (PySem.sliceIndicesBy_le none none (-1) (by decide) z.length)
  · intro c hc
    have hc' : c ∈ (slicePicked z none none (some (-1, u))).filterMap (z.cps[·]?) := hc
    obtain ⟨j, _, e⟩ := List.mem_filterMap.mp hc'
    have e' : (tl z)[j]? = some c := by simpa using e
    exact List.mem_of_getElem? e'
theorem pe_revS {X : Cx} {e : Expr} {te : TE} {k : Nat} {p1 p2 p3 pos : Pos} (he : PE X e te) : PE X (.Subscript e (.Slice none none (some (.UnaryOp .USub (.Constant (.int 1) k p1) p2)) p3) pos) (tRevS te) := ⟨fun pins s σ H Q I h => Subscript_ (thn (he.run pins s σ H _ I h) fun v s1 got => by
  obtain ⟨x, H1, I1, r1, z, ex, hz, q⟩ := got
  subst ex
  obtain ⟨t, rfl⟩ := r1
  refine back_slice I1 fun a s2 u hs I2 => ?_
  refine tail_any (ops := [.str z t, .ref a]) (typeIs_str _ _ _) (PySem.F.slot_str_getitem.lookup) ?_ (by with_unfolding_all rfl)
  refine wpAny_getItem_str_slice (l := none) (u := none) (st := some (-1, u)) hs rfl ?_
  obtain ⟨hy1, hy2⟩ := back_text z u
  show Made.post (if ((-1 : Int) == 1 && (slicePicked z none none (some (-1, u))).length == z.length) = true then Made.val (.str z t) else Made.str ⟨((slicePicked z none none (some (-1, u))).filterMap (z.cps[·]?)).toArray⟩) (EP X pins σ Q) _
  rw [if_neg (by simp)]
  exact ⟨Nat.le_trans hy1 hz, .str _, H1, I2.tok _, ⟨_, rfl⟩, q _ hy1 hy2⟩)⟩
end K16

/-! K16, part I: the readings of a turn of the law. -/
namespace K16
open PySem L2 TL
theorem tup_next {K : PySem.W.Frag} {H : Hp} {p q a : Addr} {ms : List Int} {n : Int} {xs : List V} (h : PoolAt H p q ms n) (hT : SqT K H a xs) : SqT K (poolNext H p q n) a xs := by
  rcases hT with (e | ⟨o, e⟩) | e
  · have ne : a ≠ p := (ne_of h.1 e (by intro z; cases z)).symm
    exact .inl (.inl ((upd_ne ne).trans e))
  · have ne : a ≠ p := (ne_of h.1 e (by intro z; cases z)).symm
    exact .inl (.inr ⟨o, (upd_ne ne).trans e⟩)
  · exact .inr e
/-- what a pick's call reads -/
abbrev tPick (tm : TE) : TE := tCall spPick [] E0 (tCons (tVar 1) (tCons tm tNil))
theorem pick_run {tm : TE} {σ : St} {H H1 : Hp} {Q : VK} {p q : Addr} {ms : List Int} {n m : Int} (e1 : σ[1]? = some (some (.ref p))) (hm : ∀ R : VK, R (.int m) H1 → tm σ H R) (hp : PoolAt H1 p q ms n) (h0 : 0 ≤ n) (h1 : n < 1000) (hm0 : 0 < m)
    (h : ∀ k : Int, 0 ≤ k → k < m → Q (.int k) (poolNext H1 p q n)) : tPick tm σ H Q :=
  ⟨_, e1, hm _ ⟨p, q, ms, n, m, rfl, hp, h0, h1, hm0, h⟩⟩
/-! ### 1 + pick(pool, 4) -/
def tSuits : TE := fun σ H Q => ∃ (p q : Addr) (ms : List Int) (n : Int), σ[1]? = some (some (.ref p)) ∧ PoolAt H p q ms n ∧ 0 ≤ n ∧ n < 900 ∧ ∀ k : Int, OkK k → PoolAt (poolNext H p q n) p q ms (n + 1) → Q (.int k) (poolNext H p q n)
theorem suits_imp : ∀ σ H Q, tSuits σ H Q → tOp (rI0 fun i j => .int (i + j)) (tC (.int 1)) (tPick (tC (.int 4))) σ H Q := by
  intro σ H Q ⟨p, q, ms, n, e1, hp, h0, h1, h⟩
  refine pick_run (m := 4) e1 (fun R r => r) hp h0 (by omega) (by decide) fun k k0 k1 => ?_
  exact ⟨_, _, rfl, rfl, h _ ⟨by omega, by omega⟩ hp.next⟩
/-! ### the call -/
abbrev tTup1 (x : Str) : TE := tTup (tCons (tC (.str x)) tNil)
abbrev tPlus (a b : TE) : TE := tOp (rI0 fun i j => .int (i + j)) a b
def tCallPick (K : PySem.W.Frag) : TE := fun σ H Q => ∃ (p q : Addr) (ms : List Int) (n k : Int), σ[1]? = some (some (.ref p)) ∧ σ[3]? = some (some (.int k)) ∧ OkK k ∧ PoolAt H p q ms n ∧ 0 ≤ n ∧ n < 900 ∧
  ∀ (H' : Hp) (a : Addr) (c : Call), PoolAt H' p q ms (n + 4) → SqT K H' a (callV c) → OkC k c → Q (.ref a) H'
abbrev rMin2 : List V → Hp → VK → Prop := fun xs H Q => ∃ i j, xs = [.int i, .int j] ∧ Q (.int (if j < i then j else i)) H
theorem callPick_imp {K : PySem.W.Frag} : ∀ σ H Q, tCallPick K σ H Q → tOp (rIxL K)
    (tLst (tCons (tTup1 "pass") (tCons (tTup1 "double") (tCons (tTup1 "redouble") (tCons (tTup (tCons (tC (.str "bid")) (tCons (tPlus (tC (.int 1)) (tPick (tOp (rIxL K) (tLst (tCons (tC (.int 99)) (tCons (tC (.int 7)) tNil))) (tPick (tC (.int 2)))))) (tCons (tPick (tPlus (tVar 3) (tC (.int 1)))) tNil)))) tNil)))))
    (tCB rMin2 (tCons (tC (.int 3)) (tCons (tPick (tC (.int 8))) tNil))) σ H Q := by
  intro σ H Q ⟨p, q, ms, n, k, e1, e3, hk, hp, h0, h1, h⟩
  refine ⟨line_big (by decide), fun p1 n1 => ⟨line_big (by decide), fun p2 n2 => ⟨line_big (by decide), fun p3 n3 => ?_⟩⟩⟩
  have s1 := same_new (o := .tup [.str "pass"]) n1
  have s2 := same_new (o := .tup [.str "double"]) n2
  have s3 := same_new (o := .tup [.str "redouble"]) n3
  have T1 : SqT K (upd (upd (upd H p1 (.tup [.str "pass"])) p2 (.tup [.str "double"])) p3 (.tup [.str "redouble"])) p1 [.str "pass"] := same_tup (s2.trans s3) (SqT.of upd_same)
  have T2 : SqT K (upd (upd (upd H p1 (.tup [.str "pass"])) p2 (.tup [.str "double"])) p3 (.tup [.str "redouble"])) p2 [.str "double"] := same_tup s3 (SqT.of upd_same)
  have T3 : SqT K (upd (upd (upd H p1 (.tup [.str "pass"])) p2 (.tup [.str "double"])) p3 (.tup [.str "redouble"])) p3 [.str "redouble"] := SqT.of upd_same
  have P3 := hp.same ((s1.trans s2).trans s3)
  generalize upd (upd (upd H p1 (.tup [.str "pass"])) p2 (.tup [.str "double"])) p3 (.tup [.str "redouble"]) = H3 at T1 T2 T3 P3 ⊢
  -- the level
  refine ⟨_, e1, line_big (show 2 ≤ 1000 by decide), fun p4 n4 => ?_⟩
  have s4 := same_new (o := .lst [.int 99, .int 7]) n4
  have P4 := P3.same s4
  refine pick_run (m := 2) e1 (fun R r => r) P4 h0 (by omega) (by decide) fun j j0 j1 => ?_
  have P5 := P4.next
  have ne4 : p4 ≠ p := (ne_of_none P3.1 n4).symm
  obtain ⟨m, hm, hm0, hm1⟩ : ∃ m : Int, atI ([.int 99, .int 7] : List V) j = some (.int m) ∧ 0 < m ∧ m ≤ 99 := by
    have : j = 0 ∨ j = 1 := by omega
    rcases this with rfl | rfl
    · exact ⟨99, rfl, by decide, by decide⟩
    · exact ⟨7, rfl, by decide, by decide⟩
  refine ⟨p4, _, _, .int m, rfl, rfl, SqL.of ((upd_ne ne4).trans upd_same), hm, p, q, ms, n + 1, m, rfl, P5, by omega, by omega, hm0, fun l l0 l1 => ?_⟩
  have T1' := tup_next P5 (tup_next P4 (same_tup s4 T1))
  have T2' := tup_next P5 (tup_next P4 (same_tup s4 T2))
  have T3' := tup_next P5 (tup_next P4 (same_tup s4 T3))
  have P6 := P5.next
  generalize poolNext (poolNext (upd H3 p4 (.lst [.int 99, .int 7])) p q n) p q (n + 1) = H6 at T1' T2' T3' P6 ⊢
  refine ⟨_, _, rfl, rfl, ?_⟩
  -- the strain
  refine pick_run (m := k + 1) e1 (fun R r => ⟨_, e3, _, _, rfl, rfl, r⟩) P6 (by omega) (by omega) (by have := hk.lo; omega) fun sn sn0 sn1 => ?_
  have P7 := P6.next
  refine ⟨line_big (show 3 ≤ 1000 by decide), fun p5 n5 => ⟨line_big (show 4 ≤ 1000 by decide), fun p6 n6 => ?_⟩⟩
  have s5 := same_new (o := .tup [.str "bid", .int (1 + l), .int sn]) n5
  have s6 := same_new (o := .lst [.ref p1, .ref p2, .ref p3, .ref p5]) n6
  have T1'' := same_tup (s5.trans s6) (tup_next P6 T1')
  have T2'' := same_tup (s5.trans s6) (tup_next P6 T2')
  have T3'' := same_tup (s5.trans s6) (tup_next P6 T3')
  have T5 : SqT K _ p5 [.str "bid", .int (1 + l), .int sn] := same_tup (K := K) s6 (SqT.of upd_same)
  have P8 := P7.same (s5.trans s6)
  have hL : upd (upd (poolNext H6 p q (n + 1 + 1)) p5 (.tup [.str "bid", .int (1 + l), .int sn])) p6 (.lst [.ref p1, .ref p2, .ref p3, .ref p5]) p6 = some (.lst [.ref p1, .ref p2, .ref p3, .ref p5]) := upd_same
  have ne6 : p6 ≠ p := (ne_of_none (s5 _ _ P7.1) n6).symm
  generalize upd (upd (poolNext H6 p q (n + 1 + 1)) p5 (.tup [.str "bid", .int (1 + l), .int sn])) p6 (.lst [.ref p1, .ref p2, .ref p3, .ref p5]) = H8 at T1'' T2'' T3'' T5 P8 hL ⊢
  -- the place
  refine pick_run (m := 8) e1 (fun R r => r) P8 (by omega) (by omega) (by decide) fun r r0 r1 => ?_
  have P9 := P8.next
  have hn : n + 1 + 1 + 1 + 1 = n + 4 := by omega
  rw [hn] at P9
  have hL9 : SqL K (poolNext H8 p q (n + 1 + 1 + 1)) p6 [.ref p1, .ref p2, .ref p3, .ref p5] := SqL.of ((upd_ne ne6).trans hL)
  have T1e := tup_next P8 T1''
  have T2e := tup_next P8 T2''
  have T3e := tup_next P8 T3''
  have T5e := tup_next P8 T5
  generalize poolNext H8 p q (n + 1 + 1 + 1) = H9 at T1e T2e T3e T5e P9 hL9 ⊢
  have hi : (if r < 3 then r else 3) = 0 ∨ (if r < 3 then r else 3) = 1 ∨ (if r < 3 then r else 3) = 2 ∨ (if r < 3 then r else 3) = 3 := by
    split <;> omega
  refine ⟨3, r, rfl, ?_⟩
  generalize (if r < 3 then r else 3) = i at hi ⊢
  rcases hi with rfl | rfl | rfl | rfl
  · exact ⟨p6, _, _, .ref p1, rfl, rfl, hL9, rfl, h H9 p1 .pass P9 T1e trivial⟩
  · exact ⟨p6, _, _, .ref p2, rfl, rfl, hL9, rfl, h H9 p2 .dbl P9 T2e trivial⟩
  · exact ⟨p6, _, _, .ref p3, rfl, rfl, hL9, rfl, h H9 p3 .rdbl P9 T3e trivial⟩
  · exact ⟨p6, _, _, .ref p5, rfl, rfl, hL9, rfl, h H9 p5 (.bid (1 + l) sn) P9 T5e ⟨by omega, by omega, sn0, by omega⟩⟩
end K16

/-! K16, part J: the changed text, the comparisons, the law. -/
namespace K16
open PySem L2 TL
/-- a short text of plain signs -/
structure Sht (n : Nat) (t : Str) : Prop where
  len : t.length ≤ n
  low : ∀ c ∈ tl t, c < 1114112
theorem Sht.asc {n : Nat} {t : Str} (h : Sht n t) (hn : n ≤ 100) : Asc t := ⟨Nat.le_trans h.len hn, h.low⟩
theorem Sht.cut {n : Nat} {t : Str} (h : Sht n t) (a b : Option Int) : Sht n (cutS t a b) :=
  ⟨Nat.le_trans (cutS_length t a b) h.len, fun c hc => h.low c (by
    have hc' : c ∈ ((tl t).drop (HT.sIx t.length 0 a)).take (HT.sIx t.length t.length b - HT.sIx t.length 0 a) := hc
    exact List.mem_of_mem_drop (List.mem_of_mem_take hc'))⟩
theorem len_app (x y : Str) : (x ++ y).length = x.length + y.length := by rw [len_tl, len_tl x, len_tl y, tl_append, List.length_append]
theorem Sht.app {n m : Nat} {x y : Str} (h : Sht n x) (g : Sht m y) : Sht (n + m) (x ++ y) :=
  ⟨by rw [len_app]; exact Nat.add_le_add h.len g.len, fun c hc => by
    rw [tl_append] at hc
    rcases List.mem_append.mp hc with z | z
    · exact h.low c z
    · exact g.low c z⟩
theorem Sht.line {n : Nat} {t : Str} (h : Sht n t) (hn : n ≤ 1000) : t.length ≤ sizeLine := line_big (Nat.le_trans h.len hn)
theorem Sht.cat {n m : Nat} {x y : Str} (h : Sht n x) (g : Sht m y) (hn : n + m ≤ 1000) : x.length + y.length ≤ sizeLine := line_big (Nat.le_trans (Nat.add_le_add h.len g.len) hn)
theorem Sht.mono {n m : Nat} {t : Str} (h : Sht n t) (hn : n ≤ m) : Sht m t := ⟨Nat.le_trans h.len hn, h.low⟩
theorem sht_text {k : Int} {c : Call} (hk : OkK k) (hc : OkC k c) : Sht 3 (textOf k c) := by
  cases c with
  | pass =>
    show Sht 3 ("P" : Str)
    exact ⟨by decide +kernel, by decide +kernel⟩
  | dbl =>
    show Sht 3 ("X" : Str)
    exact ⟨by decide +kernel, by decide +kernel⟩
  | rdbl =>
    show Sht 3 ("XX" : Str)
    exact ⟨by decide +kernel, by decide +kernel⟩
  | bid l s =>
    obtain ⟨h1, h2, h3, h4⟩ := hc
    have a1 : Sht 2 (Str.ofString (toString l)) := ⟨len_level h1 h2, fun c hc => by
      obtain ⟨n, rfl⟩ : ∃ n : Nat, l = (n : Int) := ⟨l.toNat, by omega⟩
      rw [tl_toString] at hc
      rcases Nat.lt_or_ge 57 c with z | z
      · exact absurd hc (numL_free (.inr z))
      · omega⟩
    have a2 : Sht 1 (⟨#[letter k s]⟩ : Str) := ⟨Nat.le_refl 1, fun c hc => by
      have : c = letter k s := by simpa using hc
      have := letter_asc (s := s) hk
      omega⟩
    exact a1.app a2
/-! ### the changed text -/
abbrev tCat (a b : TE) : TE := tOp (fun x y H Q => ∃ i j, x = .str i ∧ y = .str j ∧ i.length + j.length ≤ sizeLine ∧ Q (.str (i ++ j)) H) a b
abbrev tTo : TE := tSl rSlS (tVar 5) tNoPart (tPart (tVar 6))
abbrev tFrom : TE := tSl rSlS (tVar 5) (tPart (tVar 6)) tNoPart
abbrev tFrom1 : TE := tSl rSlS (tVar 5) (tPart (tPlus (tVar 6) (tC (.int 1)))) tNoPart
def tMut (K : PySem.W.Frag) : TE := fun σ H Q => ∃ (p q : Addr) (ms : List Int) (n i : Int) (t x : Str), σ[1]? = some (some (.ref p)) ∧ σ[5]? = some (some (.str t)) ∧ σ[6]? = some (some (.int i)) ∧ σ[7]? = some (some (.str x)) ∧
  Sht 3 t ∧ Sht 1 x ∧ PoolAt H p q ms n ∧ 0 ≤ n ∧ n < 900 ∧ ∀ (H' : Hp) (t' : Str), PoolAt H' p q ms (n + 1) → Asc t' → Q (.str t') H'
theorem mut_imp {K : PySem.W.Frag} : ∀ σ H Q, tMut K σ H Q → tOp (rIxL K)
    (tLst (tCons (tCat (tCat tTo (tVar 7)) tFrom) (tCons (tCat tTo tFrom1) (tCons (tCat (tCat tTo (tVar 7)) tFrom1) (tCons (tVar 7) (tCons (tCat (tVar 7) (tRevS (tVar 5))) tNil))))))
    (tPick (tC (.int 5))) σ H Q := by
  intro σ H Q ⟨p, q, ms, n, i, t, x, e1, e5, e6, e7, ht, hx, hp, h0, h1, h⟩
  have l0 := ht.line (by decide)
  have c1 := ht.cut none (some i)
  have c2 := ht.cut (some i) none
  have c3 := ht.cut (some (i + 1)) none
  have d1 := (c1.app hx).app c2
  have d2 := c1.app c3
  have d3 := (c1.app hx).app c3
  -- the first
  refine ⟨_, e5, _, e6, _, rfl, t, rfl, l0, _, e7, _, _, rfl, rfl, c1.cat hx (by decide), _, e5, _, e6, _, rfl, t, rfl, l0, _, _, rfl, rfl, (c1.app hx).cat c2 (by decide), ?_⟩
  -- the second
  refine ⟨_, e5, _, e6, _, rfl, t, rfl, l0, _, e5, _, e6, _, _, rfl, rfl, _, rfl, t, rfl, l0, _, _, rfl, rfl, c1.cat c3 (by decide), ?_⟩
  -- the third
  refine ⟨_, e5, _, e6, _, rfl, t, rfl, l0, _, e7, _, _, rfl, rfl, c1.cat hx (by decide), _, e5, _, e6, _, _, rfl, rfl, _, rfl, t, rfl, l0, _, _, rfl, rfl, (c1.app hx).cat c3 (by decide), ?_⟩
  -- the fourth, the fifth
  refine ⟨_, e7, _, e7, _, e5, t, rfl, l0, fun y hy1 hy2 => ?_⟩
  have hy : Sht 3 y := ⟨Nat.le_trans hy1 ht.len, fun c hc => ht.low c (hy2 c hc)⟩
  have d5 := hx.app hy
  refine ⟨_, _, rfl, rfl, hx.cat hy (by decide), line_big (show 5 ≤ 1000 by decide), fun P np => ?_⟩
  have s1 := same_new (o := .lst [.str (cutS t none (some i) ++ x ++ cutS t (some i) none), .str (cutS t none (some i) ++ cutS t (some (i + 1)) none), .str (cutS t none (some i) ++ x ++ cutS t (some (i + 1)) none), .str x, .str (x ++ y)]) np
  have P1 := hp.same s1
  have ne : P ≠ p := (ne_of_none hp.1 np).symm
  have hP : upd H P (.lst [.str (cutS t none (some i) ++ x ++ cutS t (some i) none), .str (cutS t none (some i) ++ cutS t (some (i + 1)) none), .str (cutS t none (some i) ++ x ++ cutS t (some (i + 1)) none), .str x, .str (x ++ y)]) P =
    some (.lst [.str (cutS t none (some i) ++ x ++ cutS t (some i) none), .str (cutS t none (some i) ++ cutS t (some (i + 1)) none), .str (cutS t none (some i) ++ x ++ cutS t (some (i + 1)) none), .str x, .str (x ++ y)]) := upd_same
  generalize upd H P (.lst [.str (cutS t none (some i) ++ x ++ cutS t (some i) none), .str (cutS t none (some i) ++ cutS t (some (i + 1)) none), .str (cutS t none (some i) ++ x ++ cutS t (some (i + 1)) none), .str x, .str (x ++ y)]) = H1 at P1 hP ⊢
  refine pick_run (m := 5) e1 (fun R r => r) P1 h0 (by omega) (by decide) fun k k0 k1 => ?_
  have hL := SqL.of (K := K) (show poolNext H1 p q n P = some _ from (upd_ne ne).trans hP)
  have P2 := P1.next
  have : k = 0 ∨ k = 1 ∨ k = 2 ∨ k = 3 ∨ k = 4 := by omega
  rcases this with rfl | rfl | rfl | rfl | rfl
  · exact ⟨P, _, _, _, rfl, rfl, hL, rfl, h _ _ P2 (d1.asc (by decide))⟩
  · exact ⟨P, _, _, _, rfl, rfl, hL, rfl, h _ _ P2 (d2.asc (by decide))⟩
  · exact ⟨P, _, _, _, rfl, rfl, hL, rfl, h _ _ P2 (d3.asc (by decide))⟩
  · exact ⟨P, _, _, _, rfl, rfl, hL, rfl, h _ _ P2 (hx.asc (by decide))⟩
  · exact ⟨P, _, _, _, rfl, rfl, hL, rfl, h _ _ P2 (d5.asc (by decide))⟩
end K16

/-! K16, part L: the comparisons, the law. -/
namespace K16
open PySem L2 TL
/-! ### results compared -/
theorem IsRes.same {K : PySem.W.Frag} {H H' : Hp} {v : V} {r : Option Call} (e : Same H H') (h : IsRes K H v r) : IsRes K H' v r := by
  cases r with
  | none =>
    obtain ⟨a, rfl, h⟩ := h
    exact ⟨a, rfl, e.seq h⟩
  | some c =>
    obtain ⟨a, rfl, h⟩ := h
    exact ⟨a, rfl, same_tup e h⟩
theorem call_dp {K : PySem.W.Frag} {H : Hp} (c : Call) : DpAll K H (callV c) (callD c) := by
  cases c with
  | pass => exact .cons (.str _) .nil
  | dbl => exact .cons (.str _) .nil
  | rdbl => exact .cons (.str _) .nil
  | bid l s => exact .cons (.str _) (.cons (.int _) (.cons (.int _) .nil))
theorem IsRes.dp {K : PySem.W.Frag} {H : Hp} {v : V} {r : Option Call} (h : IsRes K H v r) : Dp K H v (resD r) := by
  cases r with
  | none =>
    obtain ⟨a, rfl, h⟩ := h
    exact .lst h (.cons (.int _) .nil)
  | some c =>
    obtain ⟨a, rfl, h⟩ := h
    exact .tup h (call_dp c)
theorem res_lay (r : Option Call) : (resD r).canLay0 = true := by
  cases r with
  | none => rfl
  | some c =>
    cases c with
    | pass => decide +kernel
    | dbl => decide +kernel
    | rdbl => decide +kernel
    | bid l s =>
      show (PyData.canLay0 (.str "bid") && (true && (true && true))) = true
      decide +kernel
theorem res_shaped (r : Option Call) : SeqAt.shaped (resD r) = true := by
  unfold SeqAt.shaped
  rw [res_lay, Bool.true_and]
  refine decide_eq_true ?_
  cases r with
  | none =>
    show (1 : Nat) ≤ 64
    decide
  | some c =>
    cases c with
    | pass =>
      show (1 : Nat) ≤ 64
      decide
    | dbl =>
      show (1 : Nat) ≤ 64
      decide
    | rdbl =>
      show (1 : Nat) ≤ 64
      decide
    | bid l s =>
      show (1 : Nat) ≤ 64
      decide
theorem res_eqv (r : Option Call) : PyData.eqv (resD r) (resD r) = true := PySem.SeqAt.eqv_refl _ (res_lay r)
abbrev tTold (K : PySem.W.Frag) : TE := tCall (spMeant K) [] E0 (tCons (tVar 3) (tCons (tVar 5) tNil))
/-- told(suits, text) != call, where the text is the call's own -/
def tNeCall (K : PySem.W.Frag) : TT := fun σ H Q => ∃ (k : Int) (a : Addr) (c : Call), σ[3]? = some (some (.int k)) ∧ σ[4]? = some (some (.ref a)) ∧ σ[5]? = some (some (.str (textOf k c))) ∧ OkK k ∧ OkC k c ∧ SqT K H a (callV c) ∧ ∀ H', Same H H' → Q false H'
theorem neCall_imp {K : PySem.W.Frag} : ∀ σ H Q, tNeCall K σ H Q → tTest (tOp (rNeD K) (tTold K) (tVar 4)) σ H Q := by
  intro σ H Q ⟨k, a, c, e3, e4, e5, hk, hc, hT, q⟩
  refine ⟨_, e3, _, e5, k, _, rfl, hk, (sht_text hk hc).asc (by decide), fun H' v s hr => ?_⟩
  rw [mean_text hk hc] at hr
  have h2 : IsRes K H' (.ref a) (some c) := ⟨a, rfl, same_tup s hT⟩
  refine ⟨_, e4, _, _, hr.dp, h2.dp, res_shaped _, res_shaped _, _, rfl, ?_⟩
  rw [res_eqv]
  exact q H' s
/-- told(suits, text) != meant(suits, text) -/
def tNeMeant : TT := fun σ H Q => ∃ (k : Int) (t : Str), σ[3]? = some (some (.int k)) ∧ σ[5]? = some (some (.str t)) ∧ OkK k ∧ Asc t ∧ ∀ H', Same H H' → Q false H'
theorem neMeant_imp {K : PySem.W.Frag} : ∀ σ H Q, tNeMeant σ H Q → tTest (tOp (rNeD K) (tTold K) (tTold K)) σ H Q := by
  intro σ H Q ⟨k, t, e3, e5, hk, ht, q⟩
  refine ⟨_, e3, _, e5, k, _, rfl, hk, ht, fun H1 v1 s1 r1 => ⟨_, e3, _, e5, k, _, rfl, hk, ht, fun H2 v2 s2 r2 => ?_⟩⟩
  refine ⟨_, _, (r1.same s2).dp, r2.dp, res_shaped _, res_shaped _, _, rfl, ?_⟩
  rw [res_eqv]
  exact q H2 (s1.trans s2)
/-! ### the call's own text -/
theorem ps_imp {X : Cx} {st : Stmt} {t t' : TS} (h : PS X st t) (i : ∀ D σ H, t' D σ H → t D σ H) : PS X st t' := ⟨fun pins s σ H D I q => h.run pins s σ H D I (i D σ H q)⟩
def tOwnText (K : PySem.W.Frag) : TS := fun D σ H => ∃ (x0 x1 x2 x5 x6 x7 : Option V) (k : Int) (a : Addr) (c : Call), σ = [x0, x1, x2, some (.int k), some (.ref a), x5, x6, x7] ∧ OkK k ∧ OkC k c ∧ SqT K H a (callV c) ∧
  ∀ H', Same H H' → D.nx [x0, x1, x2, some (.int k), some (.ref a), some (.str (textOf k c)), x6, x7] H'
abbrev tIx (K : PySem.W.Frag) (i : Int) : TE := tOp (rIxT K) (tVar 4) (tC (.int i))
theorem ownText_imp {K : PySem.W.Frag} : ∀ D σ H, tOwnText K D σ H → tIfS (tAnd (tTest (tOp rEq (tIx K 0) (tC (.str "bid")))) (tTest (tOp (rI0 fun i j => .bl (decide (j < i))) (tIx K 1) (tC (.int 7)))))
    (tAsg (tCat (tCB rStrI (tCons (tIx K 1) tNil)) (tOp rIxS (tCat (tSl rSlS (tC (.str "cdhs")) tNoPart (tPart (tVar 3))) (tC (.str "n"))) (tIx K 2))) (gName 5))
    (tSeq (tAsg (tCall (spCallText K) [] E0 (tCons (tVar 3) (tCons (tVar 4) tNil))) (gName 5))
      (tIfS (tNot (tB (tCall spText [] E0 (tCons (tCall (spCallText K) [] E0 (tCons (tVar 3) (tCons (tVar 4) tNil))) (tCons (tVar 5) tNil))))) (tRet (tC (.bl false))) tNext)) D σ H := by
  intro D σ H ⟨x0, x1, x2, x5, x6, x7, k, a, c, e, hk, hc, hT, q⟩
  subst e
  -- the law's other road
  have other : (tSeq (tAsg (tCall (spCallText K) [] E0 (tCons (tVar 3) (tCons (tVar 4) tNil))) (gName 5))
      (tIfS (tNot (tB (tCall spText [] E0 (tCons (tCall (spCallText K) [] E0 (tCons (tVar 3) (tCons (tVar 4) tNil))) (tCons (tVar 5) tNil))))) (tRet (tC (.bl false))) tNext)) D [x0, x1, x2, some (.int k), some (.ref a), x5, x6, x7] H := by
    refine ⟨_, rfl, _, rfl, k, a, c, rfl, hk, hc, hT, fun H1 s1 => ?_⟩
    refine ⟨_, rfl, _, rfl, k, a, c, rfl, hk, hc, same_tup s1 hT, fun H2 s2 => ?_⟩
    exact ⟨_, rfl, _, rfl, true, rfl, q H2 (s1.trans s2)⟩
  have hd : (∃ x, callV c = [.str x] ∧ ¬ (V.str x = V.str "bid")) ∨ ∃ l s, c = .bid l s := by
    cases c with
    | pass => exact .inl ⟨_, rfl, by decide +kernel⟩
    | dbl => exact .inl ⟨_, rfl, by decide +kernel⟩
    | rdbl => exact .inl ⟨_, rfl, by decide +kernel⟩
    | bid l s => exact .inr ⟨l, s, rfl⟩
  rcases hd with ⟨x, ec, nb⟩ | ⟨l, s, rfl⟩
  · rw [ec] at hT
    refine ⟨_, rfl, a, _, _, _, rfl, rfl, hT, rfl, rfl, _, rfl, ?_⟩
    rw [deF nb]
    exact ifF rfl (ifF rfl other)
  · obtain ⟨h1, h2, h3, h4⟩ := hc
    refine ⟨_, rfl, a, _, _, _, rfl, rfl, hT, rfl, rfl, _, rfl, ?_⟩
    rw [deT (p := V.str ("bid" : Str) = V.str "bid") rfl]
    refine ifT rfl ⟨_, rfl, a, _, _, _, rfl, rfl, hT, rfl, _, _, rfl, rfl, _, rfl, ite2 (fun h7 => ?_) (fun h7 => other)⟩
    have ll := len_level h1 h2
    have lc := len_cut k
    have ln : ("n" : Str).length = 1 := by rw [len_tl, tl_n]; rfl
    refine ⟨_, rfl, a, _, _, _, rfl, rfl, hT, rfl, l, rfl, level_small h1 h2, ?_⟩
    refine ⟨_, rfl, _, rfl, _, rfl, (by rw [len_tl, tl_cdhs]; exact line_big (by decide)), _, _, rfl, rfl, line_big (by omega), ?_⟩
    refine ⟨_, rfl, a, _, _, _, rfl, rfl, hT, rfl, _, _, letter k s, rfl, rfl, ?_, ?_, _, _, rfl, rfl, ?_, q H (Same.refl H)⟩
    · rw [len_tl, tl_lets hk]
      exact line_big (by unfold lets pref; simp; omega)
    · rw [show (cutS ("cdhs" : Str) none (some k) ++ "n").cps.toList = lets k from tl_lets hk]
      exact (letter_at hk h3 h4).1
    · exact line_big (by show _ + 1 ≤ 1000; omega)
end K16

/-! K16, part M: the law's def. -/
namespace K16
open PySem L2 TL
def spLaw (K : PySem.W.Frag) : Sp := fun vs H Q _ => ∃ (a : Addr) (ns : List Int), vs = [.ref a] ∧ SqL K H a (ns.map V.int) ∧ ns.length ≤ 63 ∧ ∀ H', Q (.bl true) H'
/-- a def that stands behind the top and keeps its promise -/
structure Has (P : Program) (w : World) (K : PySem.W.Frag) (mg : Str → Option Value) (base : Heap) (k : Nat) (x : Str) (ps : List Str) (sp : Sp) : Prop where
  ex : ∃ (f : Addr) (fd : FuncData), FnOk P w K mg base CX0 k f fd ps sp ∧ Binds K fd ps [] ∧ mg x = some (.ref f) ∧ PySem.W.keepIn K (.ref f) = true
/-- the signs that the law puts in -/
theorem tl_signs : tl ("0179cdhsnNPXp -" : Str) = [48, 49, 55, 57, 99, 100, 104, 115, 110, 78, 80, 88, 112, 32, 45] := by decide +kernel
theorem sign_at {j : Int} (h0 : 0 ≤ j) (h1 : j < 15) : ∃ c : Nat, atI (tl ("0179cdhsnNPXp -" : Str)) j = some c ∧ c < 1114112 := by
  rw [tl_signs]
  have : j = 0 ∨ j = 1 ∨ j = 2 ∨ j = 3 ∨ j = 4 ∨ j = 5 ∨ j = 6 ∨ j = 7 ∨ j = 8 ∨ j = 9 ∨ j = 10 ∨ j = 11 ∨ j = 12 ∨ j = 13 ∨ j = 14 := by omega
  rcases this with rfl | rfl | rfl | rfl | rfl | rfl | rfl | rfl | rfl | rfl | rfl | rfl | rfl | rfl | rfl <;> exact ⟨_, rfl, by decide⟩
theorem sht_one {c : Nat} (h : c < 1114112) : Sht 1 (⟨#[c]⟩ : Str) := ⟨Nat.le_refl 1, fun d hd => by
  have : d = c := by simpa using hd
  omega⟩
theorem tl_empty : tl ("" : Str) = [] := by decide +kernel
theorem mean_empty (k : Int) : mean k "" = none := by
  unfold mean
  rw [if_neg (by decide +kernel), if_neg (by decide +kernel), if_neg (by decide +kernel), tl_empty]
  rfl
theorem asc_empty : Asc ("" : Str) := ⟨by rw [len_tl, tl_empty]; decide, fun c hc => by
  rw [tl_empty] at hc
  cases hc⟩
section
variable {P : Program} {w : World} {K : PySem.W.Frag} {mg : Str → Option Value} {base : Heap}
theorem scLaw : FnScope ["_law_script", "_law_pool_here", "_law_turn", "_law_suits", "_law_call", "_law_text_here", "_law_at", "_law_sign"] ["_law_script"] (defScope sLaw) := ⟨rfl, rfl, rfl, by decide +kernel, rfl, by decide +kernel, by decide +kernel⟩
theorem ok_law {f : Addr} {fd : FuncData} (F : Fun K "law" "law" sLaw f fd) (T : TxtA mg) (hP : Has P w K mg base 2 "_law_pool" ["_law_script"] (spPool K)) (hK : Has P w K mg base 1 "_law_pick" ["_law_pool_here", "_law_many"] spPick)
    (hC : Has P w K mg base 1 "call_text" ["suits", "call"] (spCallText K)) (hL : Has P w K mg base 1 "_law_call_text" ["_law_suits", "_law_call"] (spCallText K)) (hX : Has P w K mg base 1 "_law_text" ["_law_actual", "_law_due"] spText)
    (hT : Has P w K mg base 2 "_law_told" ["_law_suits", "_law_text_here"] (spMeant K)) (hM : Has P w K mg base 1 "_law_meant" ["_law_suits", "_law_text_here"] (spMeant K)) : FnOk P w K mg base CX0 3 f fd ["_law_script"] (spLaw K) := by
  obtain ⟨fP, fdP, GP, bP, mP, kP⟩ := hP.ex
  obtain ⟨fK, fdK, GK, bK, mK, kK⟩ := hK.ex
  obtain ⟨fC, fdC, GC, bC, mC, kC⟩ := hC.ex
  obtain ⟨fL, fdL, GL, bL, mL, kL⟩ := hL.ex
  obtain ⟨fX, fdX, GX, bX, mX, kX⟩ := hX.ex
  obtain ⟨fT, fdT, GT, bT, mT, kT⟩ := hT.ex
  obtain ⟨fM, fdM, GM, bM, mM, kM⟩ := hM.ex
  refine F.ok scLaw (fun vs H Q E h => ?_) (fun cdv A outer s H vs Q E hr h => ?_)
  · obtain ⟨a, ns, rfl, _⟩ := h
    rfl
  · obtain ⟨a, ns, rfl, hS, hlen, q⟩ := h
    have hr1 : Room 1 _ := hr.mono (by decide)
    refine ⟨_, pss_cons (ps_set (i := 1) scLaw.nd rfl (Or.inl rfl) (pe_call GP hr rfl mP kP bP .nil pass0 (pa_cons (pv 0) pa_nil)))
      (pss_cons (ps_for PassesOwn.never rfl (pi_range1 (by rfl) T.range (pa_cons pe_int pa_nil)) (pg_name (i := 2) scLaw.nd rfl (Or.inl rfl))
        (pss_cons (ps_set (i := 3) scLaw.nd rfl (Or.inl rfl) (pe_imp (t' := tSuits) (pe_op op_add pe_int (pe_call GK hr1 rfl mK kK bK .nil pass0 (pa_cons (pv 1) (pa_cons pe_int pa_nil)))) suits_imp))
        (pss_cons (ps_set (i := 4) scLaw.nd rfl (Or.inl rfl) (pe_imp (t' := tCallPick K) (pe_ix ix_list (pe_lst (pa_cons (pe_tup (pa_cons pe_str pa_nil)) (pa_cons (pe_tup (pa_cons pe_str pa_nil)) (pa_cons (pe_tup (pa_cons pe_str pa_nil)) (pa_cons
            (pe_tup (pa_cons pe_str (pa_cons (pe_op op_add pe_int (pe_call GK hr1 rfl mK kK bK .nil pass0 (pa_cons (pv 1) (pa_cons (pe_ix ix_list (pe_lst (pa_cons pe_int (pa_cons pe_int pa_nil))) (pe_call GK hr1 rfl mK kK bK .nil pass0 (pa_cons (pv 1) (pa_cons pe_int pa_nil))) (fun _ _ => rfl)) pa_nil))))
              (pa_cons (pe_call GK hr1 rfl mK kK bK .nil pass0 (pa_cons (pv 1) (pa_cons (pe_op op_add (pv 3) pe_int) pa_nil))) pa_nil)))) pa_nil)))))
            (pe_callB (call_min2 rfl) (by rfl) T.min (by decide +kernel) (pa_cons pe_int (pa_cons (pe_call GK hr1 rfl mK kK bK .nil pass0 (pa_cons (pv 1) (pa_cons pe_int pa_nil))) pa_nil))) (fun _ _ => rfl)) callPick_imp))
        (pss_cons (ps_imp (t' := tOwnText K) (ps_if (PW.pt (pw_and (pt_cmpR op_eq (pe_ix ix_tup (pv 4) pe_int (fun _ _ => rfl)) pe_str (nomark _)) (pw_and1 (pt_cmpR op_gt (pe_ix ix_tup (pv 4) pe_int (fun _ _ => rfl)) pe_int (nomark _)))))
          (pss_one (ps_set (i := 5) scLaw.nd rfl (Or.inl rfl) (pe_op op_add_str (pe_callTy call_str_int (by rfl) T.str (by decide +kernel) (pa_cons (pe_ix ix_tup (pv 4) pe_int (fun _ _ => rfl)) pa_nil))
            (pe_ix ix_str (pe_op op_add_str (pe_slice sl_str pe_str po_none (po_some (pv 3))) pe_str) (pe_ix ix_tup (pv 4) pe_int (fun _ _ => rfl)) (fun _ _ => rfl)))))
          (pss_cons (ps_set (i := 5) scLaw.nd rfl (Or.inl rfl) (pe_call GL hr1 rfl mL kL bL .nil pass0 (pa_cons (pv 3) (pa_cons (pv 4) pa_nil))))
            (pss_one (ps_if (pt_not (pt_val (pe_call GX hr1 rfl mX kX bX .nil pass0 (pa_cons (pe_call GC hr1 rfl mC kC bC .nil pass0 (pa_cons (pv 3) (pa_cons (pv 4) pa_nil))) (pa_cons (pv 5) pa_nil))))) (pss_one (ps_ret pe_bl)) pss_nil)))) ownText_imp)
        (pss_cons (ps_if (pt_imp (t' := tNeCall K) (pt_cmpR (op_neD hr.units) (pe_call GT hr rfl mT kT bT .nil pass0 (pa_cons (pv 3) (pa_cons (pv 5) pa_nil))) (pv 4) (nomark _)) neCall_imp) (pss_one (ps_ret pe_bl)) pss_nil)
        (pss_cons (ps_set (i := 6) scLaw.nd rfl (Or.inl rfl) (pe_call GK hr1 rfl mK kK bK .nil pass0 (pa_cons (pv 1) (pa_cons (pe_op op_add (pe_callB call_len_str (by rfl) T.len PySem.boot_len (pa_cons (pv 5) pa_nil)) pe_int) pa_nil))))
        (pss_cons (ps_set (i := 7) scLaw.nd rfl (Or.inl rfl) (pe_ix ix_str pe_str (pe_call GK hr1 rfl mK kK bK .nil pass0 (pa_cons (pv 1) (pa_cons pe_int pa_nil))) (fun _ _ => rfl)))
        (pss_cons (ps_set (i := 5) scLaw.nd rfl (Or.inl rfl) (pe_imp (t' := tMut K) (pe_ix ix_list (pe_lst
            (pa_cons (pe_op op_add_str (pe_op op_add_str (pe_slice sl_str (pv 5) po_none (po_some (pv 6))) (pv 7)) (pe_slice sl_str (pv 5) (po_some (pv 6)) po_none))
            (pa_cons (pe_op op_add_str (pe_slice sl_str (pv 5) po_none (po_some (pv 6))) (pe_slice sl_str (pv 5) (po_some (pe_op op_add (pv 6) pe_int)) po_none))
            (pa_cons (pe_op op_add_str (pe_op op_add_str (pe_slice sl_str (pv 5) po_none (po_some (pv 6))) (pv 7)) (pe_slice sl_str (pv 5) (po_some (pe_op op_add (pv 6) pe_int)) po_none))
            (pa_cons (pv 7) (pa_cons (pe_op op_add_str (pv 7) (pe_revS (pv 5))) pa_nil))))))
            (pe_call GK hr1 rfl mK kK bK .nil pass0 (pa_cons (pv 1) (pa_cons pe_int pa_nil))) (fun _ _ => rfl)) mut_imp))
        (pss_one (ps_if (pt_imp (t' := tNeMeant) (pt_cmpR (op_neD hr.units) (pe_call GT hr rfl mT kT bT .nil pass0 (pa_cons (pv 3) (pa_cons (pv 5) pa_nil))) (pe_call GM hr1 rfl mM kM bM .nil pass0 (pa_cons (pv 3) (pa_cons (pv 5) pa_nil))) (nomark _)) (neMeant_imp (K := K))) (pss_one (ps_ret pe_bl)) pss_nil))))))))))
      (pss_one (ps_ret (pe_cmpR (op_eqD hr.units) (pe_call GT hr rfl mT kT bT .nil pass0 (pa_cons pe_int (pa_cons pe_str pa_nil))) (pe_lst (pa_cons pe_int pa_nil)) (nomark _))))), ?_⟩
    refine ⟨_, rfl, a, ns, rfl, hS, hlen, fun H0 p r ms s0 np nr hp => ?_⟩
    refine ⟨8, rfl, by decide, by decide, for_range (lo := 0) (n := 8) (fun i σ H' => ∃ x2 x3 x4 x5 x6 x7 : Option V, σ = [some (.ref a), some (.ref p), x2, x3, x4, x5, x6, x7] ∧ PoolAt H' p r ms (8 * (i : Int))) ⟨none, none, none, none, none, none, rfl, (by simpa using hp)⟩ ?_ ?_⟩
    · rintro i σ H1 hi ⟨x2, x3, x4, x5, x6, x7, rfl, hp1⟩
      -- suits
      refine ⟨p, r, ms, _, rfl, hp1, by omega, by omega, fun k hk hp2 => ?_⟩
      generalize poolNext H1 p r (8 * (i : Int)) = H2 at hp2 ⊢
      -- call
      refine ⟨p, r, ms, _, k, rfl, rfl, hk, hp2, by omega, by omega, fun H3 ac c hp3 hT3 hc => ?_⟩
      -- its own text
      refine ⟨_, _, _, _, _, _, k, ac, c, rfl, hk, hc, hT3, fun H4 s4 => ?_⟩
      -- read
      refine ⟨k, ac, c, rfl, rfl, rfl, hk, hc, same_tup s4 hT3, fun H5 s5 => ifF rfl ?_⟩
      have hp5 := (hp3.same s4).same s5
      have hs := sht_text hk hc
      -- at
      refine pick_run (m := ((textOf k c).length : Int) + 1) rfl (fun R r => ⟨_, rfl, _, rfl, hs.line (by decide), _, _, rfl, rfl, r⟩) hp5 (by omega) (by omega) (by omega) fun j j0 j1 => ?_
      have hp6 := hp5.next
      generalize poolNext H5 p r (8 * (i : Int) + 1 + 4) = H6 at hp6 ⊢
      -- sign
      refine pick_run (m := 15) rfl (fun R r => r) hp6 (by omega) (by omega) (by decide) fun g g0 g1 => ?_
      have hp7 := hp6.next
      generalize poolNext H6 p r (8 * (i : Int) + 1 + 4 + 1) = H7 at hp7 ⊢
      obtain ⟨ch, hch, hlow⟩ := sign_at g0 g1
      refine ⟨_, _, ch, rfl, rfl, (by rw [len_tl, tl_signs]; exact line_big (by decide)), hch, ?_⟩
      -- the changed text
      refine ⟨p, r, ms, _, j, textOf k c, ⟨#[ch]⟩, rfl, rfl, rfl, rfl, hs, sht_one hlow, hp7, by omega, by omega, fun H8 t' hp8 ht' => ?_⟩
      -- read and meant
      refine ⟨k, t', rfl, rfl, hk, ht', fun H9 s9 => ifF rfl ?_⟩
      have hp9 := hp8.same s9
      have e : 8 * (i : Int) + 1 + 4 + 1 + 1 + 1 = 8 * ((i + 1 : Nat) : Int) := by omega
      rw [e] at hp9
      exact ⟨_, _, _, _, _, _, rfl, hp9⟩
    · rintro σ H1 ⟨x2, x3, x4, x5, x6, x7, rfl, hp1⟩
      refine ⟨1, "", rfl, ⟨by decide, by decide⟩, asc_empty, fun H2 v s2 hv => ?_⟩
      rw [mean_empty] at hv
      refine ⟨line_big (show 1 ≤ 1000 by decide), fun y ny => ?_⟩
      have s3 := same_new (o := .lst [.int 1]) ny
      have h2 : IsRes K (upd H2 y (.lst [.int 1])) (.ref y) none := ⟨y, rfl, SqL.of upd_same⟩
      refine ⟨_, _, (hv.same s3).dp, h2.dp, res_shaped _, res_shaped _, ?_⟩
      rw [res_eqv]
      exact q _
end
end K16

/-! K16, part N: what the top has written; the theorem. -/
namespace K16
open PySem L2 TL
theorem all_mk {P : Program} {w : World} {K : PySem.W.Frag} {h : Heap} {mg : Str → Option Value} {fa CI CF Ta aP aX aR : Addr} {fC fR fN fP fK fX fL fT fM fW : Addr} (X : K.In h) (G : h.Ns mainGlobals mg) (hfa : mg "law" = some (.ref fa))
    {odC anC odR anR odN anN odP anP odK anK odX anX odL anL odT anT odM anM odW anW dP dX dR : Option Addr} {slC slR slN slP slK slX slL slT slM slW slTP slTX slTR : Array (Option Value)} {ocC kVC dcC pmC cdC ctC ocR kVR dcR pmR cdR ctR ocN kVN dcN pmN cdN ctN ocP kVP dcP pmP cdP ctP ocK kVK dcK pmK cdK ctK ocX kVX dcX pmX cdX ctX ocL kVL dcL pmL cdL ctL ocT kVT dcT pmT cdT ctT ocM kVM dcM pmM cdM ctM ocW kVW dcW pmW cdW ctW : Value} {tL t1 t2 t3 uP uX uR : Tok} {nT nP nX nR : Nat}
    (g_C : PySem.W.nsIn K mainGlobals "call_text" = some (some (.ref fC)))
    (lC : K.lookup fC = some ⟨ocC, odC, .func (PySem.W.fnOf "call_text" "call_text" (defArgs sCallText) (defBody sCallText) (defScope sCallText) .none kVC dcC pmC anC cdC ctC), slC⟩)
    (cC : PySem.W.codeIn K cdC "call_text" = true)
    (kC : PySem.W.keepIn K (.ref fC) = true)
    (g_R : PySem.W.nsIn K mainGlobals "read_call" = some (some (.ref fR)))
    (lR : K.lookup fR = some ⟨ocR, odR, .func (PySem.W.fnOf "read_call" "read_call" (defArgs sRead) (defBody sRead) (defScope sRead) .none kVR dcR pmR anR cdR ctR), slR⟩)
    (cR : PySem.W.codeIn K cdR "read_call" = true)
    (kR : PySem.W.keepIn K (.ref fR) = true)
    (g_N : PySem.W.nsIn K mainGlobals "_law_numbers" = some (some (.ref fN)))
    (lN : K.lookup fN = some ⟨ocN, odN, .func (PySem.W.fnOf "_law_numbers" "_law_numbers" (defArgs sNumbers) (defBody sNumbers) (defScope sNumbers) .none kVN dcN pmN anN cdN ctN), slN⟩)
    (cN : PySem.W.codeIn K cdN "_law_numbers" = true)
    (kN : PySem.W.keepIn K (.ref fN) = true)
    (g_P : PySem.W.nsIn K mainGlobals "_law_pool" = some (some (.ref fP)))
    (lP : K.lookup fP = some ⟨ocP, odP, .func (PySem.W.fnOf "_law_pool" "_law_pool" (defArgs sPool) (defBody sPool) (defScope sPool) .none kVP dcP pmP anP cdP ctP), slP⟩)
    (cP : PySem.W.codeIn K cdP "_law_pool" = true)
    (kP : PySem.W.keepIn K (.ref fP) = true)
    (g_K : PySem.W.nsIn K mainGlobals "_law_pick" = some (some (.ref fK)))
    (lK : K.lookup fK = some ⟨ocK, odK, .func (PySem.W.fnOf "_law_pick" "_law_pick" (defArgs sPick) (defBody sPick) (defScope sPick) .none kVK dcK pmK anK cdK ctK), slK⟩)
    (cK : PySem.W.codeIn K cdK "_law_pick" = true)
    (kK : PySem.W.keepIn K (.ref fK) = true)
    (g_X : PySem.W.nsIn K mainGlobals "_law_text" = some (some (.ref fX)))
    (lX : K.lookup fX = some ⟨ocX, odX, .func (PySem.W.fnOf "_law_text" "_law_text" (defArgs sText) (defBody sText) (defScope sText) .none kVX dcX pmX anX cdX ctX), slX⟩)
    (cX : PySem.W.codeIn K cdX "_law_text" = true)
    (kX : PySem.W.keepIn K (.ref fX) = true)
    (g_L : PySem.W.nsIn K mainGlobals "_law_call_text" = some (some (.ref fL)))
    (lL : K.lookup fL = some ⟨ocL, odL, .func (PySem.W.fnOf "_law_call_text" "_law_call_text" (defArgs sLawText) (defBody sLawText) (defScope sLawText) .none kVL dcL pmL anL cdL ctL), slL⟩)
    (cL : PySem.W.codeIn K cdL "_law_call_text" = true)
    (kL : PySem.W.keepIn K (.ref fL) = true)
    (g_T : PySem.W.nsIn K mainGlobals "_law_told" = some (some (.ref fT)))
    (lT : K.lookup fT = some ⟨ocT, odT, .func (PySem.W.fnOf "_law_told" "_law_told" (defArgs sTold) (defBody sTold) (defScope sTold) .none kVT dcT pmT anT cdT ctT), slT⟩)
    (cT : PySem.W.codeIn K cdT "_law_told" = true)
    (kT : PySem.W.keepIn K (.ref fT) = true)
    (g_M : PySem.W.nsIn K mainGlobals "_law_meant" = some (some (.ref fM)))
    (lM : K.lookup fM = some ⟨ocM, odM, .func (PySem.W.fnOf "_law_meant" "_law_meant" (defArgs sMeant) (defBody sMeant) (defScope sMeant) .none kVM dcM pmM anM cdM ctM), slM⟩)
    (cM : PySem.W.codeIn K cdM "_law_meant" = true)
    (kM : PySem.W.keepIn K (.ref fM) = true)
    (g_W : PySem.W.nsIn K mainGlobals "law" = some (some (.ref fW)))
    (lW : K.lookup fW = some ⟨ocW, odW, .func (PySem.W.fnOf "law" "law" (defArgs sLaw) (defBody sLaw) (defScope sLaw) .none kVW dcW pmW anW cdW ctW), slW⟩)
    (cW : PySem.W.codeIn K cdW "law" = true)
    (kW : PySem.W.keepIn K (.ref fW) = true)
    (z_range : PySem.W.nsIn K mainGlobals "range" = some none)
    (z_len : PySem.W.nsIn K mainGlobals "len" = some none)
    (z_abs : PySem.W.nsIn K mainGlobals "abs" = some none)
    (z_int : PySem.W.nsIn K mainGlobals "int" = some none)
    (z_str : PySem.W.nsIn K mainGlobals "str" = some none)
    (z_min : PySem.W.nsIn K mainGlobals "min" = some none)
    (z_isinstance : PySem.W.nsIn K mainGlobals "isinstance" = some none)
    (gI : PySem.W.nsIn K mainGlobals "InvalidText" = some (some (.ref CI)))
    (gF : PySem.W.nsIn K mainGlobals "FinesseError" = some (some (.ref CF)))
    (gL : PySem.W.nsIn K mainGlobals "LETTERS" = some (some (.str "cdhs" tL)))
    (gT : PySem.W.nsIn K mainGlobals "TEXTS" = some (some (.ref Ta)))
    (dT : K.lookup Ta = some ⟨.type "dict", none, .dict #[⟨PyData.keyHash w.params "P", .str "P" t1, .ref aP⟩, ⟨PyData.keyHash w.params "X", .str "X" t2, .ref aX⟩, ⟨PyData.keyHash w.params "XX", .str "XX" t3, .ref aR⟩] nT, #[]⟩)
    (loT : (Ta == sysModules) = false)
    (tP : K.lookup aP = some ⟨.type "tuple", dP, .seq #[.str "pass" uP] nP, slTP⟩)
    (tX : K.lookup aX = some ⟨.type "tuple", dX, .seq #[.str "double" uX] nX, slTX⟩)
    (tR : K.lookup aR = some ⟨.type "tuple", dR, .seq #[.str "redouble" uR] nR, slTR⟩)
    (xI : PySem.W.excIn K CI [.type "ValueError", .type "Exception", .type "BaseException", .type "object"] "ValueError.__new__" = true)
    (kI : PySem.W.keepIn K (.ref CI) = true)
    (bI : PySem.W.subIn K (.ref CI) (.type "BaseException") = some true)
    (tI : PySem.W.typeIn K (.ref CI) = some (.type "type"))
    (bF : PySem.W.subIn K (.ref CF) (.type "BaseException") = some true)
    (hF : PySem.W.hasDictIn K CF = true)
    (tF : PySem.W.typeIn K (.ref CF) = some (.type "type"))
    (sF : PySem.W.subIn K (.ref CI) (.ref CF) = some true)
    (e1 : PySem.W.findIn K (.ref CI) "__getattribute__" = some (some (.builtin "BaseException.__getattribute__")))
    (e2 : PySem.W.findIn K (.ref CI) "__getattr__" = some none)
    (e4 : PySem.W.hasDictIn K CI = true)
    (e5 : PySem.W.findIn K (.ref CI) "__class__" = some (some (.builtin "object.__class__")))
    (e6 : PySem.W.specialIn K (.builtin "object.__class__") "__get__" = some (some (.builtin "getset_descriptor.__get__")))
    (e7 : PySem.W.takesIn K (.builtin "object.__class__") = some true)
    (e8 : PySem.W.mroIn K CI (.type "object") = some true)
    : ∃ fd : FuncData, (∀ (s : Shared) (v : Value), BindsTo s fd ⟨[v], []⟩ [("_law_script", v)]) ∧ ∀ base : Heap, K.In base → base.Ns mainGlobals mg → FnOk P w K mg base CX0 3 fa fd ["_law_script"] (spLaw K) := by
  have e := hfa.symm.trans (PySem.W.mg_of X G g_W)
  cases e
  have T : TxtA mg := ⟨PySem.W.mg_none_of X G z_range, PySem.W.mg_none_of X G z_len, PySem.W.mg_none_of X G z_abs, PySem.W.mg_none_of X G z_int, PySem.W.mg_none_of X G z_str, PySem.W.mg_none_of X G z_min, PySem.W.mg_none_of X G z_isinstance⟩
  have R : TxtR w K mg Ta aP aX aR CI := ⟨⟨_, PySem.W.mg_of X G gL⟩, PySem.W.mg_of X G gT, ⟨_, _, _, _, dT⟩, loT, ⟨_, _, _, _, tP⟩, ⟨_, _, _, _, tX⟩, ⟨_, _, _, _, tR⟩, PySem.W.mg_of X G gI, xI, kI, bI, tI⟩
  have kit : PySem.W.kitOne K (.ref CI) (.ref CI) = some true := by
    unfold PySem.W.kitOne
    rw [if_pos (by simp)]
  have B : TxtF K mg CF CI := ⟨PySem.W.mg_of X G gF, bF, hF, tF, sF, ⟨e1, e2, bI, e4, e5, e6, e7, e8⟩, kit⟩
  have FC := fun_mk (st := sCallText) lC cC kC
  have bC := FC.binds (ps := ["suits", "call"]) fun _ _ _ _ _ _ us hl => match us, hl with | [_, _], _ => rfl
  have mC := PySem.W.mg_of X G g_C
  have FR := fun_mk (st := sRead) lR cR kR
  have bR := FR.binds (ps := ["suits", "text"]) fun _ _ _ _ _ _ us hl => match us, hl with | [_, _], _ => rfl
  have mR := PySem.W.mg_of X G g_R
  have FN := fun_mk (st := sNumbers) lN cN kN
  have bN := FN.binds (ps := ["_law_script", "_law_first", "_law_most"]) fun _ _ _ _ _ _ us hl => match us, hl with | [_, _, _], _ => rfl
  have mN := PySem.W.mg_of X G g_N
  have FP := fun_mk (st := sPool) lP cP kP
  have bP := FP.binds (ps := ["_law_script"]) fun _ _ _ _ _ _ us hl => match us, hl with | [_], _ => rfl
  have mP := PySem.W.mg_of X G g_P
  have FK := fun_mk (st := sPick) lK cK kK
  have bK := FK.binds (ps := ["_law_pool_here", "_law_many"]) fun _ _ _ _ _ _ us hl => match us, hl with | [_, _], _ => rfl
  have mK := PySem.W.mg_of X G g_K
  have FX := fun_mk (st := sText) lX cX kX
  have bX := FX.binds (ps := ["_law_actual", "_law_due"]) fun _ _ _ _ _ _ us hl => match us, hl with | [_, _], _ => rfl
  have mX := PySem.W.mg_of X G g_X
  have FL := fun_mk (st := sLawText) lL cL kL
  have bL := FL.binds (ps := ["_law_suits", "_law_call"]) fun _ _ _ _ _ _ us hl => match us, hl with | [_, _], _ => rfl
  have mL := PySem.W.mg_of X G g_L
  have FT := fun_mk (st := sTold) lT cT kT
  have bT := FT.binds (ps := ["_law_suits", "_law_text_here"]) fun _ _ _ _ _ _ us hl => match us, hl with | [_, _], _ => rfl
  have mT := PySem.W.mg_of X G g_T
  have FM := fun_mk (st := sMeant) lM cM kM
  have bM := FM.binds (ps := ["_law_suits", "_law_text_here"]) fun _ _ _ _ _ _ us hl => match us, hl with | [_, _], _ => rfl
  have mM := PySem.W.mg_of X G g_M
  have FW := fun_mk (st := sLaw) lW cW kW
  exact ⟨_, fun s v => .of_eq rfl, fun base _ _ =>
    ok_law FW T ⟨_, _, ok_pool FP T (ok_numbers FN T) bN mN kN, bP, mP, kP⟩ ⟨_, _, ok_pick FK T, bK, mK, kK⟩ ⟨_, _, ok_callText FC T (PySem.W.mg_of X G gL), bC, mC, kC⟩ ⟨_, _, ok_lawText FL T, bL, mL, kL⟩ ⟨_, _, ok_text FX T, bX, mX, kX⟩
      ⟨_, _, ok_told FT T R B FR bR mR, bT, mT, kT⟩ ⟨_, _, ok_meant FM T, bM, mM, kM⟩⟩
theorem walk {l : PySem.W.OpenLaw} {q : Program} {loose : List Str} {XP : (Str → Option Value) → Heap → Prop} {YP : World → Heap → Prop} {d : DefRec} {K : Params → PySem.W.Frag} (hn : l.most = some 63) (hdf : d.params.defaults = [])
    (hY : ∀ (w : World) (h : Heap), YP w h → (K w.params).In h)
    (F : ∀ (w : World) (mg : Str → Option Value) (fa : Addr) (h : Heap), (K w.params).In h → h.Ns mainGlobals mg → mg d.name = some (.ref fa) →
      ∃ fd : FuncData, (∀ (s : Shared) (u : Value), BindsTo s fd ⟨[u], []⟩ [("_law_script", u)]) ∧ ∀ base : Heap, (K w.params).In base → base.Ns mainGlobals mg → FnOk l.prog w (K w.params) mg base CX0 3 fa fd ["_law_script"] (spLaw (K w.params))) :
    PySem.W.WalkO q loose XP YP l.row.toRowW d [] (fun f vs => PySem.call f vs) :=
  L2.walk_of (n := 63) (k := 3) (x := "_law_script") (CX := fun _ => CX0) (sp := fun w => spLaw (K w.params)) hn (by decide) hdf ⟨rfl, by decide, by decide⟩ hY F (fun _ _ a ns hl _ hS => ⟨a, ns, rfl, hS, hl, fun _ => rfl⟩) fun _ _ _ _ _ z => z
end K16
open PySem PySem.W PyProof.Rows in
set_option maxRecDepth 100000 in
set_option maxHeartbeats 0 in
theorem PySem.Challenge.cw_finesse_k16_texts_of_calls_holds : PySem.Challenge.rw_finesse_k16_texts_of_calls.Holds := by
  w_on; o_law; k_head; (case hw => w_witness2)
  k_fill
  refine K16.walk (l := PySem.Challenge.rw_finesse_k16_texts_of_calls) rfl rfl (fun w h Y => PySem.W.kIn_of Y) ?F
  case F =>
    intro w mg fa h KX G hmg
    refine' K16.all_mk (w := w) KX G hmg ?g_C ?lC ?cC ?kC ?g_R ?lR ?cR ?kR ?g_N ?lN ?cN ?kN ?g_P ?lP ?cP ?kP ?g_K ?lK ?cK ?kK ?g_X ?lX ?cX ?kX ?g_L ?lL ?cL ?kL ?g_T ?lT ?cT ?kT ?g_M ?lM ?cM ?kM ?g_W ?lW ?cW ?kW ?z_range ?z_len ?z_abs ?z_int ?z_str ?z_min ?z_isinstance ?gI ?gF ?gL ?gT ?dT ?loT ?tP ?tX ?tR ?xI ?kI ?bI ?tI ?bF ?hF ?tF ?sF ?e1 ?e2 ?e4 ?e5 ?e6 ?e7 ?e8
    (case g_C => k_is)
    (case lC => k_is)
    (case cC => k_is)
    (case kC => k_is)
    (case g_R => k_is)
    (case lR => k_is)
    (case cR => k_is)
    (case kR => k_is)
    (case g_N => k_is)
    (case lN => k_is)
    (case cN => k_is)
    (case kN => k_is)
    (case g_P => k_is)
    (case lP => k_is)
    (case cP => k_is)
    (case kP => k_is)
    (case g_K => k_is)
    (case lK => k_is)
    (case cK => k_is)
    (case kK => k_is)
    (case g_X => k_is)
    (case lX => k_is)
    (case cX => k_is)
    (case kX => k_is)
    (case g_L => k_is)
    (case lL => k_is)
    (case cL => k_is)
    (case kL => k_is)
    (case g_T => k_is)
    (case lT => k_is)
    (case cT => k_is)
    (case kT => k_is)
    (case g_M => k_is)
    (case lM => k_is)
    (case cM => k_is)
    (case kM => k_is)
    (case g_W => k_is)
    (case lW => k_is)
    (case cW => k_is)
    (case kW => k_is)
    (case z_range => k_is)
    (case z_len => k_is)
    (case z_abs => k_is)
    (case z_int => k_is)
    (case z_str => k_is)
    (case z_min => k_is)
    (case z_isinstance => k_is)
    (case gI => k_is)
    (case gF => k_is)
    (case gL => k_is)
    (case gT => k_is)
    (case dT => k_is)
    (case loT => first | rfl | decide +kernel)
    (case tP => k_is)
    (case tX => k_is)
    (case tR => k_is)
    (case xI => k_exc)
    (case kI => k_is)
    (case bI => k_is)
    (case tI => k_is)
    (case bF => k_is)
    (case hF => k_is)
    (case tF => k_is)
    (case sF => k_is)
    (case e1 => k_is)
    (case e2 => k_is)
    (case e4 => k_is)
    (case e5 => k_is)
    (case e6 => k_is)
    (case e7 => k_is)
    (case e8 => k_is)
#print axioms PySem.Challenge.cw_finesse_k16_texts_of_calls_holds
