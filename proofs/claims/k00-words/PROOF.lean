import PyProof.Rows.All
import Wide.All
import OpenK.AllK
import Wide.FinOn
import HandS.ForMost
import HandS.Exc
import HandS.TryOnly
import HandS.ExcOwn
import HandS.WordsExc
import HandS.ExcIs
import HandS.IsInst
import HandS.Wide
import HandS.Evl
import KE.BitLaws
import KE.KBits
import PySem.Challenge.RW_wentback_k00_whole_words
set_option Elab.async false
set_option maxRecDepth 100000
set_option maxHeartbeats 4000000
namespace My
open PySem L2
def top (i : Nat) : Stmt := PySem.Challenge.pw_wentback_k00_whole_words.main.body.getD i (.Pass ⟨0, 0, 0, 0⟩)
/-! ### addresses and facts of the top -/
structure Ad where
  (is_whole is_word wrap worked divided holds law_draws law_draw law_same law_pick law_wrap law_work law_cond law_asked BackError BadRun : Addr)
structure Txt (K : PySem.W.Frag) (mg : Str → Option Value) (a : Ad) (tW tH : Tok) : Prop where
  g_is_whole : mg "is_whole" = some (.ref a.is_whole)
  k_is_whole : PySem.W.keepIn K (.ref a.is_whole) = true
  g_is_word : mg "is_word" = some (.ref a.is_word)
  k_is_word : PySem.W.keepIn K (.ref a.is_word) = true
  g_wrap : mg "wrap" = some (.ref a.wrap)
  k_wrap : PySem.W.keepIn K (.ref a.wrap) = true
  g_worked : mg "worked" = some (.ref a.worked)
  k_worked : PySem.W.keepIn K (.ref a.worked) = true
  g_divided : mg "divided" = some (.ref a.divided)
  k_divided : PySem.W.keepIn K (.ref a.divided) = true
  g_holds : mg "holds" = some (.ref a.holds)
  k_holds : PySem.W.keepIn K (.ref a.holds) = true
  g_law_draws : mg "_law_draws" = some (.ref a.law_draws)
  k_law_draws : PySem.W.keepIn K (.ref a.law_draws) = true
  g_law_draw : mg "_law_draw" = some (.ref a.law_draw)
  k_law_draw : PySem.W.keepIn K (.ref a.law_draw) = true
  g_law_same : mg "_law_same" = some (.ref a.law_same)
  k_law_same : PySem.W.keepIn K (.ref a.law_same) = true
  g_law_pick : mg "_law_pick" = some (.ref a.law_pick)
  k_law_pick : PySem.W.keepIn K (.ref a.law_pick) = true
  g_law_wrap : mg "_law_wrap" = some (.ref a.law_wrap)
  k_law_wrap : PySem.W.keepIn K (.ref a.law_wrap) = true
  g_law_work : mg "_law_work" = some (.ref a.law_work)
  k_law_work : PySem.W.keepIn K (.ref a.law_work) = true
  g_law_cond : mg "_law_cond" = some (.ref a.law_cond)
  k_law_cond : PySem.W.keepIn K (.ref a.law_cond) = true
  g_law_asked : mg "_law_asked" = some (.ref a.law_asked)
  k_law_asked : PySem.W.keepIn K (.ref a.law_asked) = true
  g_WIDE : mg "WIDE" = some (.int 4294967296 tW)
  g_HALF : mg "HALF" = some (.int 2147483648 tH)
  b_int : mg "int" = none
  b_bool : mg "bool" = none
  b_str : mg "str" = none
  b_list : mg "list" = none
  b_tuple : mg "tuple" = none
  b_len : mg "len" = none
  b_abs : mg "abs" = none
  b_max : mg "max" = none
  b_range : mg "range" = none
  b_isinstance : mg "isinstance" = none
section
variable {P : Program} {w : World} {K : PySem.W.Frag} {mg : Str → Option Value} {base : Heap} {ad : Ad} {tW tH : Tok}

/-! ### the draws -/
structure Draws (H : Hp) (p q : Addr) (ns : List Int) (i z v : Int) : Prop where
  hp : H p = some (.lst [.ref q, .int i, .int z, .int v])
  hq : H q = some (.lst (ns.map V.int))
  i0 : 0 ≤ i
  i1 : i ≤ ns.length
  v0 : 0 ≤ v
  v1 : v < 2147483647
def DrawsAt (H : Hp) (p : Addr) : Prop := ∃ q ns i z v, Draws H p q ns i z v

def spDraws (K : PySem.W.Frag) : Sp := fun vs H Q _ => ∃ (a : Addr) (ns : List Int), vs = [.ref a] ∧ SqL K H a (ns.map V.int) ∧
  ∀ (p : Addr) (H' : Hp), H p = none → DrawsAt H' p → Same H H' → Q (.ref p) H'
abbrev s_law_draws : Stmt := top 13
theorem sc_law_draws : FnScope ["script"] ["script"] (defScope s_law_draws) := ⟨rfl, rfl, rfl, by decide +kernel, rfl, by decide +kernel, by decide +kernel⟩
theorem ok_law_draws {f : Addr} {fd : FuncData} (F : Fun K "_law_draws" "_law_draws" s_law_draws f fd) (T : Txt K mg ad tW tH) : FnOk P w K mg base CX0 1 f fd ["script"] (spDraws K) := by
  refine F.ok sc_law_draws (fun vs H Q E h => ?_) (fun cdv A outer s H vs Q E hr h => ?_)
  · obtain ⟨a, ns, rfl, _⟩ := h
    rfl
  · obtain ⟨a, ns, rfl, hS, k⟩ := h
    refine ⟨_, (pss_one (ps_ret (pe_lst (pa_cons (pe_callTy call_list_of (by rfl) T.b_list (by decide +kernel) (pa_cons (pv 0) pa_nil)) (pa_cons pe_int (pa_cons pe_int (pa_cons pe_int pa_nil))))))), ?_⟩
    refine ⟨_, rfl, a, _, rfl, .inl hS, fun q hq => ⟨(by show 4 ≤ sizeLine; decide), fun p hp => ?_⟩⟩
    have hne : q ≠ p := ne_of_none upd_same hp
    refine k p _ (by rw [upd_ne hne.symm] at hp; exact hp) ⟨q, ns, 0, 0, 1, upd_same, by rw [upd_ne hne]; exact upd_same, by decide, by omega, by decide, by decide⟩ (fun b o e => ?_)
    have h1 : b ≠ q := ne_of_none e hq
    have h2 : b ≠ p := fun z => by rw [z, ← upd_ne hne.symm (H := H) (o := HO.lst (ns.map V.int)), hp] at e; cases e
    rw [upd_ne h2, upd_ne h1]; exact e

/-- _law_draw(draws, limit) -/
def spDraw : Sp := fun vs H Q _ => ∃ (p : Addr) (l : Int), vs = [.ref p, .int l] ∧ DrawsAt H p ∧ 0 < l ∧ l < 2 ^ 62 ∧
  ∀ (v : Int) (H' : Hp), 0 ≤ v → v < l → DrawsAt H' p → (∀ b o, H b = some o → b ≠ p → H' b = some o) → Q (.int v) H'
abbrev s_law_draw : Stmt := top 14
theorem sc_law_draw : FnScope ["draws", "limit", "cell", "value"] ["draws", "limit"] (defScope s_law_draw) := ⟨rfl, rfl, rfl, by decide +kernel, rfl, by decide +kernel, by decide +kernel⟩
theorem itd {c : Prop} [Decidable c] {A B : Prop} (h1 : c → A) (h2 : ¬ c → B) : if decide c = true then A else B := by
  by_cases h : c
  · rw [if_pos (decide_eq_true h)]; exact h1 h
  · rw [if_neg (by rw [decide_eq_false h]; decide)]; exact h2 h
theorem itT {c : Prop} [Decidable c] {A B : Prop} (h : c) (h1 : A) : if decide c = true then A else B := by
  rw [if_pos (decide_eq_true h)]; exact h1
theorem itF {c : Prop} [Decidable c] {A B : Prop} (h : ¬ c) (h1 : B) : if decide c = true then A else B := by
  rw [if_neg (by rw [decide_eq_false h]; decide)]; exact h1
theorem atI0 {α : Type} {a b c d : α} : atI [a, b, c, d] 0 = some a := rfl
/-- the draws behind a store at the k-th place -/
theorem keep_p {H H' : Hp} {p : Addr} {o : HO} (k : ∀ b u, H b = some u → b ≠ p → H' b = some u) : ∀ b u, H b = some u → b ≠ p → upd H' p o b = some u := fun b u e n => by
  rw [upd_ne n]; exact k b u e n
theorem keep_0 {H : Hp} {p : Addr} : ∀ b u, H b = some u → b ≠ p → H b = some u := fun _ _ e _ => e
theorem fmod_lo (a : Int) {b : Int} (h : 0 < b) : 0 ≤ a.fmod b := by
  rw [Int.fmod_eq_emod_of_nonneg a (by omega)]; exact Int.emod_nonneg _ (by omega)
theorem fmod_hi (a : Int) {b : Int} (h : 0 < b) : a.fmod b < b := by
  rw [Int.fmod_eq_emod_of_nonneg a (by omega)]; exact Int.emod_lt_of_pos _ h
theorem ok_law_draw {f : Addr} {fd : FuncData} (F : Fun K "_law_draw" "_law_draw" s_law_draw f fd) (T : Txt K mg ad tW tH) : FnOk P w K mg base CX0 1 f fd ["draws", "limit"] spDraw := by
  refine F.ok sc_law_draw (fun vs H Q E h => ?_) (fun cdv A outer s H vs Q E hr h => ?_)
  · obtain ⟨a, ns, rfl, _⟩ := h
    rfl
  · obtain ⟨p, l, rfl, ⟨q, ns, i, z, v, D⟩, l0, l1, k⟩ := h
    obtain ⟨hp, hq, i0, i1, v0, v1⟩ := D
    have npq : q ≠ p := ne_of hq hp (by intro e; cases ns <;> cases e)
    refine ⟨_, (Evl.pss_cut (ps_if (PW.pt (pw_and (pt_cmpR op_eq (pe_ix ix_list (pv 0) pe_int (fun _ _ => rfl)) pe_int (nomark _)) (pw_and1 (pt_cmpR op_lt (pe_ix ix_list (pv 0) pe_int (fun _ _ => rfl)) (pe_callB call_len_seq (by rfl) T.b_len (by decide +kernel) (pa_cons (pe_ix ix_list (pv 0) pe_int (fun _ _ => rfl)) pa_nil)) (nomark _))))) (pss_cons (ps_set (i := 2) sc_law_draw.nd rfl (Or.inl rfl) (pe_ix ix_list (pe_ix ix_list (pv 0) pe_int (fun _ _ => rfl)) (pe_ix ix_list (pv 0) pe_int (fun _ _ => rfl)) (fun _ _ => rfl)))
      (pss_cons (ps_asg (pe_op op_add (pe_ix ix_list (pv 0) pe_int (fun _ _ => rfl)) pe_int) (pg_sub (pv 0) pe_int set_list))
      (Evl.pss_cut (ps_if (pt_cmpR op_ge (pv 2) (pe_op op_pow pe_int pe_int) (nomark _)) (pss_one (ps_asg (pv 2) (pg_sub (pv 0) pe_int set_list))) pss_nil)
      (pss_one (ps_asg (pe_op op_modN (pe_callTy call_int1 (by rfl) T.b_int (by decide +kernel) (pa_cons (pe_op op_add (pe_op op_add (pe_op op_mul (pe_ix ix_list (pv 0) pe_int (fun _ _ => rfl)) pe_int) (pv 2)) pe_int) pa_nil)) pe_int) (pg_sub (pv 0) pe_int set_list)))))) pss_nil)
      (pss_cons (ps_if (pt_cmpR op_gt (pe_ix ix_list (pv 0) pe_int (fun _ _ => rfl)) pe_int (nomark _)) (pss_cons (ps_set (i := 3) sc_law_draw.nd rfl (Or.inl rfl) (pe_op op_modN (pe_callTy call_int1 (by rfl) T.b_int (by decide +kernel) (pa_cons (pe_ix ix_list (pv 0) pe_int (fun _ _ => rfl)) pa_nil)) (pv 1)))
      (pss_cons (ps_asg (pe_op op_fdivW (pe_ix ix_list (pv 0) pe_int (fun _ _ => rfl)) (pv 1)) (pg_sub (pv 0) pe_int set_list))
      (pss_one (ps_ret (pv 3))))) pss_nil)
      (pss_cons (ps_asg (pe_op op_modN (pe_callTy call_int1 (by rfl) T.b_int (by decide +kernel) (pa_cons (pe_op op_add (pe_op op_mul (pe_ix ix_list (pv 0) pe_int (fun _ _ => rfl)) pe_int) pe_int) pa_nil)) pe_int) (pg_sub (pv 0) pe_int set_list))
      (pss_one (ps_ret (pe_op op_modN (pe_callTy call_int1 (by rfl) T.b_int (by decide +kernel) (pa_cons (pe_op op_fdivN (pe_ix ix_list (pv 0) pe_int (fun _ _ => rfl)) pe_int) pa_nil)) (pv 1))))))), ?_⟩
    refine ⟨fun σ' H' => ∃ c i z v, σ' = [some (.ref p), some (.int l), c, none] ∧ Draws H' p q ns i z v ∧ (∀ b o, H b = some o → b ≠ p → H' b = some o), ?_, ?_⟩
    · refine ⟨_, rfl, p, _, 2, _, rfl, rfl, SqL.of hp, rfl, rfl, _, rfl, itd (fun c => ?_) (fun c => ?_)⟩
      · refine ⟨_, rfl, p, _, 1, _, rfl, rfl, SqL.of hp, rfl, _, rfl, p, _, 0, _, rfl, rfl, SqL.of hp, rfl, q, _, rfl, .inl (SqL.of hq), _, _, rfl, rfl, _, rfl, itd (fun c2 => ?_) (fun c2 => ?_)⟩
        · rw [List.length_map] at c2
          obtain ⟨j, ej⟩ : ∃ j : Nat, i = (j : Int) := ⟨i.toNat, by omega⟩
          have hj : j < ns.length := by omega
          have hx : (ns.map V.int)[j]? = some (V.int ns[j]) := by rw [List.getElem?_map, List.getElem?_eq_getElem hj]; rfl
          refine ⟨_, rfl, p, _, 0, _, rfl, rfl, SqL.of hp, rfl, _, rfl, p, _, 1, _, rfl, rfl, SqL.of hp, rfl, q, _, _, _, rfl, rfl, SqL.of hq, at_of ej hx, ?_⟩
          refine ⟨_, rfl, p, _, 1, _, rfl, rfl, SqL.of hp, rfl, _, _, rfl, rfl, _, rfl, p, _, 1, 1, rfl, rfl, hp, rfl, ?_⟩
          refine ⟨fun σ' H' => ∃ z', σ' = [some (.ref p), some (.int l), some (.int ns[j]), none] ∧ Draws H' p q ns (i + 1) z' v ∧ (∀ b o, H b = some o → b ≠ p → H' b = some o), ?_, ?_⟩
          · refine ⟨_, rfl, _, _, rfl, rfl, ⟨by decide, by decide, by decide⟩, _, _, rfl, rfl, _, rfl, itd (fun c3 => ?_) (fun c3 => ?_)⟩
            · refine ⟨_, rfl, _, rfl, p, _, 2, 2, rfl, rfl, upd_same, rfl, ?_⟩
              exact ⟨ns[j], rfl, ⟨upd_same, by rw [upd_ne npq, upd_ne npq]; exact hq, by omega, by omega, v0, v1⟩, keep_p (keep_p keep_0)⟩
            · exact ⟨z, rfl, ⟨upd_same, by rw [upd_ne npq]; exact hq, by omega, by omega, v0, v1⟩, keep_p keep_0⟩
          · rintro σ' H' ⟨z', rfl, ⟨hp', hq', j0, j1, _, _⟩, kp⟩
            refine ⟨_, rfl, p, _, 3, _, rfl, rfl, SqL.of hp', rfl, _, _, rfl, rfl, .inl ⟨by omega, by omega⟩, _, rfl, _, _, rfl, rfl, _, _, rfl, rfl, .inl ⟨_, rfl, _, _, rfl, rfl, (by show (2147483647 : Int) ≠ 0; decide), _, rfl, p, _, 3, 3, rfl, rfl, hp', rfl, ?_⟩⟩
            exact ⟨_, _, _, _, rfl, ⟨upd_same, by rw [upd_ne npq]; exact hq', j0, j1, fmod_lo _ (by decide), fmod_hi _ (by decide)⟩, keep_p kp⟩
        · exact ⟨_, _, _, _, rfl, ⟨hp, hq, i0, i1, v0, v1⟩, keep_0⟩
      · exact ⟨_, _, _, _, rfl, ⟨hp, hq, i0, i1, v0, v1⟩, keep_0⟩
    · rintro σ' H' ⟨c, i', z', v', rfl, ⟨hp', hq', j0, j1, w0, w1⟩, kp⟩
      refine ⟨_, rfl, p, _, 2, _, rfl, rfl, SqL.of hp', rfl, _, _, rfl, rfl, _, rfl, itd (fun c3 => ?_) (fun c3 => ?_)⟩
      · refine ⟨_, rfl, p, _, 2, _, rfl, rfl, SqL.of hp', rfl, .inl ⟨_, rfl, _, rfl, _, _, rfl, rfl, (by omega), ?_⟩⟩
        refine ⟨_, rfl, p, _, 2, _, rfl, rfl, SqL.of hp', rfl, _, rfl, _, _, rfl, rfl, ⟨l0, ?_⟩, _, rfl, p, _, 2, 2, rfl, rfl, hp', rfl, ?_⟩
        · have h1 : l.natAbs < 2 ^ 62 := by omega
          exact Nat.lt_of_lt_of_le (PySem.Flt.log2_lt_of (by decide) h1) (by decide)
        · exact ⟨_, rfl, k _ _ (fmod_lo _ l0) (fmod_hi _ l0) ⟨q, ns, i', _, v', upd_same, by rw [upd_ne npq]; exact hq', j0, j1, w0, w1⟩ (keep_p kp)⟩
      · refine ⟨_, rfl, p, _, 3, _, rfl, rfl, SqL.of hp', rfl, _, _, rfl, rfl, .inl ⟨by omega, by omega⟩, _, _, rfl, rfl, .inl ⟨_, rfl, _, _, rfl, rfl, (by show (2147483629 : Int) ≠ 0; decide), _, rfl, p, _, 3, 3, rfl, rfl, hp', rfl, ?_⟩⟩
        refine ⟨_, rfl, p, _, 3, _, rfl, rfl, SqL.of upd_same, rfl, _, _, rfl, rfl, ⟨by decide, by decide⟩, .inl ⟨_, rfl, _, rfl, _, _, rfl, rfl, (by omega), ?_⟩⟩
        exact k _ _ (fmod_lo _ l0) (fmod_hi _ l0) ⟨q, ns, i', z', _, upd_same, by rw [upd_ne npq]; exact hq', j0, j1, fmod_lo _ (by decide), Int.lt_trans (fmod_hi _ (by decide)) (by decide)⟩ (keep_p kp)
end
end My

set_option Elab.async false
namespace My
open PySem
/-! ### words: the mathematics -/
def wr (n : Int) : Int := (n + 2147483648).fmod 4294967296 - 2147483648
theorem wr_eq (n : Int) : wr n = (n + 2147483648) % 4294967296 - 2147483648 := by
  unfold wr
  rw [Int.fmod_eq_emod_of_nonneg _ (by decide)]
theorem wr_word {n : Int} (h0 : -2147483648 ≤ n) (h1 : n < 2147483648) : wr n = n := by
  rw [wr_eq]; omega
theorem wr_mod {n m : Int} (h : n % 4294967296 = m % 4294967296) : wr n = wr m := by
  rw [wr_eq, wr_eq]; omega
open PySem.Builtin PySem.W PyProof.Rows in
theorem and_mod (k : Nat) : ∀ x y : Int, bitAnd (x % 2 ^ k) (y % 2 ^ k) = bitAnd x y % 2 ^ k := by
  induction k with
  | zero =>
    intro x y
    have h : ∀ z : Int, z % 2 ^ 0 = 0 := fun z => by simp [Int.emod_one]
    rw [h, h, h]; decide
  | succ k ih =>
    intro x y
    have e : ∀ z : Int, z % 2 ^ (k + 1) / 2 = (z / 2) % 2 ^ k ∧ z % 2 ^ (k + 1) % 2 = z % 2 := fun z => by
      have hp : (0 : Int) < 2 ^ k := Int.pow_pos (by decide)
      rw [Int.pow_succ]
      generalize (2 : Int) ^ k = m at hp
      constructor
      · have h1 : z % (m * 2) = z % 2 + 2 * (z / 2 % m) := by
          have a1 := Int.emod_add_mul_ediv (z / 2) m
          have a2 := Int.emod_add_mul_ediv z 2
          have a3 := Int.emod_nonneg (z / 2) (by omega : m ≠ 0)
          have a4 := Int.emod_lt_of_pos (z / 2) hp
          have a5 := Int.emod_nonneg z (by decide : (2 : Int) ≠ 0)
          have a6 := Int.emod_lt_of_pos z (by decide : (0 : Int) < 2)
          have e2 : z = (z % 2 + 2 * (z / 2 % m)) + (m * 2) * (z / 2 / m) := by
            have : (m * 2) * (z / 2 / m) = 2 * (m * (z / 2 / m)) := by rw [Int.mul_comm m 2, Int.mul_assoc]
            rw [this]; omega
          rw [e2, Int.add_mul_emod_self_left, ← e2]
          exact Int.emod_eq_of_lt (by omega) (by omega)
        rw [h1]; omega
      · rw [Int.emod_emod_of_dvd]
        exact Int.dvd_mul_left m 2
    have h1 := kbt_halves (x % 2 ^ (k + 1)) (y % 2 ^ (k + 1))
    have h2 := kbt_halves x y
    rw [(e x).1, (e y).1, (e x).2, (e y).2, ih] at h1
    have e3 := e (bitAnd x y)
    have hb : ∀ c : Int, 0 ≤ c → c ≤ 1 → (2 * bitAnd (x / 2) (y / 2) + c) / 2 = bitAnd (x / 2) (y / 2) ∧ (2 * bitAnd (x / 2) (y / 2) + c) % 2 = c := fun c h0 h1 => by constructor <;> omega
    have hc : (0 : Int) ≤ (if x % 2 = 1 ∧ y % 2 = 1 then 1 else 0) ∧ (if x % 2 = 1 ∧ y % 2 = 1 then (1 : Int) else 0) ≤ 1 := by split <;> decide
    obtain ⟨b1, b2⟩ := hb _ hc.1 hc.2
    rw [← h2] at b1 b2
    rw [b1, b2] at e3
    rw [h1]
    have := Int.emod_add_mul_ediv (bitAnd x y % 2 ^ (k + 1)) 2
    omega
theorem pow2_split (k : Nat) : (2 : Int) ^ (k + 1) = 2 * 2 ^ k := by rw [Int.pow_succ, Int.mul_comm]
open PySem.Builtin PySem.W PyProof.Rows in
theorem and_range (k : Nat) : ∀ x y : Int, -2 ^ k ≤ x → x < 2 ^ k → -2 ^ k ≤ y → y < 2 ^ k → -2 ^ k ≤ bitAnd x y ∧ bitAnd x y < 2 ^ k := by
  induction k with
  | zero =>
    intro x y a b c d
    have hx : x = 0 ∨ x = -1 := by omega
    have hy : y = 0 ∨ y = -1 := by omega
    rcases hx with rfl | rfl <;> rcases hy with rfl | rfl <;> decide
  | succ k ih =>
    intro x y a b c d
    rw [pow2_split] at a b c d ⊢
    have h := kbt_halves x y
    have i := ih (x / 2) (y / 2) (by omega) (by omega) (by omega) (by omega)
    have hc : (0 : Int) ≤ (if x % 2 = 1 ∧ y % 2 = 1 then 1 else 0) ∧ (if x % 2 = 1 ∧ y % 2 = 1 then (1 : Int) else 0) ≤ 1 := by split <;> decide
    omega
open PySem.Builtin PySem.W PyProof.Rows in
theorem xor_range (k : Nat) : ∀ x y : Int, -2 ^ k ≤ x → x < 2 ^ k → -2 ^ k ≤ y → y < 2 ^ k → -2 ^ k ≤ bitXor x y ∧ bitXor x y < 2 ^ k := by
  induction k with
  | zero =>
    intro x y a b c d
    have hx : x = 0 ∨ x = -1 := by omega
    have hy : y = 0 ∨ y = -1 := by omega
    rcases hx with rfl | rfl <;> rcases hy with rfl | rfl <;> decide
  | succ k ih =>
    intro x y a b c d
    rw [pow2_split] at a b c d ⊢
    have h := kbt_halves x y
    have e1 := bitXor_and x y
    have e2 := bitXor_and (x / 2) (y / 2)
    have i := ih (x / 2) (y / 2) (by omega) (by omega) (by omega) (by omega)
    have hc : (if x % 2 = 1 ∧ y % 2 = 1 then (1 : Int) else 0) = 1 ∧ x % 2 = 1 ∧ y % 2 = 1 ∨ (if x % 2 = 1 ∧ y % 2 = 1 then (1 : Int) else 0) = 0 ∧ (x % 2 = 0 ∨ y % 2 = 0) := by
      split
      · rename_i q; exact .inl ⟨rfl, q.1, q.2⟩
      · rename_i q; exact .inr ⟨rfl, by omega⟩
    omega
def Word (n : Int) : Prop := -2147483648 ≤ n ∧ n < 2147483648
open PySem.Builtin PySem.W PyProof.Rows in
theorem or_and (x y : Int) : bitOr x y = x + y - bitAnd x y := by
  have h := bitXor_and x y
  unfold bitXor at h
  omega
open PySem.Builtin PySem.W PyProof.Rows in
theorem work_and {x y : Int} (hx : Word x) (hy : Word y) : wr (bitAnd (x.fmod 4294967296) (y.fmod 4294967296)) = bitAnd x y := by
  rw [Int.fmod_eq_emod_of_nonneg _ (by decide), Int.fmod_eq_emod_of_nonneg _ (by decide)]
  have h : bitAnd (x % 4294967296) (y % 4294967296) = bitAnd x y % 4294967296 := and_mod 32 x y
  have r := and_range 31 x y hx.1 hx.2 hy.1 hy.2
  rw [h, wr_mod (Int.emod_emod_of_dvd _ (Int.dvd_refl _))]
  exact wr_word r.1 r.2
open PySem.Builtin PySem.W PyProof.Rows in
theorem work_or {x y : Int} (hx : Word x) (hy : Word y) : wr (bitOr (x.fmod 4294967296) (y.fmod 4294967296)) = bitOr x y := by
  rw [Int.fmod_eq_emod_of_nonneg _ (by decide), Int.fmod_eq_emod_of_nonneg _ (by decide)]
  have h : bitAnd (x % 4294967296) (y % 4294967296) = bitAnd x y % 4294967296 := and_mod 32 x y
  have r := and_range 31 (bitNot x) (bitNot y) (by have := hx.2; unfold bitNot; omega) (by have := hx.1; unfold bitNot; omega) (by have := hy.2; unfold bitNot; omega) (by have := hy.1; unfold bitNot; omega)
  have e : bitOr x y = bitNot (bitAnd (bitNot x) (bitNot y)) := rfl
  have r1 : -2147483648 ≤ bitOr x y ∧ bitOr x y < 2147483648 := by
    rw [e]
    generalize bitAnd (bitNot x) (bitNot y) = z at r
    unfold bitNot
    omega
  rw [← wr_word r1.1 r1.2]
  refine wr_mod ?_
  rw [or_and, or_and, h]
  omega
open PySem.Builtin PySem.W PyProof.Rows in
theorem work_xor {x y : Int} (hx : Word x) (hy : Word y) : wr (bitXor (x.fmod 4294967296) (y.fmod 4294967296)) = bitXor x y := by
  rw [Int.fmod_eq_emod_of_nonneg _ (by decide), Int.fmod_eq_emod_of_nonneg _ (by decide)]
  have h : bitAnd (x % 4294967296) (y % 4294967296) = bitAnd x y % 4294967296 := and_mod 32 x y
  have r := xor_range 31 x y hx.1 hx.2 hy.1 hy.2
  rw [← wr_word r.1 r.2]
  refine wr_mod ?_
  rw [bitXor_and, bitXor_and, h]
  omega
end My

set_option Elab.async false
set_option maxRecDepth 100000
set_option maxHeartbeats 4000000
namespace My
open PySem L2
section
variable {P : Program} {w : World} {K : PySem.W.Frag} {mg : Str → Option Value} {base : Heap} {ad : Ad} {tW tH : Tok}

/-! ### _law_pick -/
def spPick (K : PySem.W.Frag) : Sp := fun vs H Q _ => ∃ (p t : Addr) (xs : List V), vs = [.ref p, .ref t] ∧ DrawsAt H p ∧ H t = some (.lst xs) ∧ t ≠ p ∧ 0 < xs.length ∧ xs.length < 1000 ∧
  ∀ (v : V) (H' : Hp), v ∈ xs → DrawsAt H' p → (∀ b o, H b = some o → b ≠ p → H' b = some o) → Q v H'
abbrev s_law_pick : Stmt := top 16
theorem sc_law_pick : FnScope ["draws", "things"] ["draws", "things"] (defScope s_law_pick) := ⟨rfl, rfl, rfl, by decide +kernel, rfl, by decide +kernel, by decide +kernel⟩
theorem ok_law_pick {f : Addr} {fd fd1 : FuncData} (F : Fun K "_law_pick" "_law_pick" s_law_pick f fd) (T : Txt K mg ad tW tH) (G_law_draw : FnOk P w K mg base CX0 1 ad.law_draw fd1 ["draws", "limit"] spDraw) (b_law_draw : Binds K fd1 ["draws", "limit"] []) :
    FnOk P w K mg base CX0 2 f fd ["draws", "things"] (spPick K) := by
  refine F.ok sc_law_pick (fun vs H Q E h => ?_) (fun cdv A outer s H vs Q E hr h => ?_)
  · obtain ⟨a, b, c, rfl, _⟩ := h
    rfl
  · obtain ⟨p, t, xs, rfl, hD, ht, ntp, l0, l1, k⟩ := h
    refine ⟨_, (pss_one (ps_ret (pe_ix ix_list (pv 1) (pe_call G_law_draw (hr.mono (by decide)) rfl T.g_law_draw T.k_law_draw b_law_draw .nil pass0 (pa_cons (pv 0) (pa_cons (pe_callB call_len_seq (by rfl) T.b_len (by decide +kernel) (pa_cons (pv 1) pa_nil)) pa_nil))) (fun _ _ => rfl)))), ?_⟩
    refine ⟨_, rfl, _, rfl, _, rfl, t, _, rfl, .inl (SqL.of ht), p, _, rfl, hD, by omega, by omega, fun v H' v0 v1 hD' kp => ?_⟩
    obtain ⟨j, ej⟩ : ∃ j : Nat, v = (j : Int) := ⟨v.toNat, by omega⟩
    have hj : j < xs.length := by omega
    refine ⟨t, xs, v, xs[j], rfl, rfl, SqL.of (kp t _ ht ntp), at_of ej (List.getElem?_eq_getElem hj), ?_⟩
    exact k _ _ (List.getElem_mem hj) hD' kp

/-! ### wrap -/
def spWrap : Sp := fun vs H Q _ => ∃ (n : Int), vs = [.int n] ∧ Q (.int (wr n)) H
abbrev s_wrap : Stmt := top 8
theorem sc_wrap : FnScope ["number"] ["number"] (defScope s_wrap) := ⟨rfl, rfl, rfl, by decide +kernel, rfl, by decide +kernel, by decide +kernel⟩
theorem ok_wrap {f : Addr} {fd : FuncData} (F : Fun K "wrap" "wrap" s_wrap f fd) (T : Txt K mg ad tW tH) : FnOk P w K mg base CX0 1 f fd ["number"] spWrap := by
  refine F.ok sc_wrap (fun vs H Q E h => ?_) (fun cdv A outer s H vs Q E hr h => ?_)
  · obtain ⟨a, rfl, _⟩ := h
    rfl
  · obtain ⟨n, rfl, k⟩ := h
    refine ⟨_, (pss_one (ps_ret (pe_op op_sub (pe_op op_modN (pe_op op_add (pv 0) (pe_glob (v := .int 2147483648) rfl T.g_HALF ⟨_, rfl⟩)) (pe_glob (v := .int 4294967296) rfl T.g_WIDE ⟨_, rfl⟩)) (pe_glob (v := .int 2147483648) rfl T.g_HALF ⟨_, rfl⟩)))), ?_⟩
    refine ⟨_, rfl, _, _, rfl, rfl, _, _, rfl, rfl, (by show (4294967296 : Int) ≠ 0; decide), _, _, rfl, rfl, ?_⟩
    exact k
abbrev s_law_wrap : Stmt := top 17
theorem sc_law_wrap : FnScope ["number"] ["number"] (defScope s_law_wrap) := ⟨rfl, rfl, rfl, by decide +kernel, rfl, by decide +kernel, by decide +kernel⟩
theorem ok_law_wrap {f : Addr} {fd : FuncData} (F : Fun K "_law_wrap" "_law_wrap" s_law_wrap f fd) (T : Txt K mg ad tW tH) : FnOk P w K mg base CX0 1 f fd ["number"] spWrap := by
  refine F.ok sc_law_wrap (fun vs H Q E h => ?_) (fun cdv A outer s H vs Q E hr h => ?_)
  · obtain ⟨a, rfl, _⟩ := h
    rfl
  · obtain ⟨n, rfl, k⟩ := h
    refine ⟨_, (pss_one (ps_ret (pe_op op_sub (pe_op op_modN (pe_callTy call_int1 (by rfl) T.b_int (by decide +kernel) (pa_cons (pe_op op_add (pv 0) pe_int) pa_nil)) pe_int) pe_int))), ?_⟩
    refine ⟨_, rfl, _, _, rfl, rfl, .inl ⟨_, rfl, _, _, rfl, rfl, (by show (4294967296 : Int) ≠ 0; decide), _, _, rfl, rfl, ?_⟩⟩
    exact k

/-! ### is_whole, is_word -/
def spWhole (K : PySem.W.Frag) : Sp := fun vs H Q _ => ∃ (v : V) (ty : String) (b1 b2 : Bool), vs = [v] ∧ TyX K H v (.type ty) ∧ kitB ty "int" = some b1 ∧ kitB ty "bool" = some b2 ∧ Q (.bl (b1 && !b2)) H
abbrev s_is_whole : Stmt := top 6
theorem sc_is_whole : FnScope ["value"] ["value"] (defScope s_is_whole) := ⟨rfl, rfl, rfl, by decide +kernel, rfl, by decide +kernel, by decide +kernel⟩
theorem ok_is_whole {f : Addr} {fd : FuncData} (F : Fun K "is_whole" "is_whole" s_is_whole f fd) (T : Txt K mg ad tW tH) : FnOk P w K mg base CX0 1 f fd ["value"] (spWhole K) := by
  refine F.ok sc_is_whole (fun vs H Q E h => ?_) (fun cdv A outer s H vs Q E hr h => ?_)
  · obtain ⟨a, _, _, _, rfl, _⟩ := h
    rfl
  · obtain ⟨v, ty, b1, b2, rfl, ht, k1, k2, k⟩ := h
    refine ⟨_, (pss_one (ps_ret (pe_and (pe_callB call_isi (by rfl) T.b_isinstance (by decide +kernel) (pa_cons (pv 0) (pa_cons (pe_bltn (v := .ty "int") (by rfl) T.b_int (by decide +kernel) rfl) pa_nil))) (pe_one (pe_not (pe_callB call_isi (by rfl) T.b_isinstance (by decide +kernel) (pa_cons (pv 0) (pa_cons (pe_bltn (v := .ty "bool") (by rfl) T.b_bool (by decide +kernel) rfl) pa_nil)))))))), ?_⟩
    refine ⟨_, rfl, v, _, _, _, b1, rfl, .ty _, ht, kit_ty k1, b1, rfl, ?_⟩
    cases b1 with
    | false => exact iteF k
    | true => exact iteT ⟨_, rfl, v, _, _, _, b2, rfl, .ty _, ht, kit_ty k2, b2, rfl, k⟩
def spWord (K : PySem.W.Frag) : Sp := fun vs H Q _ => ∃ (v : V) (ty : String) (b1 b2 r : Bool), vs = [v] ∧ TyX K H v (.type ty) ∧ kitB ty "int" = some b1 ∧ kitB ty "bool" = some b2 ∧
  ((b1 && !b2) = true → ∃ n, v = .int n ∧ r = (decide (-2147483648 ≤ n) && decide (n < 2147483648))) ∧ ((b1 && !b2) = false → r = false) ∧ Q (.bl r) H
abbrev s_is_word : Stmt := top 7
theorem sc_is_word : FnScope ["value"] ["value"] (defScope s_is_word) := ⟨rfl, rfl, rfl, by decide +kernel, rfl, by decide +kernel, by decide +kernel⟩
theorem ok_is_word {f : Addr} {fd fd1 : FuncData} (F : Fun K "is_word" "is_word" s_is_word f fd) (T : Txt K mg ad tW tH) (G_is_whole : FnOk P w K mg base CX0 1 ad.is_whole fd1 ["value"] (spWhole K)) (b_is_whole : Binds K fd1 ["value"] []) :
    FnOk P w K mg base CX0 2 f fd ["value"] (spWord K) := by
  refine F.ok sc_is_word (fun vs H Q E h => ?_) (fun cdv A outer s H vs Q E hr h => ?_)
  · obtain ⟨a, _, _, _, _, rfl, _⟩ := h
    rfl
  · obtain ⟨v, ty, b1, b2, r, rfl, ht, k1, k2, hy, hn, k⟩ := h
    refine ⟨_, (pss_one (ps_ret (pe_and (pe_call G_is_whole (hr.mono (by decide)) rfl T.g_is_whole T.k_is_whole b_is_whole .nil pass0 (pa_cons (pv 0) pa_nil)) (pe_one (pe_chain op_le op_lt (pe_un un_neg (pe_glob (v := .int 2147483648) rfl T.g_HALF ⟨_, rfl⟩)) (pv 0) (pe_glob (v := .int 2147483648) rfl T.g_HALF ⟨_, rfl⟩)))))), ?_⟩
    refine ⟨_, rfl, v, ty, b1, b2, rfl, ht, k1, k2, _, rfl, ?_⟩
    generalize hb : (b1 && !b2) = b at hy hn
    cases b with
    | false => rw [hn rfl] at k; exact iteF k
    | true =>
      obtain ⟨n, rfl, rfl⟩ := hy rfl
      refine iteT ⟨_, rfl, _, rfl, _, _, rfl, rfl, _, rfl, itd (fun c => ?_) (fun c => ?_)⟩
      · rw [decide_eq_true c] at k
        exact ⟨_, _, rfl, rfl, k⟩
      · rw [decide_eq_false c] at k
        exact k
/-! ### _law_same, at equal values -/
def spSame : Sp := fun vs H Q _ => ∃ (v : V), vs = [v, v] ∧ ((∃ n, v = .int n) ∨ (∃ b, v = .bl b) ∨ v = .non) ∧ Q (.bl true) H
abbrev s_law_same : Stmt := top 15
theorem sc_law_same : FnScope ["actual", "expected", "k"] ["actual", "expected"] (defScope s_law_same) := ⟨rfl, rfl, rfl, by decide +kernel, rfl, by decide +kernel, by decide +kernel⟩
theorem ok_law_same {f : Addr} {fd : FuncData} (F : Fun K "_law_same" "_law_same" s_law_same f fd) (T : Txt K mg ad tW tH) : FnOk P w K mg base CX0 1 f fd ["actual", "expected"] spSame := by
  refine F.ok sc_law_same (fun vs H Q E h => ?_) (fun cdv A outer s H vs Q E hr h => ?_)
  · obtain ⟨a, rfl, _⟩ := h
    rfl
  · obtain ⟨v, rfl, hv, k⟩ := h
    refine ⟨_, (pss_cons (ps_if (PW.pt (pw_or (pt_val (pe_callB call_isi (by rfl) T.b_isinstance (by decide +kernel) (pa_cons (pv 1) (pa_cons (pe_bltn (v := .ty "tuple") (by rfl) T.b_tuple (by decide +kernel) rfl) pa_nil)))) (pw_or1 (pt_val (pe_callB call_isi (by rfl) T.b_isinstance (by decide +kernel) (pa_cons (pv 1) (pa_cons (pe_bltn (v := .ty "list") (by rfl) T.b_list (by decide +kernel) rfl) pa_nil))))))) (pss_cons ps_never (pss_cons ps_never (pss_one ps_never))) pss_nil)
      (pss_cons (ps_if (pt_val (pe_callB call_isi (by rfl) T.b_isinstance (by decide +kernel) (pa_cons (pv 1) (pa_cons (pe_bltn (v := .ty "str") (by rfl) T.b_str (by decide +kernel) rfl) pa_nil)))) (pss_one (ps_ret (pe_and (pe_callB call_isi (by rfl) T.b_isinstance (by decide +kernel) (pa_cons (pv 0) (pa_cons (pe_bltn (v := .ty "str") (by rfl) T.b_str (by decide +kernel) rfl) pa_nil))) (pe_one (pe_cmpR op_eq (pv 0) (pv 1) (nomark _)))))) pss_nil)
      (pss_cons (ps_if (pt_cmpR op_isN (pv 1) pe_non (nomark _)) (pss_one (ps_ret (pe_cmpR op_isN (pv 0) pe_non (nomark _)))) pss_nil)
      (pss_cons (ps_if (PW.pt (pw_or (pt_val (pe_callB call_isi (by rfl) T.b_isinstance (by decide +kernel) (pa_cons (pv 1) (pa_cons (pe_bltn (v := .ty "bool") (by rfl) T.b_bool (by decide +kernel) rfl) pa_nil)))) (pw_or1 (pt_val (pe_callB call_isi (by rfl) T.b_isinstance (by decide +kernel) (pa_cons (pv 0) (pa_cons (pe_bltn (v := .ty "bool") (by rfl) T.b_bool (by decide +kernel) rfl) pa_nil))))))) (pss_one (ps_ret (pe_and (pe_callB call_isi (by rfl) T.b_isinstance (by decide +kernel) (pa_cons (pv 1) (pa_cons (pe_bltn (v := .ty "bool") (by rfl) T.b_bool (by decide +kernel) rfl) pa_nil))) (pe_and (pe_callB call_isi (by rfl) T.b_isinstance (by decide +kernel) (pa_cons (pv 0) (pa_cons (pe_bltn (v := .ty "bool") (by rfl) T.b_bool (by decide +kernel) rfl) pa_nil))) (pe_one (pe_cmpR op_eq (pv 0) (pv 1) (nomark _))))))) pss_nil)
      (pss_one (ps_ret (pe_and (pe_callB call_isi (by rfl) T.b_isinstance (by decide +kernel) (pa_cons (pv 0) (pa_cons (pe_bltn (v := .ty "int") (by rfl) T.b_int (by decide +kernel) rfl) pa_nil))) (pe_and (pe_callB call_isi (by rfl) T.b_isinstance (by decide +kernel) (pa_cons (pv 1) (pa_cons (pe_bltn (v := .ty "int") (by rfl) T.b_int (by decide +kernel) rfl) pa_nil))) (pe_one (pe_cmpR op_eq (pv 0) (pv 1) (nomark _))))))))))), ?_⟩
    have kt : ∀ {a b : String} {r : Bool}, kitB a b = some r → PySem.W.kitOne K (.type a) (.type b) = some r := kit_ty
    rcases hv with ⟨n, rfl⟩ | ⟨b, rfl⟩ | rfl
    · have ty : TyX K H (.int n) (.type "int") := .base (.int n)
      have e1 : decide (V.int n = V.int n) = true := decide_eq_true rfl
      refine ⟨_, rfl, _, _, _, _, false, rfl, .ty _, ty, kt (by decide +kernel), false, rfl, iteF ⟨_, rfl, _, _, _, _, false, rfl, .ty _, ty, kt (by decide +kernel), false, rfl, iteF ?_⟩⟩
      refine ⟨_, rfl, _, _, _, _, false, rfl, .ty _, ty, kt (by decide +kernel), false, rfl, iteF ?_⟩
      refine ⟨_, rfl, rfl, _, rfl, iteF ?_⟩
      refine ⟨_, rfl, _, _, _, _, false, rfl, .ty _, ty, kt (by decide +kernel), false, rfl, iteF ⟨_, rfl, _, _, _, _, false, rfl, .ty _, ty, kt (by decide +kernel), false, rfl, iteF ?_⟩⟩
      refine ⟨_, rfl, _, _, _, _, true, rfl, .ty _, ty, kt (by decide +kernel), true, rfl, iteT ⟨_, rfl, _, _, _, _, true, rfl, .ty _, ty, kt (by decide +kernel), true, rfl, iteT ⟨_, rfl, _, rfl, rfl, ?_⟩⟩⟩
      rw [e1]; exact k
    · have ty : TyX K H (.bl b) (.type "bool") := .base (.bl b)
      have e1 : decide (V.bl b = V.bl b) = true := decide_eq_true rfl
      refine ⟨_, rfl, _, _, _, _, false, rfl, .ty _, ty, kt (by decide +kernel), false, rfl, iteF ⟨_, rfl, _, _, _, _, false, rfl, .ty _, ty, kt (by decide +kernel), false, rfl, iteF ?_⟩⟩
      refine ⟨_, rfl, _, _, _, _, false, rfl, .ty _, ty, kt (by decide +kernel), false, rfl, iteF ?_⟩
      refine ⟨_, rfl, rfl, _, rfl, iteF ?_⟩
      refine ⟨_, rfl, _, _, _, _, true, rfl, .ty _, ty, kt (by decide +kernel), true, rfl, iteT (iteT ?_)⟩
      refine ⟨_, rfl, _, _, _, _, true, rfl, .ty _, ty, kt (by decide +kernel), true, rfl, iteT ⟨_, rfl, _, _, _, _, true, rfl, .ty _, ty, kt (by decide +kernel), true, rfl, iteT ⟨_, rfl, _, rfl, rfl, ?_⟩⟩⟩
      rw [e1]; exact k
    · have ty : TyX K H .non (.type "NoneType") := .base .non
      refine ⟨_, rfl, _, _, _, _, false, rfl, .ty _, ty, kt (by decide +kernel), false, rfl, iteF ⟨_, rfl, _, _, _, _, false, rfl, .ty _, ty, kt (by decide +kernel), false, rfl, iteF ?_⟩⟩
      refine ⟨_, rfl, _, _, _, _, false, rfl, .ty _, ty, kt (by decide +kernel), false, rfl, iteF ?_⟩
      refine ⟨_, rfl, rfl, _, rfl, iteT ?_⟩
      exact ⟨_, rfl, rfl, k⟩
end
end My

set_option Elab.async false
set_option maxRecDepth 100000
set_option maxHeartbeats 4000000
namespace My
open PySem L2
structure Exs (K : PySem.W.Frag) (mg : Str → Option Value) (a : Ad) : Prop where
  g_BackError : mg "BackError" = some (.ref a.BackError)
  g_BadRun : mg "BadRun" = some (.ref a.BadRun)
  k_BadRun : PySem.W.keepIn K (.ref a.BadRun) = true
  x_BadRun : PySem.W.excIn K a.BadRun [.type "ValueError", .type "Exception", .type "BaseException", .type "object"] "ValueError.__new__" = true
  sb_BadRun : PySem.W.subIn K (.ref a.BadRun) (.type "BaseException") = some true
  ty_BadRun : PySem.W.typeIn K (.ref a.BadRun) = some (.type "type")
  ec_BadRun : ExcC K a.BadRun
  ki_BadRun : PySem.W.kitOne K (.ref a.BadRun) (.ref a.BadRun) = some true
  ex : PySem.W.exmOne K (.ref a.BadRun) (.ref a.BackError) = some true
/-- isinstance(e, c), e the exception that the suite holds, its class told at the reading -/
def rIsE2 (K : PySem.W.Frag) (cls : Value) (d : Option Addr) (a : Addr) : List V → Hp → VK → Prop := fun xs H Q => ∃ D, cls = .ref D ∧ d = none ∧ ExcC K D ∧ rIsE K D a xs H Q
theorem call_isE2 {X : Cx} {a : Addr} {oe : Obj} {cls : Value} {d : Option Addr} {pn : List (Addr × Obj)} (hz : Zc cls d oe) (hf : ∃ vs, oe.data = .fields vs) : CallR (X.suite a ((a, oe) :: pn)) (.builtin "isinstance") (rIsE2 X.K cls d a) := by
  intro pins s σ H xs us Q I r h
  obtain ⟨D, rfl, rfl, C, h⟩ := h
  exact call_isE C hz hf pins s σ H xs us Q I r h
section
variable {P : Program} {w : World} {K : PySem.W.Frag} {mg : Str → Option Value} {base : Heap} {ad : Ad} {tW tH : Tok}

/-! ### divided -/
def absI (n : Int) : Int := if n < 0 then -n else n
def divW (a b : Int) : Int := if V.bl (decide (a < 0)) = V.bl (decide (b < 0)) then absI a / absI b else -(absI a / absI b)
def divV (nm : Str) (a b : Int) : V := if b = 0 then .non else if nm = "div" then .int (wr (divW a b)) else .int (wr (a - divW a b * b))
theorem absI_pos {b : Int} (h : b ≠ 0) : 0 < absI b := by unfold absI; split <;> omega
theorem absI_div {b : Int} (h : b ≠ 0) (hw : Word b) : CDivW 0 (absI b) := by
  refine ⟨absI_pos h, ?_⟩
  have h1 : (absI b).natAbs < 2 ^ 40 := by
    have := hw.1; have := hw.2
    unfold absI; split <;> omega
  exact Nat.lt_of_lt_of_le (PySem.Flt.log2_lt_of (by decide) h1) (by decide)
def spDivided : Sp := fun vs H Q _ => ∃ (nm : Str) (a b : Int), vs = [.str nm, .int a, .int b] ∧ Word b ∧ Q (divV nm a b) H
abbrev s_divided : Stmt := top 10
theorem sc_divided : FnScope ["name", "one", "two", "whole"] ["name", "one", "two"] (defScope s_divided) := ⟨rfl, rfl, rfl, by decide +kernel, rfl, by decide +kernel, by decide +kernel⟩
theorem ok_divided {f : Addr} {fd fd1 : FuncData} (F : Fun K "divided" "divided" s_divided f fd) (T : Txt K mg ad tW tH) (G_wrap : FnOk P w K mg base CX0 1 ad.wrap fd1 ["number"] spWrap) (b_wrap : Binds K fd1 ["number"] []) :
    FnOk P w K mg base CX0 2 f fd ["name", "one", "two"] spDivided := by
  refine F.ok sc_divided (fun vs H Q E h => ?_) (fun cdv A outer s H vs Q E hr h => ?_)
  · obtain ⟨a, b, c, rfl, _⟩ := h
    rfl
  · obtain ⟨nm, a, b, rfl, hw, k⟩ := h
    refine ⟨_, (pss_cons (ps_if (pt_cmpR op_eq (pv 2) pe_int (nomark _)) (pss_one (ps_ret pe_non)) pss_nil)
      (pss_cons (ps_set (i := 3) sc_divided.nd rfl (Or.inl rfl) (pe_op op_fdivW (pe_callB call_abs (by rfl) T.b_abs (by decide +kernel) (pa_cons (pv 1) pa_nil)) (pe_callB call_abs (by rfl) T.b_abs (by decide +kernel) (pa_cons (pv 2) pa_nil))))
      (Evl.pss_cut (ps_set (i := 3) sc_divided.nd rfl (Or.inl rfl) (pe_ifExp (pt_cmpR op_eq (pe_cmpR op_lt (pv 1) pe_int (nomark _)) (pe_cmpR op_lt (pv 2) pe_int (nomark _)) (nomark _)) (pv 3) (pe_un un_neg (pv 3))))
      (pss_one (ps_ret (pe_ifExp (pt_cmpR op_eq (pv 0) pe_str (nomark _)) (pe_call G_wrap (hr.mono (by decide)) rfl T.g_wrap T.k_wrap b_wrap .nil pass0 (pa_cons (pv 3) pa_nil)) (pe_call G_wrap (hr.mono (by decide)) rfl T.g_wrap T.k_wrap b_wrap .nil pass0 (pa_cons (pe_op op_sub (pv 1) (pe_op op_mul (pv 3) (pv 2))) pa_nil)))))))), ?_⟩
    refine ⟨_, rfl, rfl, _, rfl, itd (fun c => ?_) (fun c => ?_)⟩
    · have e : divV nm a b = .non := if_pos (V.int.inj c)
      rw [e] at k
      exact k
    · have hb : b ≠ 0 := fun e => c (by rw [e])
      refine ⟨_, rfl, a, rfl, _, rfl, b, rfl, _, _, rfl, rfl, absI_div hb hw, ?_⟩
      refine ⟨fun σ' H' => σ' = [some (.str nm), some (.int a), some (.int b), some (.int (divW a b))] ∧ H' = H, ?_, ?_⟩
      · refine ⟨_, rfl, _, _, rfl, rfl, _, rfl, _, _, rfl, rfl, rfl, _, rfl, itd (fun c2 => ?_) (fun c2 => ?_)⟩
        · refine ⟨_, rfl, ?_⟩
          have e : divW a b = absI a / absI b := if_pos c2
          exact ⟨by rw [e]; rfl, rfl⟩
        · refine ⟨_, rfl, _, rfl, ?_⟩
          have e : divW a b = -(absI a / absI b) := if_neg c2
          exact ⟨by rw [e]; rfl, rfl⟩
      · rintro σ' H' ⟨rfl, rfl⟩
        refine ⟨_, rfl, rfl, _, rfl, itd (fun c2 => ?_) (fun c2 => ?_)⟩
        · have e : divV nm a b = .int (wr (divW a b)) := by unfold divV; rw [if_neg hb, if_pos (V.str.inj c2)]
          rw [e] at k
          exact ⟨_, rfl, _, rfl, k⟩
        · have e : divV nm a b = .int (wr (a - divW a b * b)) := by unfold divV; rw [if_neg hb, if_neg (fun q => c2 (by rw [q]))]
          rw [e] at k
          exact ⟨_, rfl, _, rfl, _, rfl, _, _, rfl, rfl, .inr ⟨by have := hw.1; omega, by have := hw.2; omega⟩, _, _, rfl, rfl, _, rfl, k⟩
/-! ### worked -/
theorem eqv_str {a b : Str} : eqV (.str a) (.str b) = true ↔ b = a := by
  show (a == b) = true ↔ b = a
  rw [beq_iff_eq]; exact eq_comm
theorem in2 {nm a b : Str} : inV (.str nm) [.str a, .str b] = true ↔ nm = a ∨ nm = b := by
  show (eqV (.str a) (.str nm) || (eqV (.str b) (.str nm) || false)) = true ↔ _
  rw [Bool.or_eq_true, Bool.or_false, eqv_str, eqv_str]
theorem in3 {nm a b c : Str} : inV (.str nm) [.str a, .str b, .str c] = true ↔ nm = a ∨ nm = b ∨ nm = c := by
  show (eqV (.str a) (.str nm) || (eqV (.str b) (.str nm) || (eqV (.str c) (.str nm) || false))) = true ↔ _
  rw [Bool.or_eq_true, Bool.or_eq_true, Bool.or_false, eqv_str, eqv_str, eqv_str]
def workedV (nm : Str) (a b : Int) : Option V :=
  if nm = "add" then some (.int (wr (a + b))) else if nm = "sub" then some (.int (wr (a - b))) else if nm = "mul" then some (.int (wr (a * b)))
  else if inV (.str nm) [.str "div", .str "rem"] = true then some (divV nm a b)
  else if nm = "and" then some (.int (wr (Builtin.bitAnd (a.fmod 4294967296) (b.fmod 4294967296))))
  else if nm = "or" then some (.int (wr (Builtin.bitOr (a.fmod 4294967296) (b.fmod 4294967296))))
  else if nm = "xor" then some (.int (wr (Builtin.bitXor (a.fmod 4294967296) (b.fmod 4294967296)))) else none
def spWorked (ad : Ad) : Sp := fun vs H Q E => ∃ (nm : Str) (a b : Int), vs = [.str nm, .int a, .int b] ∧ Word a ∧ Word b ∧
  (∀ r H', workedV nm a b = some r → Same H H' → Q r H') ∧ (workedV nm a b = none → ∀ H', Same H H' → E (.ref ad.BadRun) none H')
theorem same_new {H : Hp} {p : Addr} {o : HO} (h : H p = none) : Same H (upd H p o) := fun b u e => by
  rw [upd_ne (ne_of_none e h)]; exact e
abbrev s_worked : Stmt := top 9
theorem sc_worked : FnScope ["name", "one", "two"] ["name", "one", "two"] (defScope s_worked) := ⟨rfl, rfl, rfl, by decide +kernel, rfl, by decide +kernel, by decide +kernel⟩
theorem ok_worked {f : Addr} {fd fd1 fd2 : FuncData} (F : Fun K "worked" "worked" s_worked f fd) (T : Txt K mg ad tW tH) (X : Exs K mg ad) (G_wrap : FnOk P w K mg base CX0 1 ad.wrap fd1 ["number"] spWrap) (b_wrap : Binds K fd1 ["number"] [])
    (G_divided : FnOk P w K mg base CX0 2 ad.divided fd2 ["name", "one", "two"] spDivided) (b_divided : Binds K fd2 ["name", "one", "two"] []) :
    FnOk P w K mg base (L2.CX P w) 3 f fd ["name", "one", "two"] (spWorked ad) := by
  refine F.okX sc_worked (fun vs H Q E h => ?_) (fun cdv A outer s H vs Q E hr h => ?_)
  · obtain ⟨a, b, c, rfl, _⟩ := h
    rfl
  · obtain ⟨nm, a, b, rfl, ha, hb, k, kE⟩ := h
    refine ⟨_, (pss_cons (ps_if (pt_cmpR op_eq (pv 0) pe_str (nomark _)) (pss_one (ps_ret (pe_call G_wrap (hr.mono (by decide)) rfl T.g_wrap T.k_wrap b_wrap .nil pass0 (pa_cons (pe_op op_add (pv 1) (pv 2)) pa_nil)))) pss_nil)
      (pss_cons (ps_if (pt_cmpR op_eq (pv 0) pe_str (nomark _)) (pss_one (ps_ret (pe_call G_wrap (hr.mono (by decide)) rfl T.g_wrap T.k_wrap b_wrap .nil pass0 (pa_cons (pe_op op_sub (pv 1) (pv 2)) pa_nil)))) pss_nil)
      (pss_cons (ps_if (pt_cmpR op_eq (pv 0) pe_str (nomark _)) (pss_one (ps_ret (pe_call G_wrap (hr.mono (by decide)) rfl T.g_wrap T.k_wrap b_wrap .nil pass0 (pa_cons (pe_op op_mul (pv 1) (pv 2)) pa_nil)))) pss_nil)
      (pss_cons (ps_if (pt_cmpR op_in_seq (pv 0) (pe_tup (pa_cons pe_str (pa_cons pe_str pa_nil))) (by rfl)) (pss_one (ps_ret (pe_call G_divided (hr.mono (by decide)) rfl T.g_divided T.k_divided b_divided .nil pass0 (pa_cons (pv 0) (pa_cons (pv 1) (pa_cons (pv 2) pa_nil)))))) pss_nil)
      (pss_cons (ps_if (pt_cmpR op_eq (pv 0) pe_str (nomark _)) (pss_one (ps_ret (pe_call G_wrap (hr.mono (by decide)) rfl T.g_wrap T.k_wrap b_wrap .nil pass0 (pa_cons (pe_op op_and (pe_op op_modN (pv 1) (pe_glob (v := .int 4294967296) rfl T.g_WIDE ⟨_, rfl⟩)) (pe_op op_modN (pv 2) (pe_glob (v := .int 4294967296) rfl T.g_WIDE ⟨_, rfl⟩))) pa_nil)))) pss_nil)
      (pss_cons (ps_if (pt_cmpR op_eq (pv 0) pe_str (nomark _)) (pss_one (ps_ret (pe_call G_wrap (hr.mono (by decide)) rfl T.g_wrap T.k_wrap b_wrap .nil pass0 (pa_cons (pe_op op_or (pe_op op_modN (pv 1) (pe_glob (v := .int 4294967296) rfl T.g_WIDE ⟨_, rfl⟩)) (pe_op op_modN (pv 2) (pe_glob (v := .int 4294967296) rfl T.g_WIDE ⟨_, rfl⟩))) pa_nil)))) pss_nil)
      (pss_cons (ps_if (pt_cmpR op_eq (pv 0) pe_str (nomark _)) (pss_one (ps_ret (pe_call G_wrap (hr.mono (by decide)) rfl T.g_wrap T.k_wrap b_wrap .nil pass0 (pa_cons (pe_op op_xor (pe_op op_modN (pv 1) (pe_glob (v := .int 4294967296) rfl T.g_WIDE ⟨_, rfl⟩)) (pe_op op_modN (pv 2) (pe_glob (v := .int 4294967296) rfl T.g_WIDE ⟨_, rfl⟩))) pa_nil)))) pss_nil)
      (pss_one (ps_raise rfl (takes_of rfl rfl rfl rfl) (pmk_own PySem.F.excBase_ValueError X.x_BadRun X.g_BadRun X.k_BadRun (raises_own X.sb_BadRun X.ty_BadRun) rfl)))))))))), ?_⟩
    have W0 : (4294967296 : Int) ≠ 0 := by decide
    unfold workedV at k kE
    refine ⟨_, rfl, rfl, _, rfl, itd (fun c => ?_) (fun c => ?_)⟩
    · rw [if_pos (V.str.inj c)] at k
      exact ⟨_, rfl, _, rfl, _, _, rfl, rfl, _, rfl, k _ _ rfl (Same.refl _)⟩
    have c' : ¬ nm = "add" := fun q => c (by rw [q])
    rw [if_neg c'] at k kE
    clear c c'
    refine ⟨_, rfl, rfl, _, rfl, itd (fun c => ?_) (fun c => ?_)⟩
    · rw [if_pos (V.str.inj c)] at k
      exact ⟨_, rfl, _, rfl, _, _, rfl, rfl, _, rfl, k _ _ rfl (Same.refl _)⟩
    have c' : ¬ nm = "sub" := fun q => c (by rw [q])
    rw [if_neg c'] at k kE
    clear c c'
    refine ⟨_, rfl, rfl, _, rfl, itd (fun c => ?_) (fun c => ?_)⟩
    · rw [if_pos (V.str.inj c)] at k
      exact ⟨_, rfl, _, rfl, _, _, rfl, rfl, .inl ⟨by have := ha.1; omega, by have := ha.2; omega⟩, _, rfl, k _ _ rfl (Same.refl _)⟩
    have c' : ¬ nm = "mul" := fun q => c (by rw [q])
    rw [if_neg c'] at k kE
    clear c c'
    refine ⟨_, rfl, (by show 2 ≤ sizeLine; decide), fun p hp => ⟨p, _, rfl, .inr (SqT.of upd_same), rfl, rfl, _, rfl, ?_⟩⟩
    have sm : Same H (upd H p (.tup [.str "div", .str "rem"])) := same_new hp
    refine ite2 (fun c => ?_) (fun c => ?_)
    · have c' : inV (.str nm) [.str "div", .str "rem"] = true := c
      rw [if_pos c'] at k
      exact ⟨_, rfl, _, rfl, _, rfl, nm, a, b, rfl, hb, k _ _ rfl sm⟩
    have c' : ¬ inV (.str nm) [.str "div", .str "rem"] = true := c
    rw [if_neg c'] at k kE
    clear c c'
    refine ⟨_, rfl, rfl, _, rfl, itd (fun c => ?_) (fun c => ?_)⟩
    · rw [if_pos (V.str.inj c)] at k
      exact ⟨_, rfl, _, _, rfl, rfl, W0, _, rfl, _, _, rfl, rfl, W0, _, _, rfl, rfl, _, rfl, k _ _ rfl sm⟩
    have c' : ¬ nm = "and" := fun q => c (by rw [q])
    rw [if_neg c'] at k kE
    clear c c'
    refine ⟨_, rfl, rfl, _, rfl, itd (fun c => ?_) (fun c => ?_)⟩
    · rw [if_pos (V.str.inj c)] at k
      exact ⟨_, rfl, _, _, rfl, rfl, W0, _, rfl, _, _, rfl, rfl, W0, _, _, rfl, rfl, _, rfl, k _ _ rfl sm⟩
    have c' : ¬ nm = "or" := fun q => c (by rw [q])
    rw [if_neg c'] at k kE
    clear c c'
    refine ⟨_, rfl, rfl, _, rfl, itd (fun c => ?_) (fun c => ?_)⟩
    · rw [if_pos (V.str.inj c)] at k
      exact ⟨_, rfl, _, _, rfl, rfl, W0, _, rfl, _, _, rfl, rfl, W0, _, _, rfl, rfl, _, rfl, k _ _ rfl sm⟩
    have c' : ¬ nm = "xor" := fun q => c (by rw [q])
    rw [if_neg c'] at kE
    exact kE rfl _ sm
end
end My

set_option Elab.async false
set_option maxRecDepth 100000
set_option maxHeartbeats 4000000
namespace My
open PySem L2
section
variable {P : Program} {w : World} {K : PySem.W.Frag} {mg : Str → Option Value} {base : Heap} {ad : Ad} {tW tH : Tok}

/-! ### holds, _law_cond -/
def condKV (a b : Int) : List (Key × V) := [(.inr "lt", .bl (decide (a < b))), (.inr "le", .bl (decide (a ≤ b))), (.inr "eq", .bl (decide (V.int a = V.int b))), (.inr "ne", .bl (!decide (V.int a = V.int b))),
  (.inr "gt", .bl (decide (b < a))), (.inr "ge", .bl (decide (b ≤ a)))]
def condV (nm : Str) (a b : Int) : Option V := valV (mergeK [] (condKV a b)) (.inr nm)
def spHolds (ad : Ad) : Sp := fun vs H Q E => ∃ (nm : Str) (a b : Int), vs = [.str nm, .int a, .int b] ∧
  (∀ r H', condV nm a b = some r → Same H H' → Q r H') ∧ (condV nm a b = none → ∀ H', Same H H' → E (.ref ad.BadRun) none H')
abbrev s_holds : Stmt := top 11
theorem sc_holds : FnScope ["condition", "one", "two", "told"] ["condition", "one", "two"] (defScope s_holds) := ⟨rfl, rfl, rfl, by decide +kernel, rfl, by decide +kernel, by decide +kernel⟩
theorem ok_holds {f : Addr} {fd : FuncData} (F : Fun K "holds" "holds" s_holds f fd) (T : Txt K mg ad tW tH) (X : Exs K mg ad) : FnOk P w K mg base (L2.CX P w) 3 f fd ["condition", "one", "two"] (spHolds ad) := by
  refine F.okX sc_holds (fun vs H Q E h => ?_) (fun cdv A outer s H vs Q E hr h => ?_)
  · obtain ⟨a, b, c, rfl, _⟩ := h
    rfl
  · obtain ⟨nm, a, b, rfl, k, kE⟩ := h
    refine ⟨_, (pss_cons (ps_set (i := 3) sc_holds.nd rfl (Or.inl rfl) (pe_disp (pps_cons pe_str (pe_cmpR op_lt (pv 1) (pv 2) (nomark _)) (pps_cons pe_str (pe_cmpR op_le (pv 1) (pv 2) (nomark _)) (pps_cons pe_str (pe_cmpR op_eq (pv 1) (pv 2) (nomark _)) (pps_cons pe_str (pe_cmpR op_ne (pv 1) (pv 2) (nomark _)) (pps_cons pe_str (pe_cmpR op_gt (pv 1) (pv 2) (nomark _)) (pps_cons pe_str (pe_cmpR op_ge (pv 1) (pv 2) (nomark _)) pps_nil)))))) (by rfl) (by rfl) (fun z => by cases z) (by decide)))
      (pss_cons (ps_if (PW.pt (pw_or (pt_not (pt_val (pe_callB call_isi (by rfl) T.b_isinstance (by decide +kernel) (pa_cons (pv 0) (pa_cons (pe_bltn (v := .ty "str") (by rfl) T.b_str (by decide +kernel) rfl) pa_nil))))) (pw_or1 (pt_cmp (pc_dnotin (hu_of hr) (pv 0) (pv 3)))))) (pss_one (ps_raise rfl (takes_of rfl rfl rfl rfl) (pmk_own PySem.F.excBase_ValueError X.x_BadRun X.g_BadRun X.k_BadRun (raises_own X.sb_BadRun X.ty_BadRun) rfl))) pss_nil)
      (pss_one (ps_ret (pe_dget (hu_of hr) (pv 3) (pv 0) (fun _ _ => rfl)))))), ?_⟩
    intro p hp
    refine ⟨_, rfl, _, rfl, _, _, rfl, rfl, _, rfl, _, rfl, _, _, rfl, rfl, _, rfl, _, rfl, rfl, _, rfl, _, rfl, rfl, _, rfl, _, rfl, _, _, rfl, rfl, _, rfl, _, rfl, _, _, rfl, rfl, upd_same, condKV a b, rfl, (by show 6 ≤ 15; decide), ?_⟩
    rw [upd_upd]
    have sm : Same H (upd H p (.dK (mergeK [] (condKV a b)))) := same_new hp
    refine ⟨_, rfl, .str nm, _, _, _, true, rfl, .ty _, .base (.str nm), kit_ty (by decide +kernel), true, rfl, iteF ?_⟩
    refine ⟨_, rfl, _, rfl, p, _, rfl, DGet.k (k := Sum.inr nm) upd_same, _, rfl, ?_⟩
    cases ho : condV nm a b with
    | none =>
      have ho' : valV (mergeK [] (condKV a b)) (Sum.inr nm) = none := ho
      rw [ho']
      exact iteT (kE ho _ sm)
    | some r =>
      have ho' : valV (mergeK [] (condKV a b)) (Sum.inr nm) = some r := ho
      rw [ho']
      refine iteF ⟨_, rfl, _, rfl, p, r, rfl, ?_, k r _ ho sm⟩
      rw [← ho']
      exact DGet.k (k := Sum.inr nm) upd_same
def spCond : Sp := fun vs H Q _ => ∃ (nm : Str) (a b : Int) (r : V), vs = [.str nm, .int a, .int b] ∧ condV nm a b = some r ∧ ∀ H', Same H H' → Q r H'
abbrev s_law_cond : Stmt := top 19
theorem sc_law_cond : FnScope ["cond", "one", "two"] ["cond", "one", "two"] (defScope s_law_cond) := ⟨rfl, rfl, rfl, by decide +kernel, rfl, by decide +kernel, by decide +kernel⟩
theorem ok_law_cond {f : Addr} {fd : FuncData} (F : Fun K "_law_cond" "_law_cond" s_law_cond f fd) (T : Txt K mg ad tW tH) : FnOk P w K mg base CX0 1 f fd ["cond", "one", "two"] spCond := by
  refine F.ok sc_law_cond (fun vs H Q E h => ?_) (fun cdv A outer s H vs Q E hr h => ?_)
  · obtain ⟨a, b, c, r, rfl, _⟩ := h
    rfl
  · obtain ⟨nm, a, b, r, rfl, hk, k⟩ := h
    refine ⟨_, (pss_one (ps_ret (pe_dget (hu_of hr) (pe_disp (pps_cons pe_str (pe_cmpR op_lt (pv 1) (pv 2) (nomark _)) (pps_cons pe_str (pe_cmpR op_le (pv 1) (pv 2) (nomark _)) (pps_cons pe_str (pe_cmpR op_eq (pv 1) (pv 2) (nomark _)) (pps_cons pe_str (pe_cmpR op_ne (pv 1) (pv 2) (nomark _)) (pps_cons pe_str (pe_cmpR op_gt (pv 1) (pv 2) (nomark _)) (pps_cons pe_str (pe_cmpR op_ge (pv 1) (pv 2) (nomark _)) pps_nil)))))) (by rfl) (by rfl) (fun z => by cases z) (by decide)) (pv 0) (fun _ _ => rfl)))), ?_⟩
    intro p hp
    refine ⟨_, rfl, _, rfl, _, _, rfl, rfl, _, rfl, _, rfl, _, _, rfl, rfl, _, rfl, _, rfl, rfl, _, rfl, _, rfl, rfl, _, rfl, _, rfl, _, _, rfl, rfl, _, rfl, _, rfl, _, _, rfl, rfl, upd_same, condKV a b, rfl, (by show 6 ≤ 15; decide), ?_⟩
    rw [upd_upd]
    have sm : Same H (upd H p (.dK (mergeK [] (condKV a b)))) := same_new hp
    refine ⟨_, rfl, p, r, rfl, ?_, k _ sm⟩
    have ho' : valV (mergeK [] (condKV a b)) (Sum.inr nm) = some r := hk
    rw [← ho']
    exact DGet.k (k := Sum.inr nm) upd_same

/-! ### _law_work -/
def maxI (i j : Int) : Int := if j > i then j else i
def divL (a b : Int) : Int := if V.bl (decide (a < 0)) = V.bl (decide (b < 0)) then maxI a (-a) / maxI b (-b) else -(maxI a (-a) / maxI b (-b))
theorem maxI_abs (a : Int) : maxI a (-a) = absI a := by
  unfold maxI absI; split <;> split <;> omega
theorem divL_eq (a b : Int) : divL a b = divW a b := by unfold divL divW; rw [maxI_abs, maxI_abs]
def lawV (nm : Str) (a b : Int) : V :=
  if inV (.str nm) [.str "div", .str "rem"] = true then (if b = 0 then .non else .int (wr (if nm = "div" then divL a b else a - divL a b * b)))
  else if inV (.str nm) [.str "and", .str "or", .str "xor"] = true then .int (if nm = "and" then Builtin.bitAnd a b else if nm = "or" then Builtin.bitOr a b else Builtin.bitXor a b)
  else .int (wr (if nm = "add" then a + b else if nm = "sub" then a - b else a * b))
def spWork : Sp := fun vs H Q _ => ∃ (nm : Str) (a b : Int), vs = [.str nm, .int a, .int b] ∧ Word a ∧ Word b ∧ ∀ H', Same H H' → Q (lawV nm a b) H'
abbrev s_law_work : Stmt := top 18
theorem sc_law_work : FnScope ["name", "one", "two", "whole"] ["name", "one", "two"] (defScope s_law_work) := ⟨rfl, rfl, rfl, by decide +kernel, rfl, by decide +kernel, by decide +kernel⟩
theorem ok_law_work {f : Addr} {fd fd1 : FuncData} (F : Fun K "_law_work" "_law_work" s_law_work f fd) (T : Txt K mg ad tW tH) (G_law_wrap : FnOk P w K mg base CX0 1 ad.law_wrap fd1 ["number"] spWrap) (b_law_wrap : Binds K fd1 ["number"] []) :
    FnOk P w K mg base CX0 2 f fd ["name", "one", "two"] spWork := by
  refine F.ok sc_law_work (fun vs H Q E h => ?_) (fun cdv A outer s H vs Q E hr h => ?_)
  · obtain ⟨a, b, c, rfl, _⟩ := h
    rfl
  · obtain ⟨nm, a, b, rfl, ha, hb, k⟩ := h
    refine ⟨_, (pss_cons (ps_if (pt_cmpR op_in_seq (pv 0) (pe_tup (pa_cons pe_str (pa_cons pe_str pa_nil))) (by rfl)) (pss_cons (ps_if (pt_cmpR op_eq (pv 2) pe_int (nomark _)) (pss_one (ps_ret pe_non)) pss_nil)
      (pss_cons (ps_set (i := 3) sc_law_work.nd rfl (Or.inl rfl) (pe_op op_fdivW (pe_callB (call_max2 rfl) (by rfl) T.b_max (by decide +kernel) (pa_cons (pv 1) (pa_cons (pe_un un_neg (pv 1)) pa_nil))) (pe_callB (call_max2 rfl) (by rfl) T.b_max (by decide +kernel) (pa_cons (pv 2) (pa_cons (pe_un un_neg (pv 2)) pa_nil)))))
      (Evl.pss_cut (ps_set (i := 3) sc_law_work.nd rfl (Or.inl rfl) (pe_ifExp (pt_cmpR op_eq (pe_cmpR op_lt (pv 1) pe_int (nomark _)) (pe_cmpR op_lt (pv 2) pe_int (nomark _)) (nomark _)) (pv 3) (pe_un un_neg (pv 3))))
      (pss_one (ps_ret (pe_call G_law_wrap (hr.mono (by decide)) rfl T.g_law_wrap T.k_law_wrap b_law_wrap .nil pass0 (pa_cons (pe_ifExp (pt_cmpR op_eq (pv 0) pe_str (nomark _)) (pv 3) (pe_op op_sub (pv 1) (pe_op op_mul (pv 3) (pv 2)))) pa_nil))))))) pss_nil)
      (pss_cons (ps_if (pt_cmpR op_in_seq (pv 0) (pe_tup (pa_cons pe_str (pa_cons pe_str (pa_cons pe_str pa_nil)))) (by rfl)) (pss_one (ps_ret (pe_ifExp (pt_cmpR op_eq (pv 0) pe_str (nomark _)) (pe_op op_and (pv 1) (pv 2)) (pe_ifExp (pt_cmpR op_eq (pv 0) pe_str (nomark _)) (pe_op op_or (pv 1) (pv 2)) (pe_op op_xor (pv 1) (pv 2)))))) pss_nil)
      (pss_one (ps_ret (pe_call G_law_wrap (hr.mono (by decide)) rfl T.g_law_wrap T.k_law_wrap b_law_wrap .nil pass0 (pa_cons (pe_ifExp (pt_cmpR op_eq (pv 0) pe_str (nomark _)) (pe_op op_add (pv 1) (pv 2)) (pe_ifExp (pt_cmpR op_eq (pv 0) pe_str (nomark _)) (pe_op op_sub (pv 1) (pv 2)) (pe_op op_mul (pv 1) (pv 2)))) pa_nil)))))), ?_⟩
    refine ⟨_, rfl, (by show 2 ≤ sizeLine; decide), fun p hp => ⟨p, _, rfl, .inr (SqT.of upd_same), rfl, rfl, _, rfl, ?_⟩⟩
    have sm : Same H (upd H p (.tup [.str "div", .str "rem"])) := same_new hp
    refine ite2 (fun c => ?_) (fun c => ?_)
    · have c' : inV (.str nm) [.str "div", .str "rem"] = true := c
      have e0 : lawV nm a b = if b = 0 then .non else .int (wr (if nm = "div" then divL a b else a - divL a b * b)) := if_pos c'
      rw [e0] at k
      refine ⟨_, rfl, rfl, _, rfl, itd (fun c2 => ?_) (fun c2 => ?_)⟩
      · rw [if_pos (V.int.inj c2)] at k
        exact k _ sm
      · have b0 : b ≠ 0 := fun q => c2 (by rw [q])
        rw [if_neg b0] at k
        refine ⟨_, rfl, _, rfl, _, rfl, a, -a, rfl, _, rfl, _, rfl, _, rfl, b, -b, rfl, _, _, rfl, rfl, ?_, ?_⟩
        · have h := absI_div b0 hb
          rw [← maxI_abs] at h
          exact h
        refine ⟨fun σ' H' => σ' = [some (.str nm), some (.int a), some (.int b), some (.int (divL a b))] ∧ H' = upd H p (.tup [.str "div", .str "rem"]), ?_, ?_⟩
        · refine ⟨_, rfl, _, _, rfl, rfl, _, rfl, _, _, rfl, rfl, rfl, _, rfl, itd (fun c2 => ?_) (fun c2 => ?_)⟩
          · refine ⟨_, rfl, ?_⟩
            have e : divL a b = maxI a (-a) / maxI b (-b) := if_pos c2
            exact ⟨by rw [e]; rfl, rfl⟩
          · refine ⟨_, rfl, _, rfl, ?_⟩
            have e : divL a b = -(maxI a (-a) / maxI b (-b)) := if_neg c2
            exact ⟨by rw [e]; rfl, rfl⟩
        · rintro σ' H' ⟨rfl, rfl⟩
          refine ⟨_, rfl, rfl, _, rfl, itd (fun c2 => ?_) (fun c2 => ?_)⟩
          · rw [if_pos (V.str.inj c2)] at k
            exact ⟨_, rfl, _, rfl, k _ sm⟩
          · rw [if_neg (fun q => c2 (by rw [q]))] at k
            exact ⟨_, rfl, _, rfl, _, rfl, _, _, rfl, rfl, .inr ⟨by have := hb.1; omega, by have := hb.2; omega⟩, _, _, rfl, rfl, _, rfl, k _ sm⟩
    · have c' : ¬ inV (.str nm) [.str "div", .str "rem"] = true := c
      refine ⟨_, rfl, (by show 3 ≤ sizeLine; decide), fun p2 hp2 => ⟨p2, _, rfl, .inr (SqT.of upd_same), rfl, rfl, _, rfl, ?_⟩⟩
      have sm2 : Same H (upd (upd H p (.tup [.str "div", .str "rem"])) p2 (.tup [.str "and", .str "or", .str "xor"])) := sm.trans (same_new hp2)
      refine ite2 (fun c => ?_) (fun c => ?_)
      · have c2' : inV (.str nm) [.str "and", .str "or", .str "xor"] = true := c
        have e0 : lawV nm a b = .int (if nm = "and" then Builtin.bitAnd a b else if nm = "or" then Builtin.bitOr a b else Builtin.bitXor a b) := by
          unfold lawV; rw [if_neg c', if_pos c2']
        rw [e0] at k
        refine ⟨_, rfl, rfl, _, rfl, itd (fun c2 => ?_) (fun c2 => ?_)⟩
        · rw [if_pos (V.str.inj c2)] at k
          exact ⟨_, rfl, _, rfl, _, _, rfl, rfl, k _ sm2⟩
        rw [if_neg (fun q => c2 (by rw [q]))] at k
        refine ⟨_, rfl, rfl, _, rfl, itd (fun c2 => ?_) (fun c2 => ?_)⟩
        · rw [if_pos (V.str.inj c2)] at k
          exact ⟨_, rfl, _, rfl, _, _, rfl, rfl, k _ sm2⟩
        · rw [if_neg (fun q => c2 (by rw [q]))] at k
          exact ⟨_, rfl, _, rfl, _, _, rfl, rfl, k _ sm2⟩
      · have c2' : ¬ inV (.str nm) [.str "and", .str "or", .str "xor"] = true := c
        have e0 : lawV nm a b = .int (wr (if nm = "add" then a + b else if nm = "sub" then a - b else a * b)) := by
          unfold lawV; rw [if_neg c', if_neg c2']
        rw [e0] at k
        refine ⟨_, rfl, rfl, _, rfl, itd (fun c2 => ?_) (fun c2 => ?_)⟩
        · rw [if_pos (V.str.inj c2)] at k
          exact ⟨_, rfl, _, rfl, _, _, rfl, rfl, _, rfl, k _ sm2⟩
        rw [if_neg (fun q => c2 (by rw [q]))] at k
        refine ⟨_, rfl, rfl, _, rfl, itd (fun c2 => ?_) (fun c2 => ?_)⟩
        · rw [if_pos (V.str.inj c2)] at k
          exact ⟨_, rfl, _, rfl, _, _, rfl, rfl, _, rfl, k _ sm2⟩
        · rw [if_neg (fun q => c2 (by rw [q]))] at k
          exact ⟨_, rfl, _, rfl, _, _, rfl, rfl, .inl ⟨by have := ha.1; omega, by have := ha.2; omega⟩, _, rfl, k _ sm2⟩
/-! ### the two agree -/
def names8 : List Str := ["add", "sub", "mul", "div", "rem", "and", "or", "xor"]
theorem agree {a b : Int} (ha : Word a) (hb : Word b) : ∀ nm ∈ names8, workedV nm a b = some (lawV nm a b) := by
  intro nm h
  have n1 : ∀ {x y : Str}, (x == y) = false → ¬ x = y := fun h e => by rw [e, beq_self_eq_true] at h; cases h
  simp only [names8, List.mem_cons, List.not_mem_nil, or_false] at h
  rcases h with rfl | rfl | rfl | rfl | rfl | rfl | rfl | rfl
  · have i1 : inV (.str "add") [.str "div", .str "rem"] = false := by decide +kernel
    have i2 : inV (.str "add") [.str "and", .str "or", .str "xor"] = false := by decide +kernel
    unfold workedV lawV
    rw [if_pos rfl, i1, i2, if_neg Bool.false_ne_true, if_neg Bool.false_ne_true, if_pos rfl]
  · have i1 : inV (.str "sub") [.str "div", .str "rem"] = false := by decide +kernel
    have i2 : inV (.str "sub") [.str "and", .str "or", .str "xor"] = false := by decide +kernel
    unfold workedV lawV
    rw [if_neg (by decide +kernel), if_pos rfl, i1, i2, if_neg Bool.false_ne_true, if_neg Bool.false_ne_true, if_neg (by decide +kernel), if_pos rfl]
  · have i1 : inV (.str "mul") [.str "div", .str "rem"] = false := by decide +kernel
    have i2 : inV (.str "mul") [.str "and", .str "or", .str "xor"] = false := by decide +kernel
    unfold workedV lawV
    rw [if_neg (by decide +kernel), if_neg (by decide +kernel), if_pos rfl, i1, i2, if_neg Bool.false_ne_true, if_neg Bool.false_ne_true, if_neg (by decide +kernel), if_neg (by decide +kernel)]
  · have i1 : inV (.str "div") [.str "div", .str "rem"] = true := by decide +kernel
    unfold workedV lawV divV
    rw [if_neg (by decide +kernel), if_neg (by decide +kernel), if_neg (by decide +kernel), i1, if_pos rfl, if_pos rfl]
    split
    · rfl
    · rw [if_pos rfl, if_pos rfl, divL_eq]
  · have i1 : inV (.str "rem") [.str "div", .str "rem"] = true := by decide +kernel
    unfold workedV lawV divV
    rw [if_neg (by decide +kernel), if_neg (by decide +kernel), if_neg (by decide +kernel), i1, if_pos rfl, if_pos rfl]
    split
    · rfl
    · rw [if_neg (by decide +kernel), if_neg (by decide +kernel), divL_eq]
  · have i1 : inV (.str "and") [.str "div", .str "rem"] = false := by decide +kernel
    have i2 : inV (.str "and") [.str "and", .str "or", .str "xor"] = true := by decide +kernel
    unfold workedV lawV
    rw [if_neg (by decide +kernel), if_neg (by decide +kernel), if_neg (by decide +kernel), i1, i2, if_neg Bool.false_ne_true, if_neg Bool.false_ne_true, if_pos rfl, if_pos rfl, if_pos rfl, work_and ha hb]
  · have i1 : inV (.str "or") [.str "div", .str "rem"] = false := by decide +kernel
    have i2 : inV (.str "or") [.str "and", .str "or", .str "xor"] = true := by decide +kernel
    unfold workedV lawV
    rw [if_neg (by decide +kernel), if_neg (by decide +kernel), if_neg (by decide +kernel), i1, i2, if_neg Bool.false_ne_true, if_neg Bool.false_ne_true, if_neg (by decide +kernel), if_pos rfl, if_pos rfl, if_neg (by decide +kernel), if_pos rfl, work_or ha hb]
  · have i1 : inV (.str "xor") [.str "div", .str "rem"] = false := by decide +kernel
    have i2 : inV (.str "xor") [.str "and", .str "or", .str "xor"] = true := by decide +kernel
    unfold workedV lawV
    rw [if_neg (by decide +kernel), if_neg (by decide +kernel), if_neg (by decide +kernel), i1, i2, if_neg Bool.false_ne_true, if_neg Bool.false_ne_true, if_neg (by decide +kernel), if_neg (by decide +kernel), if_pos rfl, if_pos rfl, if_neg (by decide +kernel), if_neg (by decide +kernel), work_xor ha hb]
/-! ### _law_asked -/
def askedV (k : Int) (nm : Str) (a b : Int) : V := if k = 0 then (workedV nm a b).getD (.str "run") else (condV nm a b).getD (.str "run")
def spAsked : Sp := fun vs H Q _ => ∃ (i : Int) (nm : Str) (a b : Int), vs = [.int i, .str nm, .int a, .int b] ∧ Word a ∧ Word b ∧ ∀ H', Same H H' → Q (askedV i nm a b) H'
abbrev s_law_asked : Stmt := top 20
theorem sc_law_asked : FnScope ["k", "name", "one", "two", "e"] ["k", "name", "one", "two"] (defScope s_law_asked) := ⟨rfl, rfl, rfl, by decide +kernel, rfl, by decide +kernel, by decide +kernel⟩
theorem ok_law_asked {f : Addr} {fd fd1 fd2 : FuncData} (F : Fun K "_law_asked" "_law_asked" s_law_asked f fd) (T : Txt K mg ad tW tH) (X : Exs K mg ad) (G_worked : FnOk P w K mg base (L2.CX P w) 3 ad.worked fd1 ["name", "one", "two"] (spWorked ad)) (b_worked : Binds K fd1 ["name", "one", "two"] [])
    (G_holds : FnOk P w K mg base (L2.CX P w) 3 ad.holds fd2 ["condition", "one", "two"] (spHolds ad)) (b_holds : Binds K fd2 ["condition", "one", "two"] []) :
    FnOk P w K mg base CX0 4 f fd ["k", "name", "one", "two"] spAsked := by
  refine F.ok sc_law_asked (fun vs H Q E h => ?_) (fun cdv A outer s H vs Q E hr h => ?_)
  · obtain ⟨a, b, c, d, rfl, _⟩ := h
    rfl
  · obtain ⟨i, nm, a, b, rfl, ha, hb, k⟩ := h
    refine ⟨_, (pss_one (ps_try_as (i := 4) rfl rfl sc_law_asked.nd rfl rfl ⟨rfl, by decide, Or.inl X.g_BackError⟩ takes0 (fun W pn xe tk _ => (pss_one (ps_ret (pe_ifExp (pt_cmpR op_eq (pv 0) pe_int (nomark _)) (by exact (pe_callS G_worked (hr.mono (by decide)) rfl T.g_worked T.k_worked b_worked (fun σ => passAt tk σ) (by exact (pa_cons (pv 1) (pa_cons (pv 2) (pa_cons (pv 3) pa_nil)))))) (by exact (pe_callS G_holds (hr.mono (by decide)) rfl T.g_holds T.k_holds b_holds (fun σ => passAt tk σ) (by exact (pa_cons (pv 1) (pa_cons (pv 2) (pa_cons (pv 3) pa_nil)))))))))) (fun a oe cls d pn hz hf => (pss_one (ps_ret (pe_ifExp (pt_val (pe_callB (call_isE2 hz hf) (by rfl) T.b_isinstance (by decide +kernel) (pa_cons (pv 4) (pa_cons (pe_glob (v := .ref ad.BadRun) rfl X.g_BadRun rfl) pa_nil)))) pe_str pe_str)))))), ?_⟩
    have suite : ∀ (H' : Hp), Same H H' → askedV i nm a b = .str "run" → ∀ a0 : Addr, Q (.str "run") H' := fun H' sm e _ => by rw [← e]; exact k H' sm
    refine ⟨_, rfl, rfl, _, rfl, itd (fun c => ?_) (fun c => ?_)⟩
    · have c' : i = 0 := V.int.inj c
      refine ⟨_, rfl, _, rfl, _, rfl, nm, a, b, rfl, ha, hb, fun r H' hr' sm => ?_, fun hn H' sm => ?_⟩
      · have e : askedV i nm a b = r := by unfold askedV; rw [if_pos c', hr']; rfl
        rw [← e]; exact k H' sm
      · have e : askedV i nm a b = .str "run" := by unfold askedV; rw [if_pos c', hn]; rfl
        refine ⟨true, X.ex, fun _ a0 _ => ?_, fun q => Bool.noConfusion q⟩
        refine ⟨_, rfl, ad.BadRun, rfl, rfl, X.ec_BadRun, _, _, true, rfl, (fun u ru => ru), X.ki_BadRun, _, rfl, iteT ?_⟩
        exact suite H' sm e a0
    · have c' : ¬ i = 0 := fun q => c (by rw [q])
      refine ⟨_, rfl, _, rfl, _, rfl, nm, a, b, rfl, fun r H' hr' sm => ?_, fun hn H' sm => ?_⟩
      · have e : askedV i nm a b = r := by unfold askedV; rw [if_neg c', hr']; rfl
        rw [← e]; exact k H' sm
      · have e : askedV i nm a b = .str "run" := by unfold askedV; rw [if_neg c', hn]; rfl
        refine ⟨true, X.ex, fun _ a0 _ => ?_, fun q => Bool.noConfusion q⟩
        refine ⟨_, rfl, ad.BadRun, rfl, rfl, X.ec_BadRun, _, _, true, rfl, (fun u ru => ru), X.ki_BadRun, _, rfl, iteT ?_⟩
        exact suite H' sm e a0
end
end My

set_option Elab.async false
set_option maxRecDepth 100000
set_option maxHeartbeats 8000000
namespace My
open PySem L2
/-! ### the heap but for one object -/
def Keep (p : Addr) (H H' : Hp) : Prop := ∀ b o, H b = some o → b ≠ p → H' b = some o
theorem Keep.refl (p : Addr) (H : Hp) : Keep p H H := fun _ _ e _ => e
theorem Keep.trans {p : Addr} {H H1 H2 : Hp} (a : Keep p H H1) (b : Keep p H1 H2) : Keep p H H2 := fun c o e n => b c o (a c o e n) n
theorem Keep.same {p : Addr} {H H1 : Hp} (a : Same H H1) : Keep p H H1 := fun c o e _ => a c o e
theorem Keep.new {p l : Addr} {o : HO} {H H1 : Hp} (a : Keep p H H1) (h : H1 l = none) : Keep p H (upd H1 l o) := a.trans (.same (same_new h))
theorem DrawsAt.same {H H' : Hp} {p : Addr} (s : Same H H') (h : DrawsAt H p) : DrawsAt H' p := by
  obtain ⟨q, ns, i, z, v, D⟩ := h
  exact ⟨q, ns, i, z, v, s _ _ D.hp, s _ _ D.hq, D.i0, D.i1, D.v0, D.v1⟩
theorem DrawsAt.some {H : Hp} {p : Addr} (h : DrawsAt H p) : ∃ o, H p = some o := by
  obtain ⟨q, ns, i, z, v, D⟩ := h
  exact ⟨_, D.hp⟩
theorem DrawsAt.new {H : Hp} {p l : Addr} {o : HO} (h : DrawsAt H p) (hl : H l = none) : DrawsAt (upd H l o) p := h.same (same_new hl)
theorem DrawsAt.ne {H : Hp} {p l : Addr} (h : DrawsAt H p) (hl : H l = none) : l ≠ p := by
  obtain ⟨o, e⟩ := h.some
  intro q; rw [q, e] at hl; cases hl
theorem mulb {x y : Int} (h1 : -500000 ≤ x) (h2 : x ≤ 500000) (h3 : 0 ≤ y) (h4 : y ≤ 1000000) : -(2 ^ 64) < x * y ∧ x * y < 2 ^ 64 := by
  have a : x * y ≤ 500000 * y := Int.mul_le_mul_of_nonneg_right h2 h3
  have b : -500000 * y ≤ x * y := Int.mul_le_mul_of_nonneg_right h1 h3
  constructor <;> omega
def edgesI : List Int := [0, 1, -1, 2, 7, -7, 31, 2147483647, -2147483648, -2147483647, 65536, 1431655765]
theorem edge_word {n : Int} (h : n ∈ edgesI) : Word n := by
  simp only [edgesI, List.mem_cons, List.not_mem_nil, or_false] at h
  unfold Word; omega
theorem pick_word {v : V} {d : Int} (h : v ∈ edgesI.map V.int ++ [V.int (d - 2147483648)]) (h0 : 0 ≤ d) (h1 : d < 4294967296) : ∃ n, v = .int n ∧ Word n := by
  rcases List.mem_append.mp h with h | h
  · obtain ⟨n, hn, rfl⟩ := List.mem_map.mp h
    exact ⟨n, rfl, edge_word hn⟩
  · rw [List.mem_singleton] at h
    exact ⟨_, h, by unfold Word; omega⟩
def names6 : List Str := ["lt", "le", "eq", "ne", "gt", "ge"]
theorem cond6 (a b : Int) : ∀ nm ∈ names6, ∃ r, condV nm a b = some (.bl r) := by
  intro nm h
  simp only [names6, List.mem_cons, List.not_mem_nil, or_false] at h
  rcases h with rfl | rfl | rfl | rfl | rfl | rfl
  · exact ⟨decide (a < b), by rfl⟩
  · exact ⟨decide (a ≤ b), by rfl⟩
  · exact ⟨decide (V.int a = V.int b), by rfl⟩
  · exact ⟨!decide (V.int a = V.int b), by rfl⟩
  · exact ⟨decide (b < a), by rfl⟩
  · exact ⟨decide (b ≤ a), by rfl⟩
def bad4 : List Str := ["Add", "", "shl", "neg"]
theorem asked_bad {i a b : Int} : ∀ nm ∈ bad4, askedV i nm a b = .str "run" := by
  intro nm h
  simp only [bad4, List.mem_cons, List.not_mem_nil, or_false] at h
  have key : ∀ nm : Str, workedV nm a b = none → condV nm a b = none → askedV i nm a b = .str "run" := fun nm h1 h2 => by
    unfold askedV; rw [h1, h2]; split <;> rfl
  rcases h with rfl | rfl | rfl | rfl
  · refine key _ ?_ (by rfl)
    unfold workedV
    rw [if_neg (by decide +kernel), if_neg (by decide +kernel), if_neg (by decide +kernel), if_neg (by decide +kernel), if_neg (by decide +kernel), if_neg (by decide +kernel), if_neg (by decide +kernel)]
  · refine key _ ?_ (by rfl)
    unfold workedV
    rw [if_neg (by decide +kernel), if_neg (by decide +kernel), if_neg (by decide +kernel), if_neg (by decide +kernel), if_neg (by decide +kernel), if_neg (by decide +kernel), if_neg (by decide +kernel)]
  · refine key _ ?_ (by rfl)
    unfold workedV
    rw [if_neg (by decide +kernel), if_neg (by decide +kernel), if_neg (by decide +kernel), if_neg (by decide +kernel), if_neg (by decide +kernel), if_neg (by decide +kernel), if_neg (by decide +kernel)]
  · refine key _ ?_ (by rfl)
    unfold workedV
    rw [if_neg (by decide +kernel), if_neg (by decide +kernel), if_neg (by decide +kernel), if_neg (by decide +kernel), if_neg (by decide +kernel), if_neg (by decide +kernel), if_neg (by decide +kernel)]
theorem lawV_kind {a b : Int} {nm : Str} : (∃ n, lawV nm a b = .int n) ∨ (∃ c, lawV nm a b = .bl c) ∨ lawV nm a b = .non := by
  unfold lawV
  split
  · split
    · exact .inr (.inr rfl)
    · exact .inl ⟨_, rfl⟩
  · split
    · exact .inl ⟨_, rfl⟩
    · exact .inl ⟨_, rfl⟩
/-! ### the values at the end -/
def vals10 (tp : Addr) : List V := [.int 0, .int (-2147483648), .int 2147483647, .int 2147483648, .int (-2147483649), .bl true, .bl false, .non, .str "5", .ref tp]
def words10 : List Bool := [true, true, true, false, false, false, false, false, false, false]
def wholes10 : List Bool := [true, true, true, true, true, false, false, false, false, false]
theorem at10 {K : PySem.W.Frag} {H : Hp} {tp : Addr} (ht : H tp = some (.tup [.int 5])) {i : Nat} {x : V} (h : (vals10 tp)[i]? = some x) :
    ∃ (ty : String) (b1 b2 r : Bool), TyX K H x (.type ty) ∧ kitB ty "int" = some b1 ∧ kitB ty "bool" = some b2 ∧ wholes10[i]? = some (b1 && !b2) ∧ words10[i]? = some r ∧
      ((b1 && !b2) = true → ∃ n, x = .int n ∧ r = (decide (-2147483648 ≤ n) && decide (n < 2147483648))) ∧ ((b1 && !b2) = false → r = false) := by
  match i, h with
  | 0, h => cases h; exact ⟨"int", true, false, true, .base (.int _), by decide +kernel, by decide +kernel, rfl, rfl, fun _ => ⟨_, rfl, by decide⟩, fun q => Bool.noConfusion q⟩
  | 1, h => cases h; exact ⟨"int", true, false, true, .base (.int _), by decide +kernel, by decide +kernel, rfl, rfl, fun _ => ⟨_, rfl, by decide⟩, fun q => Bool.noConfusion q⟩
  | 2, h => cases h; exact ⟨"int", true, false, true, .base (.int _), by decide +kernel, by decide +kernel, rfl, rfl, fun _ => ⟨_, rfl, by decide⟩, fun q => Bool.noConfusion q⟩
  | 3, h => cases h; exact ⟨"int", true, false, false, .base (.int _), by decide +kernel, by decide +kernel, rfl, rfl, fun _ => ⟨_, rfl, by decide⟩, fun _ => rfl⟩
  | 4, h => cases h; exact ⟨"int", true, false, false, .base (.int _), by decide +kernel, by decide +kernel, rfl, rfl, fun _ => ⟨_, rfl, by decide⟩, fun _ => rfl⟩
  | 5, h => cases h; exact ⟨"bool", true, true, false, .base (.bl _), by decide +kernel, by decide +kernel, rfl, rfl, fun q => Bool.noConfusion q, fun _ => rfl⟩
  | 6, h => cases h; exact ⟨"bool", true, true, false, .base (.bl _), by decide +kernel, by decide +kernel, rfl, rfl, fun q => Bool.noConfusion q, fun _ => rfl⟩
  | 7, h => cases h; exact ⟨"NoneType", false, false, false, .base .non, by decide +kernel, by decide +kernel, rfl, rfl, fun q => Bool.noConfusion q, fun _ => rfl⟩
  | 8, h => cases h; exact ⟨"str", false, false, false, .base (.str _), by decide +kernel, by decide +kernel, rfl, rfl, fun q => Bool.noConfusion q, fun _ => rfl⟩
  | 9, h => cases h; exact ⟨"tuple", false, false, false, .base (.tup ht), by decide +kernel, by decide +kernel, rfl, rfl, fun q => Bool.noConfusion q, fun _ => rfl⟩
  | i + 10, h => simp [vals10] at h
theorem take_snoc {α : Type} {l : List α} {i : Nat} {x : α} (h : l[i]? = some x) : l.take (i + 1) = l.take i ++ [x] := by
  rw [List.take_add_one, h]; rfl
theorem bools_dp {K : PySem.W.Frag} {H : Hp} : ∀ bs : List Bool, DpAll K H (bs.map V.bl) (bs.map PyData.bool)
  | [] => .nil
  | b :: bs => .cons (.bl b) (bools_dp bs)
section
variable {P : Program} {w : World} {K : PySem.W.Frag} {mg : Str → Option Value} {base : Heap} {ad : Ad} {tW tH : Tok}
structure Fns (P : Program) (w : World) (K : PySem.W.Frag) (mg : Str → Option Value) (base : Heap) (ad : Ad) (fd1 fd2 fd3 fd4 fd5 fd6 fd7 fd8 fd9 fd10 fd11 : FuncData) : Prop where
  G_law_draws : FnOk P w K mg base CX0 1 ad.law_draws fd1 ["script"] (spDraws K)
  b_law_draws : Binds K fd1 ["script"] []
  G_law_draw : FnOk P w K mg base CX0 1 ad.law_draw fd2 ["draws", "limit"] spDraw
  b_law_draw : Binds K fd2 ["draws", "limit"] []
  G_law_pick : FnOk P w K mg base CX0 2 ad.law_pick fd3 ["draws", "things"] (spPick K)
  b_law_pick : Binds K fd3 ["draws", "things"] []
  G_law_same : FnOk P w K mg base CX0 1 ad.law_same fd4 ["actual", "expected"] spSame
  b_law_same : Binds K fd4 ["actual", "expected"] []
  G_law_asked : FnOk P w K mg base CX0 4 ad.law_asked fd5 ["k", "name", "one", "two"] spAsked
  b_law_asked : Binds K fd5 ["k", "name", "one", "two"] []
  G_law_work : FnOk P w K mg base CX0 2 ad.law_work fd6 ["name", "one", "two"] spWork
  b_law_work : Binds K fd6 ["name", "one", "two"] []
  G_law_cond : FnOk P w K mg base CX0 1 ad.law_cond fd7 ["cond", "one", "two"] spCond
  b_law_cond : Binds K fd7 ["cond", "one", "two"] []
  G_wrap : FnOk P w K mg base CX0 1 ad.wrap fd8 ["number"] spWrap
  b_wrap : Binds K fd8 ["number"] []
  G_law_wrap : FnOk P w K mg base CX0 1 ad.law_wrap fd11 ["number"] spWrap
  b_law_wrap : Binds K fd11 ["number"] []
  G_is_word : FnOk P w K mg base CX0 2 ad.is_word fd9 ["value"] (spWord K)
  b_is_word : Binds K fd9 ["value"] []
  G_is_whole : FnOk P w K mg base CX0 1 ad.is_whole fd10 ["value"] (spWhole K)
  b_is_whole : Binds K fd10 ["value"] []
end
end My

set_option Elab.async false
set_option maxRecDepth 100000
set_option maxHeartbeats 8000000
namespace My
open PySem L2
section
variable {P : Program} {w : World} {K : PySem.W.Frag} {mg : Str → Option Value} {base : Heap} {ad : Ad} {tW tH : Tok}
def spLaw (K : PySem.W.Frag) : Sp := fun vs H Q _ => ∃ (a : Addr) (ns : List Int), vs = [.ref a] ∧ SqL K H a (ns.map V.int) ∧ ns.length ≤ 63 ∧ ∀ H', Q (.bl true) H'
abbrev s_law : Stmt := top 21
theorem sc_law : FnScope ["script", "draws", "edges", "turn", "one", "two", "name", "again", "number", "values"] ["script"] (defScope s_law) := ⟨rfl, rfl, rfl, by decide +kernel, rfl, by decide +kernel, by decide +kernel⟩
/-- what stands between the turns -/
structure Mid (p e : Addr) (H : Hp) : Prop where
  hd : DrawsAt H p
  he : H e = some (.lst (edgesI.map V.int))
  hn : e ≠ p
theorem Mid.keep {p e : Addr} {H H' : Hp} (m : Mid p e H) (d : DrawsAt H' p) (k : Keep p H H') : Mid p e H' := ⟨d, k _ _ m.he m.hn, m.hn⟩
theorem Mid.same {p e : Addr} {H H' : Hp} (m : Mid p e H) (k : Same H H') : Mid p e H' := ⟨m.hd.same k, k _ _ m.he, m.hn⟩
theorem ok_law {f : Addr} {fd fd1 fd2 fd3 fd4 fd5 fd6 fd7 fd8 fd9 fd10 fd11 : FuncData} (F : Fun K "law" "law" s_law f fd) (T : Txt K mg ad tW tH) (O : Fns P w K mg base ad fd1 fd2 fd3 fd4 fd5 fd6 fd7 fd8 fd9 fd10 fd11) : FnOk P w K mg base CX0 5 f fd ["script"] (spLaw K) := by
  refine F.ok sc_law (fun vs H Q E h => ?_) (fun cdv A outer s H vs Q E hr h => ?_)
  · obtain ⟨a, ns, rfl, _⟩ := h
    rfl
  · obtain ⟨a, ns, rfl, hS, hl, k⟩ := h
    refine ⟨_, (pss_cons (ps_set (i := 1) sc_law.nd rfl (Or.inl rfl) (pe_call O.G_law_draws (hr.mono (by decide)) rfl T.g_law_draws T.k_law_draws O.b_law_draws .nil pass0 (pa_cons (pv 0) pa_nil)))
      (pss_cons (ps_set (i := 2) sc_law.nd rfl (Or.inl rfl) (pe_lst (pa_cons pe_int (pa_cons pe_int (pa_cons (pe_un un_neg pe_int) (pa_cons pe_int (pa_cons pe_int (pa_cons (pe_un un_neg pe_int) (pa_cons pe_int (pa_cons pe_int (pa_cons (pe_un un_neg pe_int) (pa_cons (pe_un un_neg pe_int) (pa_cons pe_int (pa_cons pe_int pa_nil))))))))))))))
      (pss_cons (ps_for PassesOwn.never rfl (pi_range1 rfl T.b_range (pa_cons pe_int pa_nil)) (pg_name (i := 3) sc_law.nd rfl (Or.inl rfl))
      (Evl.pss_cut (ps_par (i := 4) (j := 5) (by rfl) sc_law.nd rfl rfl (by decide) rfl rfl (pa_cons (pe_call O.G_law_pick (hr.mono (by decide)) rfl T.g_law_pick T.k_law_pick O.b_law_pick .nil pass0 (pa_cons (pv 1) (pa_cons (pe_op op_cat (pv 2) (pe_lst (pa_cons (pe_op op_sub (pe_call O.G_law_draw (hr.mono (by decide)) rfl T.g_law_draw T.k_law_draw O.b_law_draw .nil pass0 (pa_cons (pv 1) (pa_cons pe_int pa_nil))) pe_int) pa_nil))) pa_nil))) (pa_cons (pe_call O.G_law_pick (hr.mono (by decide)) rfl T.g_law_pick T.k_law_pick O.b_law_pick .nil pass0 (pa_cons (pv 1) (pa_cons (pe_op op_cat (pv 2) (pe_lst (pa_cons (pe_op op_sub (pe_call O.G_law_draw (hr.mono (by decide)) rfl T.g_law_draw T.k_law_draw O.b_law_draw .nil pass0 (pa_cons (pv 1) (pa_cons pe_int pa_nil))) pe_int) pa_nil))) pa_nil))) pa_nil)) (by rfl))
      (Evl.pss_cut (ps_for PassesOwn.never rfl (pi_list (pe_lst (pa_cons pe_str (pa_cons pe_str (pa_cons pe_str (pa_cons pe_str (pa_cons pe_str (pa_cons pe_str (pa_cons pe_str (pa_cons pe_str pa_nil)))))))))) (pg_name (i := 6) sc_law.nd rfl (Or.inl rfl))
      (pss_one (ps_for PassesOwn.never rfl (pi_range1 rfl T.b_range (pa_cons pe_int pa_nil)) (pg_name (i := 7) sc_law.nd rfl (Or.inl rfl))
      (pss_one (ps_if (pt_not (pt_val (pe_call O.G_law_same (hr.mono (by decide)) rfl T.g_law_same T.k_law_same O.b_law_same .nil pass0 (pa_cons (pe_call O.G_law_asked (hr.mono (by decide)) rfl T.g_law_asked T.k_law_asked O.b_law_asked .nil pass0 (pa_cons pe_int (pa_cons (pv 6) (pa_cons (pv 4) (pa_cons (pv 5) pa_nil))))) (pa_cons (pe_call O.G_law_work (hr.mono (by decide)) rfl T.g_law_work T.k_law_work O.b_law_work .nil pass0 (pa_cons (pv 6) (pa_cons (pv 4) (pa_cons (pv 5) pa_nil)))) pa_nil))))) (pss_one (ps_ret pe_bl)) pss_nil)))))
      (Evl.pss_cut (ps_for PassesOwn.never rfl (pi_list (pe_lst (pa_cons pe_str (pa_cons pe_str (pa_cons pe_str (pa_cons pe_str (pa_cons pe_str (pa_cons pe_str pa_nil)))))))) (pg_name (i := 6) sc_law.nd rfl (Or.inl rfl))
      (pss_one (ps_if (pt_not (pt_val (pe_call O.G_law_same (hr.mono (by decide)) rfl T.g_law_same T.k_law_same O.b_law_same .nil pass0 (pa_cons (pe_call O.G_law_asked (hr.mono (by decide)) rfl T.g_law_asked T.k_law_asked O.b_law_asked .nil pass0 (pa_cons pe_int (pa_cons (pv 6) (pa_cons (pv 4) (pa_cons (pv 5) pa_nil))))) (pa_cons (pe_call O.G_law_cond (hr.mono (by decide)) rfl T.g_law_cond T.k_law_cond O.b_law_cond .nil pass0 (pa_cons (pv 6) (pa_cons (pv 4) (pa_cons (pv 5) pa_nil)))) pa_nil))))) (pss_one (ps_ret pe_bl)) pss_nil)))
      (Evl.pss_cut (ps_set (i := 8) sc_law.nd rfl (Or.inl rfl) (pe_op op_mul (pe_op op_mul (pe_op op_sub (pe_call O.G_law_draw (hr.mono (by decide)) rfl T.g_law_draw T.k_law_draw O.b_law_draw .nil pass0 (pa_cons (pv 1) (pa_cons pe_int pa_nil))) pe_int) (pe_op op_add (pe_call O.G_law_draw (hr.mono (by decide)) rfl T.g_law_draw T.k_law_draw O.b_law_draw .nil pass0 (pa_cons (pv 1) (pa_cons pe_int pa_nil))) pe_int)) (pe_call O.G_law_pick (hr.mono (by decide)) rfl T.g_law_pick T.k_law_pick O.b_law_pick .nil pass0 (pa_cons (pv 1) (pa_cons (pe_lst (pa_cons pe_int (pa_cons pe_int (pa_cons pe_int pa_nil)))) pa_nil)))))
      (pss_cons (ps_if (pt_not (pt_val (pe_call O.G_law_same (hr.mono (by decide)) rfl T.g_law_same T.k_law_same O.b_law_same .nil pass0 (pa_cons (pe_call O.G_wrap (hr.mono (by decide)) rfl T.g_wrap T.k_wrap O.b_wrap .nil pass0 (pa_cons (pv 8) pa_nil)) (pa_cons (pe_call O.G_law_wrap (hr.mono (by decide)) rfl T.g_law_wrap T.k_law_wrap O.b_law_wrap .nil pass0 (pa_cons (pv 8) pa_nil)) pa_nil))))) (pss_one (ps_ret pe_bl)) pss_nil)
      (pss_one (ps_if (pt_cmpR op_ne (pe_call O.G_law_asked (hr.mono (by decide)) rfl T.g_law_asked T.k_law_asked O.b_law_asked .nil pass0 (pa_cons (pe_call O.G_law_draw (hr.mono (by decide)) rfl T.g_law_draw T.k_law_draw O.b_law_draw .nil pass0 (pa_cons (pv 1) (pa_cons pe_int pa_nil))) (pa_cons (pe_call O.G_law_pick (hr.mono (by decide)) rfl T.g_law_pick T.k_law_pick O.b_law_pick .nil pass0 (pa_cons (pv 1) (pa_cons (pe_lst (pa_cons pe_str (pa_cons pe_str (pa_cons pe_str (pa_cons pe_str pa_nil))))) pa_nil))) (pa_cons (pv 4) (pa_cons (pv 5) pa_nil))))) pe_str (nomark _)) (pss_one (ps_ret pe_bl)) pss_nil))))))))
      (Evl.pss_cut (ps_set (i := 9) sc_law.nd rfl (Or.inl rfl) (pe_lst (pa_cons pe_int (pa_cons (pe_un un_neg pe_int) (pa_cons pe_int (pa_cons pe_int (pa_cons (pe_un un_neg pe_int) (pa_cons pe_bl (pa_cons pe_bl (pa_cons pe_non (pa_cons pe_str (pa_cons (pe_tup (pa_cons pe_int pa_nil)) pa_nil))))))))))))
      (pss_cons (ps_if (pt_cmpR (op_neD hr.units) (pe_lc (own := [("one", 4)]) (g := gName 4) (by rfl) sc_law.nd (pi_list (pv 9)) (blkOk_by (own := [("one", 4)]) (N := ["script", "draws", "edges", "turn", "one", "two", "name", "again", "number", "values"]) (sc := defScope s_law) (by decide +kernel)) (fun _ _ _ _ _ => (pg_name (i := 4) sc_law.nd rfl (Or.inl rfl))) (fun _ _ _ _ _ => pts_nil) (fun _ _ _ _ _ => (pe_call O.G_is_word (hr.mono (by decide)) rfl T.g_is_word T.k_is_word O.b_is_word .nil pass0 (pa_cons (pv 4) pa_nil)))) (pe_lst (pa_cons pe_bl (pa_cons pe_bl (pa_cons pe_bl (pa_cons pe_bl (pa_cons pe_bl (pa_cons pe_bl (pa_cons pe_bl (pa_cons pe_bl (pa_cons pe_bl (pa_cons pe_bl pa_nil))))))))))) (nomark _)) (pss_one (ps_ret pe_bl)) pss_nil)
      (pss_one (ps_ret (pe_cmpR (op_eqD hr.units) (pe_lc (own := [("one", 4)]) (g := gName 4) (by rfl) sc_law.nd (pi_list (pv 9)) (blkOk_by (own := [("one", 4)]) (N := ["script", "draws", "edges", "turn", "one", "two", "name", "again", "number", "values"]) (sc := defScope s_law) (by decide +kernel)) (fun _ _ _ _ _ => (pg_name (i := 4) sc_law.nd rfl (Or.inl rfl))) (fun _ _ _ _ _ => pts_nil) (fun _ _ _ _ _ => (pe_call O.G_is_whole (hr.mono (by decide)) rfl T.g_is_whole T.k_is_whole O.b_is_whole .nil pass0 (pa_cons (pv 4) pa_nil)))) (pe_lst (pa_cons pe_bl (pa_cons pe_bl (pa_cons pe_bl (pa_cons pe_bl (pa_cons pe_bl (pa_cons pe_bl (pa_cons pe_bl (pa_cons pe_bl (pa_cons pe_bl (pa_cons pe_bl pa_nil))))))))))) (nomark _))))))))), ?_⟩
    refine ⟨_, rfl, a, ns, rfl, hS, fun p H0 hp D0 sm0 => ?_⟩
    refine ⟨_, rfl, _, rfl, _, rfl, _, rfl, (by show 12 ≤ sizeLine; decide), fun e he => ?_⟩
    have m0 : Mid p e (upd H0 e (.lst (edgesI.map V.int))) := ⟨D0.new he, upd_same, D0.ne he⟩
    refine ⟨12, rfl, by decide, by decide, for_range (lo := 0) (n := 12) (fun i σ H' => ∃ (s3 s4 s5 s6 s7 s8 : Option V), σ = [some (.ref a), some (.ref p), some (.ref e), s3, s4, s5, s6, s7, s8, none] ∧ Mid p e H') ⟨_, _, _, _, _, _, rfl, m0⟩ ?_ ?_⟩
    · rintro i σ H1 hi ⟨s3, s4, s5, s6, s7, s8, rfl, m1⟩
      -- one, two
      refine ⟨fun σ' H' => ∃ (s3 s6 s7 s8 : Option V) (x y : Int), σ' = [some (.ref a), some (.ref p), some (.ref e), s3, some (.int x), some (.int y), s6, s7, s8, none] ∧ Word x ∧ Word y ∧ Mid p e H', ?_, ?_⟩
      · refine ⟨_, rfl, _, rfl, _, rfl, p, _, rfl, m1.hd, by decide, by decide, fun v H2 v0 v1 D2 k2 => ?_⟩
        have m2 := m1.keep D2 k2
        refine ⟨_, _, rfl, rfl, (by show 1 ≤ sizeLine; decide), fun l hl => ⟨e, l, _, _, rfl, rfl, (m2.same (same_new hl)).he, upd_same, (by show 13 ≤ sizeLine; decide), fun l2 hl2 => ?_⟩⟩
        have m3 := (m2.same (same_new hl)).same (same_new (o := .lst (edgesI.map V.int ++ [V.int (v - 2147483648)])) hl2)
        refine ⟨p, l2, _, rfl, m3.hd, upd_same, (m2.same (same_new hl)).hd.ne hl2, (by show 0 < 13; decide), (by show 13 < 1000; decide), fun x H3 hx D3 k3 => ?_⟩
        obtain ⟨x, rfl, wx⟩ := pick_word hx v0 v1
        have m4 := m3.keep D3 k3
        clear hl hl2 k3 D3 m3 hx m2 k2 D2 m1
        refine ⟨_, rfl, _, rfl, _, rfl, p, _, rfl, m4.hd, by decide, by decide, fun v' H4 v0' v1' D4 k4 => ?_⟩
        have m5 := m4.keep D4 k4
        refine ⟨_, _, rfl, rfl, (by show 1 ≤ sizeLine; decide), fun l hl => ⟨e, l, _, _, rfl, rfl, (m5.same (same_new hl)).he, upd_same, (by show 13 ≤ sizeLine; decide), fun l2 hl2 => ?_⟩⟩
        have m6 := (m5.same (same_new hl)).same (same_new (o := .lst (edgesI.map V.int ++ [V.int (v' - 2147483648)])) hl2)
        refine ⟨p, l2, _, rfl, m6.hd, upd_same, (m5.same (same_new hl)).hd.ne hl2, (by show 0 < 13; decide), (by show 13 < 1000; decide), fun y H5 hy D5 k5 => ?_⟩
        obtain ⟨y, rfl, wy⟩ := pick_word hy v0' v1'
        exact ⟨_, _, rfl, _, _, _, _, _, _, rfl, wx, wy, m6.keep D5 k5⟩
      rintro σ' H2 ⟨s3, s6, s7, s8, x, y, rfl, wx, wy, m2⟩
      -- the eight works, twice
      refine ⟨fun σ' H' => ∃ (s6 s7 : Option V), σ' = [some (.ref a), some (.ref p), some (.ref e), s3, some (.int x), some (.int y), s6, s7, s8, none] ∧ Mid p e H', ?_, ?_⟩
      · refine ⟨(by show 8 ≤ sizeLine; decide), fun l hl => ⟨l, rfl, ⟨_, SqL.of upd_same⟩, for_list (K := K) (a := l) (xs := names8.map V.str) (fun i σ H' => ∃ (s6 s7 : Option V), σ = [some (.ref a), some (.ref p), some (.ref e), s3, some (.int x), some (.int y), s6, s7, s8, none] ∧ Mid p e H' ∧ H' l = some (.lst (names8.map V.str)))
          ⟨_, _, rfl, m2.same (same_new hl), upd_same⟩ (fun i σ H' _ ⟨_, _, _, _, h⟩ => SqL.of h) ?_ ?_⟩⟩
        · rintro i v σ H3 hi ⟨s6, s7, rfl, m3, hl3⟩
          obtain ⟨nm, hnm, rfl⟩ := List.mem_map.mp (List.mem_of_getElem? hi)
          have ag := agree wx wy nm hnm
          refine ⟨2, rfl, by decide, by decide, for_range (lo := 0) (n := 2) (fun i σ H' => ∃ (s7 : Option V), σ = [some (.ref a), some (.ref p), some (.ref e), s3, some (.int x), some (.int y), some (.str nm), s7, s8, none] ∧ Mid p e H' ∧ H' l = some (.lst (names8.map V.str)))
            ⟨_, rfl, m3, hl3⟩ ?_ ?_⟩
          · rintro j σ H4 hj ⟨s7, rfl, m4, hl4⟩
            refine ⟨_, rfl, _, rfl, _, rfl, 0, nm, x, y, rfl, wx, wy, fun H5 sm5 => ⟨_, rfl, _, rfl, _, rfl, nm, x, y, rfl, wx, wy, fun H6 sm6 => ⟨lawV nm x y, ?_, lawV_kind, _, rfl, iteF ?_⟩⟩⟩
            · have e1 : askedV 0 nm x y = lawV nm x y := by unfold askedV; rw [if_pos rfl, ag]; rfl
              rw [e1]; rfl
            · exact ⟨_, rfl, m4.same (sm5.trans sm6), (sm5.trans sm6) _ _ hl4⟩
          · rintro σ H4 ⟨s7, rfl, m4, hl4⟩
            exact ⟨_, _, rfl, m4, hl4⟩
        · rintro σ H3 ⟨s6, s7, rfl, m3, _⟩
          exact ⟨_, _, rfl, m3⟩
      rintro σ' H3 ⟨s6, s7, rfl, m3⟩
      -- the six conditions
      refine ⟨fun σ' H' => ∃ (s6 s7 : Option V), σ' = [some (.ref a), some (.ref p), some (.ref e), s3, some (.int x), some (.int y), s6, s7, s8, none] ∧ Mid p e H', ?_, ?_⟩
      · refine ⟨(by show 6 ≤ sizeLine; decide), fun l hl => ⟨l, rfl, ⟨_, SqL.of upd_same⟩, for_list (K := K) (a := l) (xs := names6.map V.str) (fun i σ H' => ∃ (s6 s7 : Option V), σ = [some (.ref a), some (.ref p), some (.ref e), s3, some (.int x), some (.int y), s6, s7, s8, none] ∧ Mid p e H' ∧ H' l = some (.lst (names6.map V.str)))
          ⟨_, _, rfl, m3.same (same_new hl), upd_same⟩ (fun i σ H' _ ⟨_, _, _, _, h⟩ => SqL.of h) ?_ ?_⟩⟩
        · rintro i v σ H3 hi ⟨s6, s7, rfl, m3, hl3⟩
          obtain ⟨nm, hnm, rfl⟩ := List.mem_map.mp (List.mem_of_getElem? hi)
          obtain ⟨r, hr'⟩ := cond6 x y nm hnm
          refine ⟨_, rfl, _, rfl, _, rfl, 1, nm, x, y, rfl, wx, wy, fun H5 sm5 => ⟨_, rfl, _, rfl, _, rfl, nm, x, y, _, rfl, hr', fun H6 sm6 => ⟨.bl r, ?_, .inr (.inl ⟨_, rfl⟩), _, rfl, iteF ?_⟩⟩⟩
          · have e1 : askedV 1 nm x y = .bl r := by unfold askedV; rw [if_neg (by decide), hr']; rfl
            rw [e1]; rfl
          · exact ⟨_, _, rfl, m3.same (sm5.trans sm6), (sm5.trans sm6) _ _ hl3⟩
        · rintro σ H3 ⟨s6, s7, rfl, m3, _⟩
          exact ⟨_, _, rfl, m3⟩
      rintro σ' H4 ⟨s6, s7, rfl, m4⟩
      -- a great number
      refine ⟨fun σ' H' => ∃ (n : Int), σ' = [some (.ref a), some (.ref p), some (.ref e), s3, some (.int x), some (.int y), s6, s7, some (.int n), none] ∧ Mid p e H', ?_, ?_⟩
      · refine ⟨_, rfl, p, _, rfl, m4.hd, by decide, by decide, fun v H5 v0 v1 D5 k5 => ?_⟩
        have m5 := m4.keep D5 k5
        refine ⟨_, _, rfl, rfl, _, rfl, p, _, rfl, m5.hd, by decide, by decide, fun v' H6 v0' v1' D6 k6 => ?_⟩
        have m6 := m5.keep D6 k6
        refine ⟨_, _, rfl, rfl, _, _, rfl, rfl, .inl ⟨by omega, by omega⟩, ?_⟩
        refine ⟨_, rfl, (by show 3 ≤ sizeLine; decide), fun l hl => ⟨p, l, _, rfl, (m6.same (same_new hl)).hd, upd_same, m6.hd.ne hl, (by show 0 < 3; decide), (by show 3 < 1000; decide), fun u H7 hu D7 k7 => ?_⟩⟩
        have m7 := (m6.same (same_new hl)).keep D7 k7
        obtain ⟨n, rfl⟩ : ∃ n, u = .int n := by
          simp only [List.mem_cons, List.not_mem_nil, or_false] at hu
          rcases hu with h | h | h <;> exact ⟨_, h⟩
        exact ⟨_, _, rfl, rfl, .inl (mulb (by omega) (by omega) (by omega) (by omega)), _, rfl, m7⟩
      rintro σ' H5 ⟨n, rfl, m5⟩
      refine ⟨_, rfl, n, rfl, _, rfl, n, rfl, .int (wr n), rfl, .inl ⟨_, rfl⟩, _, rfl, iteF ?_⟩
      -- other names
      refine ⟨_, rfl, p, _, rfl, m5.hd, by decide, by decide, fun v H6 v0 v1 D6 k6 => ?_⟩
      have m6 := m5.keep D6 k6
      refine ⟨_, rfl, (by show 4 ≤ sizeLine; decide), fun l hl => ⟨p, l, bad4.map V.str, rfl, (m6.same (same_new hl)).hd, upd_same, m6.hd.ne hl, (by show 0 < 4; decide), (by show 4 < 1000; decide), fun u H7 hu D7 k7 => ?_⟩⟩
      have m7 := (m6.same (same_new hl)).keep D7 k7
      obtain ⟨nm, hnm, rfl⟩ := List.mem_map.mp hu
      refine ⟨_, rfl, _, rfl, v, nm, x, y, rfl, wx, wy, fun H8 sm8 => ?_⟩
      rw [asked_bad nm hnm]
      refine ⟨rfl, _, rfl, ?_⟩
      rw [decide_eq_true (rfl : V.str "run" = V.str "run")]
      exact iteF ⟨_, _, _, _, _, _, rfl, m7.same sm8⟩
    · rintro σ H1 ⟨s3, s4, s5, s6, s7, s8, rfl, m1⟩
      refine ⟨fun σ' H' => ∃ (tp l : Addr), σ' = [some (.ref a), some (.ref p), some (.ref e), s3, s4, s5, s6, s7, s8, some (.ref l)] ∧ H' tp = some (.tup [.int 5]) ∧ H' l = some (.lst (vals10 tp)), ?_, ?_⟩
      · refine ⟨_, rfl, _, rfl, (by show 1 ≤ sizeLine; decide), fun tp htp => ⟨(by show 10 ≤ sizeLine; decide), fun l hl => ?_⟩⟩
        exact ⟨tp, l, rfl, same_new hl _ _ upd_same, upd_same⟩
      rintro σ' H2 ⟨tp, l, rfl, ht, hl'⟩
      refine ⟨_, rfl, l, rfl, ⟨_, SqL.of hl'⟩, fun D hD => lc_list (K := K) (a := l) (xs := vals10 tp) (fun i H' => H2 D = none ∧ Same H2 H' ∧ H' D = some (.lst ((words10.take i).map V.bl))) ⟨hD, same_new hD, upd_same⟩ (fun i H' _ ⟨_, s, _⟩ => SqL.of (s _ _ hl')) ?_ ?_⟩
      · rintro i x H' hi ⟨_, sm, hDl⟩
        obtain ⟨ty, b1, b2, r, tx, e1, e2, _, er, hy, hn⟩ := at10 (K := K) (sm _ _ ht) hi
        refine ⟨rfl, ?_⟩
        refine iteT (B := H2 D = none ∧ Same H2 H' ∧ H' D = some (.lst ((words10.take (i + 1)).map V.bl))) ?_
        refine ⟨_, rfl, x, ty, b1, b2, r, rfl, tx, e1, e2, hy, hn, _, hDl, ?_, hD, ?_, ?_⟩
        · rw [List.length_map, List.length_take]
          have : min i words10.length ≤ 10 := Nat.min_le_right _ _
          exact Nat.lt_of_le_of_lt this (by decide)
        · intro b o eb
          rw [upd_ne (ne_of_none eb hD)]
          exact sm b o eb
        · rw [take_snoc er, List.map_append]; exact upd_same
      · rintro H' ⟨_, sm, hDl⟩
        have hDl : H' D = some (.lst (words10.map V.bl)) := hDl
        refine ⟨(by show 10 ≤ sizeLine; decide), fun q hq => ⟨.list (words10.map .bool), .list (words10.map .bool), .lst (SqL.of (same_new hq _ _ hDl)) (bools_dp _), .lst (SqL.of upd_same) (bools_dp words10), by decide, by decide, _, rfl, ?_⟩⟩
        have ht3 := same_new (o := .lst (words10.map V.bl)) hq _ _ (sm _ _ ht)
        have hl3 := same_new (o := .lst (words10.map V.bl)) hq _ _ (sm _ _ hl')
        have en : (!PyData.eqv (.list (words10.map .bool)) (.list (words10.map .bool))) = false := by decide
        rw [en]
        refine iteF ?_
        refine ⟨_, rfl, l, rfl, ⟨_, SqL.of hl3⟩, fun D2 hD2 => lc_list (K := K) (a := l) (xs := vals10 tp) (fun i H' => Same _ H' ∧ H' D2 = some (.lst ((wholes10.take i).map V.bl))) ⟨same_new hD2, upd_same⟩ (fun i H' _ ⟨s, _⟩ => SqL.of (s _ _ hl3)) ?_ ?_⟩
        · rintro i x H5 hi ⟨sm5, hDl5⟩
          obtain ⟨ty, b1, b2, r, tx, e1, e2, er, _, hy, hn⟩ := at10 (K := K) (sm5 _ _ ht3) hi
          refine ⟨rfl, ?_⟩
          refine iteT (B := Same (upd H' q (.lst (words10.map V.bl))) H5 ∧ H5 D2 = some (.lst ((wholes10.take (i + 1)).map V.bl))) ?_
          refine ⟨_, rfl, x, ty, b1, b2, rfl, tx, e1, e2, _, hDl5, ?_, ?_, ?_⟩
          · rw [List.length_map, List.length_take]
            have : min i wholes10.length ≤ 10 := Nat.min_le_right _ _
            exact Nat.lt_of_le_of_lt this (by decide)
          · intro b o eb
            rw [upd_ne (ne_of_none eb hD2)]
            exact sm5 b o eb
          · rw [take_snoc er, List.map_append]; exact upd_same
        · rintro H5 ⟨sm5, hDl5⟩
          have hDl5 : H5 D2 = some (.lst (wholes10.map V.bl)) := hDl5
          refine ⟨(by show 10 ≤ sizeLine; decide), fun q hq => ⟨.list (wholes10.map .bool), .list (wholes10.map .bool), .lst (SqL.of (same_new hq _ _ hDl5)) (bools_dp _), .lst (SqL.of upd_same) (bools_dp wholes10), by decide, by decide, ?_⟩⟩
          have en : PyData.eqv (.list (wholes10.map .bool)) (.list (wholes10.map .bool)) = true := by decide
          rw [en]
          exact k _
end
end My

set_option Elab.async false
set_option maxRecDepth 100000
set_option maxHeartbeats 8000000
namespace My
open PySem L2
theorem exc_ok {K : PySem.W.Frag} {mg : Str → Option Value} {C B : Addr}
    (gB : mg "BackError" = some (.ref B)) (gC : mg "BadRun" = some (.ref C)) (kC : PySem.W.keepIn K (.ref C) = true)
    (xC : PySem.W.excIn K C [.type "ValueError", .type "Exception", .type "BaseException", .type "object"] "ValueError.__new__" = true)
    (sC : PySem.W.subIn K (.ref C) (.type "BaseException") = some true) (tC : PySem.W.typeIn K (.ref C) = some (.type "type"))
    (e1 : PySem.W.findIn K (.ref C) "__getattribute__" = some (some (.builtin "BaseException.__getattribute__"))) (e2 : PySem.W.findIn K (.ref C) "__getattr__" = some none)
    (e3 : PySem.W.hasDictIn K C = true) (e4 : PySem.W.findIn K (.ref C) "__class__" = some (some (.builtin "object.__class__")))
    (e5 : PySem.W.specialIn K (.builtin "object.__class__") "__get__" = some (some (.builtin "getset_descriptor.__get__"))) (e6 : PySem.W.takesIn K (.builtin "object.__class__") = some true) (e7 : PySem.W.mroIn K C (.type "object") = some true)
    (ki : PySem.W.kitOne K (.ref C) (.ref C) = some true)
    (b1 : PySem.W.subIn K (.ref B) (.type "BaseException") = some true) (b2 : PySem.W.hasDictIn K B = true) (b3 : PySem.W.typeIn K (.ref B) = some (.type "type")) (b4 : PySem.W.subIn K (.ref C) (.ref B) = some true)
    {ad : Ad} (hB : ad.BackError = B) (hC : ad.BadRun = C) : Exs K mg ad := by
  subst hB hC
  exact ⟨gB, gC, kC, xC, sC, tC, ⟨e1, e2, sC, e3, e4, e5, e6, e7⟩, ki, PySem.W.exm_ref b1 b2 b3 b4⟩
theorem all_mk {l : PySem.W.OpenLaw} {w : World} {K : PySem.W.Frag} {h : Heap} {mg : Str → Option Value} {fa B C f0 f1 f2 f3 f4 f5 f6 f7 f8 f9 f10 f11 f12 f13 f14 : Addr} {tW tH : Tok} (X : K.In h) (G : h.Ns mainGlobals mg) (hfa : mg "law" = some (.ref fa))
    {od0 an0 od1 an1 od2 an2 od3 an3 od4 an4 od5 an5 od6 an6 od7 an7 od8 an8 od9 an9 od10 an10 od11 an11 od12 an12 od13 an13 od14 an14 : Option Addr} {sl0 sl1 sl2 sl3 sl4 sl5 sl6 sl7 sl8 sl9 sl10 sl11 sl12 sl13 sl14 : Array (Option Value)} {oc0 kV0 dc0 pm0 cd0 ct0 oc1 kV1 dc1 pm1 cd1 ct1 oc2 kV2 dc2 pm2 cd2 ct2 oc3 kV3 dc3 pm3 cd3 ct3 oc4 kV4 dc4 pm4 cd4 ct4 oc5 kV5 dc5 pm5 cd5 ct5 oc6 kV6 dc6 pm6 cd6 ct6 oc7 kV7 dc7 pm7 cd7 ct7 oc8 kV8 dc8 pm8 cd8 ct8 oc9 kV9 dc9 pm9 cd9 ct9 oc10 kV10 dc10 pm10 cd10 ct10 oc11 kV11 dc11 pm11 cd11 ct11 oc12 kV12 dc12 pm12 cd12 ct12 oc13 kV13 dc13 pm13 cd13 ct13 oc14 kV14 dc14 pm14 cd14 ct14 : Value}
    (a0 : PySem.W.nsIn K mainGlobals "is_whole" = some (some (.ref f0))) (l0 : K.lookup f0 = some ⟨oc0, od0, .func (PySem.W.fnOf "is_whole" "is_whole" (defArgs s_is_whole) (defBody s_is_whole) (defScope s_is_whole) .none kV0 dc0 pm0 an0 cd0 ct0), sl0⟩) (c0 : PySem.W.codeIn K cd0 "is_whole" = true) (k0 : PySem.W.keepIn K (.ref f0) = true)
    (a1 : PySem.W.nsIn K mainGlobals "is_word" = some (some (.ref f1))) (l1 : K.lookup f1 = some ⟨oc1, od1, .func (PySem.W.fnOf "is_word" "is_word" (defArgs s_is_word) (defBody s_is_word) (defScope s_is_word) .none kV1 dc1 pm1 an1 cd1 ct1), sl1⟩) (c1 : PySem.W.codeIn K cd1 "is_word" = true) (k1 : PySem.W.keepIn K (.ref f1) = true)
    (a2 : PySem.W.nsIn K mainGlobals "wrap" = some (some (.ref f2))) (l2 : K.lookup f2 = some ⟨oc2, od2, .func (PySem.W.fnOf "wrap" "wrap" (defArgs s_wrap) (defBody s_wrap) (defScope s_wrap) .none kV2 dc2 pm2 an2 cd2 ct2), sl2⟩) (c2 : PySem.W.codeIn K cd2 "wrap" = true) (k2 : PySem.W.keepIn K (.ref f2) = true)
    (a3 : PySem.W.nsIn K mainGlobals "worked" = some (some (.ref f3))) (l3 : K.lookup f3 = some ⟨oc3, od3, .func (PySem.W.fnOf "worked" "worked" (defArgs s_worked) (defBody s_worked) (defScope s_worked) .none kV3 dc3 pm3 an3 cd3 ct3), sl3⟩) (c3 : PySem.W.codeIn K cd3 "worked" = true) (k3 : PySem.W.keepIn K (.ref f3) = true)
    (a4 : PySem.W.nsIn K mainGlobals "divided" = some (some (.ref f4))) (l4 : K.lookup f4 = some ⟨oc4, od4, .func (PySem.W.fnOf "divided" "divided" (defArgs s_divided) (defBody s_divided) (defScope s_divided) .none kV4 dc4 pm4 an4 cd4 ct4), sl4⟩) (c4 : PySem.W.codeIn K cd4 "divided" = true) (k4 : PySem.W.keepIn K (.ref f4) = true)
    (a5 : PySem.W.nsIn K mainGlobals "holds" = some (some (.ref f5))) (l5 : K.lookup f5 = some ⟨oc5, od5, .func (PySem.W.fnOf "holds" "holds" (defArgs s_holds) (defBody s_holds) (defScope s_holds) .none kV5 dc5 pm5 an5 cd5 ct5), sl5⟩) (c5 : PySem.W.codeIn K cd5 "holds" = true) (k5 : PySem.W.keepIn K (.ref f5) = true)
    (a6 : PySem.W.nsIn K mainGlobals "_law_draws" = some (some (.ref f6))) (l6 : K.lookup f6 = some ⟨oc6, od6, .func (PySem.W.fnOf "_law_draws" "_law_draws" (defArgs s_law_draws) (defBody s_law_draws) (defScope s_law_draws) .none kV6 dc6 pm6 an6 cd6 ct6), sl6⟩) (c6 : PySem.W.codeIn K cd6 "_law_draws" = true) (k6 : PySem.W.keepIn K (.ref f6) = true)
    (a7 : PySem.W.nsIn K mainGlobals "_law_draw" = some (some (.ref f7))) (l7 : K.lookup f7 = some ⟨oc7, od7, .func (PySem.W.fnOf "_law_draw" "_law_draw" (defArgs s_law_draw) (defBody s_law_draw) (defScope s_law_draw) .none kV7 dc7 pm7 an7 cd7 ct7), sl7⟩) (c7 : PySem.W.codeIn K cd7 "_law_draw" = true) (k7 : PySem.W.keepIn K (.ref f7) = true)
    (a8 : PySem.W.nsIn K mainGlobals "_law_same" = some (some (.ref f8))) (l8 : K.lookup f8 = some ⟨oc8, od8, .func (PySem.W.fnOf "_law_same" "_law_same" (defArgs s_law_same) (defBody s_law_same) (defScope s_law_same) .none kV8 dc8 pm8 an8 cd8 ct8), sl8⟩) (c8 : PySem.W.codeIn K cd8 "_law_same" = true) (k8 : PySem.W.keepIn K (.ref f8) = true)
    (a9 : PySem.W.nsIn K mainGlobals "_law_pick" = some (some (.ref f9))) (l9 : K.lookup f9 = some ⟨oc9, od9, .func (PySem.W.fnOf "_law_pick" "_law_pick" (defArgs s_law_pick) (defBody s_law_pick) (defScope s_law_pick) .none kV9 dc9 pm9 an9 cd9 ct9), sl9⟩) (c9 : PySem.W.codeIn K cd9 "_law_pick" = true) (k9 : PySem.W.keepIn K (.ref f9) = true)
    (a10 : PySem.W.nsIn K mainGlobals "_law_wrap" = some (some (.ref f10))) (l10 : K.lookup f10 = some ⟨oc10, od10, .func (PySem.W.fnOf "_law_wrap" "_law_wrap" (defArgs s_law_wrap) (defBody s_law_wrap) (defScope s_law_wrap) .none kV10 dc10 pm10 an10 cd10 ct10), sl10⟩) (c10 : PySem.W.codeIn K cd10 "_law_wrap" = true) (k10 : PySem.W.keepIn K (.ref f10) = true)
    (a11 : PySem.W.nsIn K mainGlobals "_law_work" = some (some (.ref f11))) (l11 : K.lookup f11 = some ⟨oc11, od11, .func (PySem.W.fnOf "_law_work" "_law_work" (defArgs s_law_work) (defBody s_law_work) (defScope s_law_work) .none kV11 dc11 pm11 an11 cd11 ct11), sl11⟩) (c11 : PySem.W.codeIn K cd11 "_law_work" = true) (k11 : PySem.W.keepIn K (.ref f11) = true)
    (a12 : PySem.W.nsIn K mainGlobals "_law_cond" = some (some (.ref f12))) (l12 : K.lookup f12 = some ⟨oc12, od12, .func (PySem.W.fnOf "_law_cond" "_law_cond" (defArgs s_law_cond) (defBody s_law_cond) (defScope s_law_cond) .none kV12 dc12 pm12 an12 cd12 ct12), sl12⟩) (c12 : PySem.W.codeIn K cd12 "_law_cond" = true) (k12 : PySem.W.keepIn K (.ref f12) = true)
    (a13 : PySem.W.nsIn K mainGlobals "_law_asked" = some (some (.ref f13))) (l13 : K.lookup f13 = some ⟨oc13, od13, .func (PySem.W.fnOf "_law_asked" "_law_asked" (defArgs s_law_asked) (defBody s_law_asked) (defScope s_law_asked) .none kV13 dc13 pm13 an13 cd13 ct13), sl13⟩) (c13 : PySem.W.codeIn K cd13 "_law_asked" = true) (k13 : PySem.W.keepIn K (.ref f13) = true)
    (a14 : PySem.W.nsIn K mainGlobals "law" = some (some (.ref f14))) (l14 : K.lookup f14 = some ⟨oc14, od14, .func (PySem.W.fnOf "law" "law" (defArgs s_law) (defBody s_law) (defScope s_law) .none kV14 dc14 pm14 an14 cd14 ct14), sl14⟩) (c14 : PySem.W.codeIn K cd14 "law" = true) (k14 : PySem.W.keepIn K (.ref f14) = true)
    (aW : PySem.W.nsIn K mainGlobals "WIDE" = some (some (.int 4294967296 tW))) (aH : PySem.W.nsIn K mainGlobals "HALF" = some (some (.int 2147483648 tH)))
    (b_int : PySem.W.nsIn K mainGlobals "int" = some none)
    (b_bool : PySem.W.nsIn K mainGlobals "bool" = some none)
    (b_str : PySem.W.nsIn K mainGlobals "str" = some none)
    (b_list : PySem.W.nsIn K mainGlobals "list" = some none)
    (b_tuple : PySem.W.nsIn K mainGlobals "tuple" = some none)
    (b_len : PySem.W.nsIn K mainGlobals "len" = some none)
    (b_abs : PySem.W.nsIn K mainGlobals "abs" = some none)
    (b_max : PySem.W.nsIn K mainGlobals "max" = some none)
    (b_range : PySem.W.nsIn K mainGlobals "range" = some none)
    (b_isinstance : PySem.W.nsIn K mainGlobals "isinstance" = some none)
    (aB : PySem.W.nsIn K mainGlobals "BackError" = some (some (.ref B))) (aC : PySem.W.nsIn K mainGlobals "BadRun" = some (some (.ref C))) (kC : PySem.W.keepIn K (.ref C) = true)
    (xC : PySem.W.excIn K C [.type "ValueError", .type "Exception", .type "BaseException", .type "object"] "ValueError.__new__" = true)
    (sC : PySem.W.subIn K (.ref C) (.type "BaseException") = some true) (tC : PySem.W.typeIn K (.ref C) = some (.type "type"))
    (e1 : PySem.W.findIn K (.ref C) "__getattribute__" = some (some (.builtin "BaseException.__getattribute__"))) (e2 : PySem.W.findIn K (.ref C) "__getattr__" = some none)
    (e3 : PySem.W.hasDictIn K C = true) (e4 : PySem.W.findIn K (.ref C) "__class__" = some (some (.builtin "object.__class__")))
    (e5 : PySem.W.specialIn K (.builtin "object.__class__") "__get__" = some (some (.builtin "getset_descriptor.__get__"))) (e6 : PySem.W.takesIn K (.builtin "object.__class__") = some true) (e7 : PySem.W.mroIn K C (.type "object") = some true)
    (ki : PySem.W.kitOne K (.ref C) (.ref C) = some true)
    (b1 : PySem.W.subIn K (.ref B) (.type "BaseException") = some true) (b2 : PySem.W.hasDictIn K B = true) (b3 : PySem.W.typeIn K (.ref B) = some (.type "type")) (b4 : PySem.W.subIn K (.ref C) (.ref B) = some true) :
    ∃ fd : FuncData, (∀ (s : Shared) (v : Value), BindsTo s fd ⟨[v], []⟩ [("script", v)]) ∧ ∀ base : Heap, K.In base → base.Ns mainGlobals mg → FnOk l.prog w K mg base CX0 5 fa fd ["script"] (spLaw K) := by
  have e := hfa.symm.trans (PySem.W.mg_of X G a14)
  cases e
  have T : Txt K mg ⟨f0, f1, f2, f3, f4, f5, f6, f7, f8, f9, f10, f11, f12, f13, B, C⟩ tW tH := ⟨PySem.W.mg_of X G a0, k0, PySem.W.mg_of X G a1, k1, PySem.W.mg_of X G a2, k2, PySem.W.mg_of X G a3, k3, PySem.W.mg_of X G a4, k4, PySem.W.mg_of X G a5, k5, PySem.W.mg_of X G a6, k6, PySem.W.mg_of X G a7, k7, PySem.W.mg_of X G a8, k8, PySem.W.mg_of X G a9, k9, PySem.W.mg_of X G a10, k10, PySem.W.mg_of X G a11, k11, PySem.W.mg_of X G a12, k12, PySem.W.mg_of X G a13, k13, PySem.W.mg_of X G aW, PySem.W.mg_of X G aH, PySem.W.mg_none_of X G b_int, PySem.W.mg_none_of X G b_bool, PySem.W.mg_none_of X G b_str, PySem.W.mg_none_of X G b_list, PySem.W.mg_none_of X G b_tuple, PySem.W.mg_none_of X G b_len, PySem.W.mg_none_of X G b_abs, PySem.W.mg_none_of X G b_max, PySem.W.mg_none_of X G b_range, PySem.W.mg_none_of X G b_isinstance⟩
  have E : Exs K mg ⟨f0, f1, f2, f3, f4, f5, f6, f7, f8, f9, f10, f11, f12, f13, B, C⟩ := exc_ok (PySem.W.mg_of X G aB) (PySem.W.mg_of X G aC) kC xC sC tC e1 e2 e3 e4 e5 e6 e7 ki b1 b2 b3 b4 rfl rfl
  have F0 := fun_mk (st := s_is_whole) l0 c0 k0
  have b100 := F0.binds (ps := ["value"]) fun _ _ _ _ _ _ us hl => match us, hl with | [_], _ => rfl
  have F1 := fun_mk (st := s_is_word) l1 c1 k1
  have b101 := F1.binds (ps := ["value"]) fun _ _ _ _ _ _ us hl => match us, hl with | [_], _ => rfl
  have F2 := fun_mk (st := s_wrap) l2 c2 k2
  have b102 := F2.binds (ps := ["number"]) fun _ _ _ _ _ _ us hl => match us, hl with | [_], _ => rfl
  have F3 := fun_mk (st := s_worked) l3 c3 k3
  have b103 := F3.binds (ps := ["name", "one", "two"]) fun _ _ _ _ _ _ us hl => match us, hl with | [_, _, _], _ => rfl
  have F4 := fun_mk (st := s_divided) l4 c4 k4
  have b104 := F4.binds (ps := ["name", "one", "two"]) fun _ _ _ _ _ _ us hl => match us, hl with | [_, _, _], _ => rfl
  have F5 := fun_mk (st := s_holds) l5 c5 k5
  have b105 := F5.binds (ps := ["condition", "one", "two"]) fun _ _ _ _ _ _ us hl => match us, hl with | [_, _, _], _ => rfl
  have F6 := fun_mk (st := s_law_draws) l6 c6 k6
  have b106 := F6.binds (ps := ["script"]) fun _ _ _ _ _ _ us hl => match us, hl with | [_], _ => rfl
  have F7 := fun_mk (st := s_law_draw) l7 c7 k7
  have b107 := F7.binds (ps := ["draws", "limit"]) fun _ _ _ _ _ _ us hl => match us, hl with | [_, _], _ => rfl
  have F8 := fun_mk (st := s_law_same) l8 c8 k8
  have b108 := F8.binds (ps := ["actual", "expected"]) fun _ _ _ _ _ _ us hl => match us, hl with | [_, _], _ => rfl
  have F9 := fun_mk (st := s_law_pick) l9 c9 k9
  have b109 := F9.binds (ps := ["draws", "things"]) fun _ _ _ _ _ _ us hl => match us, hl with | [_, _], _ => rfl
  have F10 := fun_mk (st := s_law_wrap) l10 c10 k10
  have b110 := F10.binds (ps := ["number"]) fun _ _ _ _ _ _ us hl => match us, hl with | [_], _ => rfl
  have F11 := fun_mk (st := s_law_work) l11 c11 k11
  have b111 := F11.binds (ps := ["name", "one", "two"]) fun _ _ _ _ _ _ us hl => match us, hl with | [_, _, _], _ => rfl
  have F12 := fun_mk (st := s_law_cond) l12 c12 k12
  have b112 := F12.binds (ps := ["cond", "one", "two"]) fun _ _ _ _ _ _ us hl => match us, hl with | [_, _, _], _ => rfl
  have F13 := fun_mk (st := s_law_asked) l13 c13 k13
  have b113 := F13.binds (ps := ["k", "name", "one", "two"]) fun _ _ _ _ _ _ us hl => match us, hl with | [_, _, _, _], _ => rfl
  have F14 := fun_mk (st := s_law) l14 c14 k14
  refine ⟨PySem.W.fnOf "law" "law" (defArgs s_law) (defBody s_law) (defScope s_law) .none kV14 dc14 pm14 an14 cd14 ct14, fun s v => .of_eq rfl, fun base _ _ => ?_⟩
  have g_draw := ok_law_draw (P := l.prog) (w := w) (base := base) F7 T
  have g_wrap := ok_wrap (P := l.prog) (w := w) (base := base) F2 T
  have g_lwrap := ok_law_wrap (P := l.prog) (w := w) (base := base) F10 T
  have g_whole := ok_is_whole (P := l.prog) (w := w) (base := base) F0 T
  have g_div := ok_divided (P := l.prog) (w := w) (base := base) F4 T g_wrap b102
  have g_worked := ok_worked (P := l.prog) (w := w) (base := base) F3 T E g_wrap b102 g_div b104
  have g_holds := ok_holds (P := l.prog) (w := w) (base := base) F5 T E
  exact ok_law F14 T ⟨ok_law_draws F6 T, b106, g_draw, b107, ok_law_pick F9 T g_draw b107, b109, ok_law_same F8 T, b108, ok_law_asked F13 T E g_worked b103 g_holds b105, b113, ok_law_work F11 T g_lwrap b110, b111, ok_law_cond F12 T, b112, g_wrap, b102, g_lwrap, b110, ok_is_word F1 T g_whole b100, b101, g_whole, b100⟩
theorem walk {l : PySem.W.OpenLaw} {q : Program} {loose : List Str} {XP : (Str → Option Value) → Heap → Prop} {YP : World → Heap → Prop} {d : DefRec} {K : Params → PySem.W.Frag} (hn : l.most = some 63) (hdf : d.params.defaults = [])
    (hY : ∀ (w : World) (h : Heap), YP w h → (K w.params).In h)
    (F : ∀ (w : World) (mg : Str → Option Value) (fa : Addr) (h : Heap), (K w.params).In h → h.Ns mainGlobals mg → mg d.name = some (.ref fa) →
      ∃ fd : FuncData, (∀ (s : Shared) (u : Value), BindsTo s fd ⟨[u], []⟩ [("script", u)]) ∧ ∀ base : Heap, (K w.params).In base → base.Ns mainGlobals mg → FnOk l.prog w (K w.params) mg base CX0 5 fa fd ["script"] (spLaw (K w.params))) :
    PySem.W.WalkO q loose XP YP l.row.toRowW d [] (fun f vs => PySem.call f vs) :=
  L2.walk_of (n := 63) (k := 5) (x := "script") (CX := fun _ => CX0) (sp := fun w => spLaw (K w.params)) hn (by decide) hdf ⟨rfl, by decide, by decide⟩ hY F (fun _ _ a ns hl _ hS => ⟨a, ns, rfl, hS, hl, fun _ => rfl⟩) fun _ _ _ _ _ z => z
end My
open PySem PySem.W PyProof.Rows
set_option maxRecDepth 100000 in
set_option maxHeartbeats 0 in
theorem PySem.Challenge.cw_wentback_k00_whole_words_holds : PySem.Challenge.rw_wentback_k00_whole_words.Holds := by
  w_on; o_law; k_head; (case hw => w_witness2)
  k_fill
  refine My.walk (l := PySem.Challenge.rw_wentback_k00_whole_words) rfl rfl (fun w h Y => PySem.W.kIn_of Y) ?F
  case F =>
    intro w mg fa h KX G hmg
    refine' My.all_mk KX G hmg ?a0 ?l0 ?c0 ?k0 ?a1 ?l1 ?c1 ?k1 ?a2 ?l2 ?c2 ?k2 ?a3 ?l3 ?c3 ?k3 ?a4 ?l4 ?c4 ?k4 ?a5 ?l5 ?c5 ?k5 ?a6 ?l6 ?c6 ?k6 ?a7 ?l7 ?c7 ?k7 ?a8 ?l8 ?c8 ?k8 ?a9 ?l9 ?c9 ?k9 ?a10 ?l10 ?c10 ?k10 ?a11 ?l11 ?c11 ?k11 ?a12 ?l12 ?c12 ?k12 ?a13 ?l13 ?c13 ?k13 ?a14 ?l14 ?c14 ?k14 ?aW ?aH ?b_int ?b_bool ?b_str ?b_list ?b_tuple ?b_len ?b_abs ?b_max ?b_range ?b_isinstance ?aB ?aC ?kC ?xC ?sC ?tC ?e1 ?e2 ?e3 ?e4 ?e5 ?e6 ?e7 ?ki ?b1 ?b2 ?b3 ?b4
    (case a0 => k_is)
    (case l0 => k_is)
    (case c0 => k_is)
    (case k0 => k_is)
    (case a1 => k_is)
    (case l1 => k_is)
    (case c1 => k_is)
    (case k1 => k_is)
    (case a2 => k_is)
    (case l2 => k_is)
    (case c2 => k_is)
    (case k2 => k_is)
    (case a3 => k_is)
    (case l3 => k_is)
    (case c3 => k_is)
    (case k3 => k_is)
    (case a4 => k_is)
    (case l4 => k_is)
    (case c4 => k_is)
    (case k4 => k_is)
    (case a5 => k_is)
    (case l5 => k_is)
    (case c5 => k_is)
    (case k5 => k_is)
    (case a6 => k_is)
    (case l6 => k_is)
    (case c6 => k_is)
    (case k6 => k_is)
    (case a7 => k_is)
    (case l7 => k_is)
    (case c7 => k_is)
    (case k7 => k_is)
    (case a8 => k_is)
    (case l8 => k_is)
    (case c8 => k_is)
    (case k8 => k_is)
    (case a9 => k_is)
    (case l9 => k_is)
    (case c9 => k_is)
    (case k9 => k_is)
    (case a10 => k_is)
    (case l10 => k_is)
    (case c10 => k_is)
    (case k10 => k_is)
    (case a11 => k_is)
    (case l11 => k_is)
    (case c11 => k_is)
    (case k11 => k_is)
    (case a12 => k_is)
    (case l12 => k_is)
    (case c12 => k_is)
    (case k12 => k_is)
    (case a13 => k_is)
    (case l13 => k_is)
    (case c13 => k_is)
    (case k13 => k_is)
    (case a14 => k_is)
    (case l14 => k_is)
    (case c14 => k_is)
    (case k14 => k_is)
    (case aW => k_is)
    (case aH => k_is)
    (case b_int => k_is)
    (case b_bool => k_is)
    (case b_str => k_is)
    (case b_list => k_is)
    (case b_tuple => k_is)
    (case b_len => k_is)
    (case b_abs => k_is)
    (case b_max => k_is)
    (case b_range => k_is)
    (case b_isinstance => k_is)
    (case aB => k_is)
    (case aC => k_is)
    (case kC => k_is)
    (case xC => k_exc)
    (case sC => k_is)
    (case tC => k_is)
    (case e1 => k_is)
    (case e2 => k_is)
    (case e3 => k_is)
    (case e4 => k_is)
    (case e5 => k_is)
    (case e6 => k_is)
    (case e7 => k_is)
    (case ki => kit_is)
    (case b1 => k_is)
    (case b2 => k_is)
    (case b3 => k_is)
    (case b4 => k_is)
