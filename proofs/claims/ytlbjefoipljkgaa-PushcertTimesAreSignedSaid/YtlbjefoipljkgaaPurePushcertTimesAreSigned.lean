/- Certificates that differ only in their time have different signatures: the plain law. Its condition: the parameters are of their kinds and sizes. -/
import Derived.Test.YtlbjefoipljkgaaFf7
import Derived.Test.YtlbjefoipljkgaaFn0
import Derived.Test.YtlbjefoipljkgaaFp7
import Derived.Test.YtlbjefoipljkgaaPuPush
set_option linter.unusedVariables false
namespace Go.Proofs.Ytlbjefoipljkgaa.Pure
open Go.RowKit Go.Proofs.Ytlbjefoipljkgaa.Fn Go.Proofs.YtlbjefoipljkgaaW.PrintWords Go.Proofs.YtlbjefoipljkgaaW.PrintLast Go.Proofs.YtlbjefoipljkgaaW.PrintMore
theorem digFrom_append (a b : List Int) : ∀ h, digFrom h (a ++ b) = digFrom (digFrom h a) b := by
  intro h
  unfold digFrom
  rw [List.foldl_append]
theorem lin_inj {c x y s : Int} (hc : Nat.Coprime 2305843009213693951 c.natAbs) (h0 : 0 ≤ x) (h1 : x < 2305843009213693951) (g0 : 0 ≤ y) (g1 : y < 2305843009213693951) (e : (x * c + s) % 2305843009213693951 = (y * c + s) % 2305843009213693951) : x = y := by
  have e1 := Int.emod_eq_emod_iff_emod_sub_eq_zero.1 e
  have e2 : x * c + s - (y * c + s) = (x - y) * c := by rw [Int.sub_mul]; omega
  rw [e2] at e1
  have e3 := Int.natAbs_dvd_natAbs.2 (Int.dvd_of_emod_eq_zero e1)
  rw [Int.natAbs_mul] at e3
  have e4 : (2305843009213693951 : Int).natAbs ∣ (x - y).natAbs := hc.dvd_of_dvd_mul_right e3
  obtain ⟨q, hq⟩ := Int.natAbs_dvd_natAbs.1 e4
  have hz : q = 0 := by omega
  rw [hz] at hq
  omega
theorem step_inj {h h' b : Int} (h0 : 0 ≤ h) (h1 : h < 2305843009213693951) (g0 : 0 ≤ h') (g1 : h' < 2305843009213693951) (e : (h * 257 + b + 1) % 2305843009213693951 = (h' * 257 + b + 1) % 2305843009213693951) : h = h' := by
  rw [Int.add_assoc, Int.add_assoc] at e
  exact lin_inj (by decide) h0 h1 g0 g1 e
theorem digFrom_inj (l : List Int) : ∀ h h', 0 ≤ h → h < 2305843009213693951 → 0 ≤ h' → h' < 2305843009213693951 → digFrom h l = digFrom h' l → h = h' := by
  induction l with
  | nil => intro h h' _ _ _ _ e; exact e
  | cons b l ih =>
    intro h h' h0 h1 g0 g1 e
    have := ih _ _ (Int.emod_nonneg _ (by omega)) (Int.emod_lt_of_pos _ (by omega)) (Int.emod_nonneg _ (by omega)) (Int.emod_lt_of_pos _ (by omega)) e
    exact step_inj h0 h1 g0 g1 this
theorem three_inj {h a b c a' b' c' : Int} (h0 : 0 ≤ h) (h1 : h < 2305843009213693951) (ha : 0 ≤ a ∧ a ≤ 255) (hb : 0 ≤ b ∧ b ≤ 255) (hc : 0 ≤ c ∧ c ≤ 255) (ha' : 0 ≤ a' ∧ a' ≤ 255) (hb' : 0 ≤ b' ∧ b' ≤ 255) (hc' : 0 ≤ c' ∧ c' ≤ 255)
    (e : digFrom h [a, b, c] = digFrom h [a', b', c']) : a = a' ∧ b = b' ∧ c = c' := by
  unfold digFrom at e
  simp only [List.foldl_cons, List.foldl_nil] at e
  have e2 : ((h * 257 + a + 1) % 2305843009213693951 * 257 + b + 1) * 257 + c - (((h * 257 + a' + 1) % 2305843009213693951 * 257 + b' + 1) * 257 + c') = 2305843009213693951 * ((((h * 257 + a + 1) % 2305843009213693951 * 257 + b + 1) % 2305843009213693951 * 257 + c + 1) / 2305843009213693951 - (((h * 257 + a' + 1) % 2305843009213693951 * 257 + b' + 1) % 2305843009213693951 * 257 + c' + 1) / 2305843009213693951 + 257 * (((h * 257 + a + 1) % 2305843009213693951 * 257 + b + 1) / 2305843009213693951 - ((h * 257 + a' + 1) % 2305843009213693951 * 257 + b' + 1) / 2305843009213693951)) := by omega
  have e3 : (a - a') * 66049 + (b - b') * 257 + (c - c') = 2305843009213693951 * ((((h * 257 + a + 1) % 2305843009213693951 * 257 + b + 1) % 2305843009213693951 * 257 + c + 1) / 2305843009213693951 - (((h * 257 + a' + 1) % 2305843009213693951 * 257 + b' + 1) % 2305843009213693951 * 257 + c' + 1) / 2305843009213693951 + 257 * (((h * 257 + a + 1) % 2305843009213693951 * 257 + b + 1) / 2305843009213693951 - ((h * 257 + a' + 1) % 2305843009213693951 * 257 + b' + 1) / 2305843009213693951) + 66049 * ((h * 257 + a + 1) / 2305843009213693951 - (h * 257 + a' + 1) / 2305843009213693951)) := by omega
  generalize ((((h * 257 + a + 1) % 2305843009213693951 * 257 + b + 1) % 2305843009213693951 * 257 + c + 1) / 2305843009213693951 - (((h * 257 + a' + 1) % 2305843009213693951 * 257 + b' + 1) % 2305843009213693951 * 257 + c' + 1) / 2305843009213693951 + 257 * (((h * 257 + a + 1) % 2305843009213693951 * 257 + b + 1) / 2305843009213693951 - ((h * 257 + a' + 1) % 2305843009213693951 * 257 + b' + 1) / 2305843009213693951) + 66049 * ((h * 257 + a + 1) / 2305843009213693951 - (h * 257 + a' + 1) / 2305843009213693951)) = z at e3
  clear e e2
  have hz : z = 0 := by omega
  subst hz
  have h3 : a = a' := by omega
  have h4 : b = b' := by omega
  exact ⟨h3, h4, by omega⟩
theorem byte8_tm {t : Int} (h : isTm t = true) : byte8 t = [0, 0, 0, 0, 0] ++ [t / 65536 % 256, t / 256 % 256, t % 256] := by
  rw [isTm_iff] at h
  unfold byte8
  simp only [List.cons_append, List.nil_append, List.cons.injEq, and_true]
  refine ⟨by omega, by omega, by omega, by omega, by omega⟩
theorem payl_split (n t k : Int) (r : ByteArray) (o e : Int) : payl n t k r o e = byte8 n ++ (byte8 t ++ (byte8 k ++ (byte8 o ++ (byte8 e ++ bytesOf r)))) := by
  unfold payl msg
  simp only [List.flatMap_cons, List.flatMap_nil, List.append_nil, List.append_assoc]
theorem sig_inj {n t t' k : Int} {r : ByteArray} {o e : Int} (ht : isTm t = true) (ht' : isTm t' = true) (h : certSig n t k r o e = certSig n t' k r o e) : t = t' := by
  unfold certSig sgn at h
  have hd : dig (payl n t k r o e) = dig (payl n t' k r o e) := by
    have h1 := dig_lt (payl n t k r o e)
    have h2 := dig_lt (payl n t' k r o e)
    unfold pairD at h
    rw [show ∀ x : Int, k * 1000003 + x * 31 + 7 = x * 31 + (k * 1000003 + 7) from fun x => by omega, show ∀ x : Int, k * 1000003 + x * 31 + 7 = x * 31 + (k * 1000003 + 7) from fun x => by omega] at h
    exact lin_inj (by decide) h1.1 h1.2 h2.1 h2.2 h
  rw [payl_split, payl_split] at hd
  unfold dig at hd
  rw [digFrom_append (byte8 n) (byte8 t ++ _), digFrom_append (byte8 t), digFrom_append (byte8 n), digFrom_append (byte8 t')] at hd
  generalize hH : digFrom 1 (byte8 n) = H at hd
  have hb : 0 ≤ H ∧ H < 2305843009213693951 := hH ▸ digFrom_lt _ 1 (by omega) (by omega)
  have e1 := digFrom_inj _ _ _ (digFrom_lt _ H hb.1 hb.2).1 (digFrom_lt _ H hb.1 hb.2).2 (digFrom_lt _ H hb.1 hb.2).1 (digFrom_lt _ H hb.1 hb.2).2 hd
  rw [byte8_tm ht, byte8_tm ht', digFrom_append, digFrom_append] at e1
  have hG := digFrom_lt [0, 0, 0, 0, 0] H hb.1 hb.2
  have e2 := three_inj hG.1 hG.2 (by omega) (by omega) (by omega) (by omega) (by omega) (by omega) e1
  rw [isTm_iff] at ht ht'
  omega
theorem PushcertTimesAreSigned : changeforgelaw5_PushcertTimesAreSigned.Pure := by
  intro c t _ _
  refine ev_total ?_
  unfold changeforgelaw5_PushcertTimesAreSigned.f
  refine ev_bind pushes_ev (ev_if_pos rfl (ev_bind (pCertify_ev c.f0 c.f1 c.f2 c.f3 c.f4 c.f5 c.f6) (ev_bind (pCertify_ev c.f0 t c.f2 c.f3 c.f4 c.f5 c.f6) ?_)))
  unfold certRes
  by_cases h1 : (certFault c.f0 c.f1 c.f2 c.f3 c.f4 c.f5).1 = 0
  · rw [if_pos h1]
    refine ev_if_pos rfl ?_
    by_cases h2 : (certFault c.f0 t c.f2 c.f3 c.f4 c.f5).1 = 0
    · rw [if_pos h2]
      refine Ev.step (f := fun _ => some true) (fun k => ?_) (Ev.now _)
      simp only [changeforgelaw5_PushcertTimesAreSigned.j0]
      rw [if_neg (by simp)]
      congr 1
      have t1 := ((certOk_iff _ _ _ _ _).1 (certFault_ok h1).2.1).2.1
      have t2 := ((certOk_iff _ _ _ _ _).1 (certFault_ok h2).2.1).2.1
      by_cases ht : c.f1 = t
      · rw [ht]
        simp
      · have : certSig c.f0 c.f1 c.f2 c.f3 c.f4 c.f5 ≠ certSig c.f0 t c.f2 c.f3 c.f4 c.f5 := fun e => ht (sig_inj t1 t2 e)
        rw [beq_eq_false_iff_ne.2 this, beq_eq_false_iff_ne.2 ht]
        rfl
    · rw [if_neg h2]
      have e : ((certFault c.f0 t c.f2 c.f3 c.f4 c.f5).1 != 0) = true := by simpa using h2
      dsimp only
      rw [e]
      refine Ev.step (fun k => by simp only [changeforgelaw5_PushcertTimesAreSigned.j0]; rw [if_pos trivial]) ?_
      exact ev_bind (rCert_ev c.f0 c.f1 c.f2 c.f3 c.f4 c.f5 c.f6) (ev_if_pos h1 (ev_bind (rCert_ev c.f0 t c.f2 c.f3 c.f4 c.f5 c.f6) (ev_now fun k => by rw [e])))
  · rw [if_neg h1]
    refine ev_if_neg h1 ?_
    refine Ev.step (fun k => by simp only [changeforgelaw5_PushcertTimesAreSigned.j0]; rw [if_pos trivial]) ?_
    exact ev_bind (rCert_ev c.f0 c.f1 c.f2 c.f3 c.f4 c.f5 c.f6) (ev_if_neg h1 (Ev.now _))
end Go.Proofs.Ytlbjefoipljkgaa.Pure
