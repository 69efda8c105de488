/- The law TopReal, of the Lean functions alone: it answers true at every input. No conditions. -/
import Derived.Test.YtfahbgkoldoflaaGreatDoorPx42
import Derived.Test.YtfahbgkoldoflaaGreatDoorSpec
namespace Go.Proofs.YtfahbgkoldoflaaGreatDoor.Px
open Go.Proofs.YtfahbgkoldoflaaGreatDoor.Sp Go.RowKit Go.Proofs.YtfahbgkoldoflaaGreatDoorW.PrintWords Go.Proofs.YtfahbgkoldoflaaGreatDoorW.PrintLast Go.Proofs.YtfahbgkoldoflaaGreatDoorW.PrintMore
theorem sq_bd {x : Int} (h1 : -138000000 ≤ x) (h2 : x ≤ 138000000) : 0 ≤ x * x ∧ x * x ≤ 138000000 * 138000000 := by
  by_cases h : 0 ≤ x
  · exact mul_le h h2 h h2
  · have := mul_le (a := -x) (b := -x) (A := 138000000) (C := 138000000) (by omega) (by omega) (by omega) (by omega)
    rwa [Int.neg_mul_neg] at this
theorem cube_next (y : Int) : (y + 1) * (y + 1) * (y + 1) = y * y * y + 3 * (y * y) + 3 * y + 1 := by
  simp only [Int.add_mul, Int.mul_add, Int.mul_one, Int.one_mul]
  omega
/-- One millionth of a second turns the law by less than 1500 parts, where it lies in reach of a window. -/
theorem rise_step {y : Int} (h1 : -138000000 ≤ y) (h2 : y ≤ 138000000) : (y + 1) * (y + 1) * (y + 1) * 262144 / 10000000000000000000 ≤ y * y * y * 262144 / 10000000000000000000 + 1499 := by
  have a := sq_bd h1 h2
  rw [cube_next]
  generalize y * y * y = p at *
  generalize y * y = q at *
  omega
theorem c31_low {v : Int} (h : -138000000 < c31 v) : c31 v ≤ v := by
  unfold c31 clamp at *
  split at h
  · omega
  · split <;> (try split) <;> omega
theorem c31_mid {v : Int} (h1 : -2147483648 ≤ v) (h2 : v ≤ 2147483648) : c31 v = v := clamp_in h1 h2
theorem law_step {m k d w : Int} (hm : 0 ≤ m) (hm2 : m ≤ 68719476736) (hw : 131072 ≤ w) (hw2 : w ≤ 4295098367) : lawQ m k (d - 1) ≤ lawQ m k d ∧ clamp (lawQ m k d) w (w + w / 2) ≤ clamp (lawQ m k (d - 1)) w (w + w / 2) + 1499 := by
  have mono := lawQ_mono (m := m) (k := k) (a := d - 1) (b := d) (by omega)
  refine ⟨mono, ?_⟩
  by_cases hd : lawQ m k d ≤ w
  · unfold clamp
    (repeat' split) <;> omega
  by_cases he : w + w / 2 ≤ lawQ m k (d - 1)
  · unfold clamp
    (repeat' split) <;> omega
  -- both lie where the law's steps are small
  have key : lawQ m k d ≤ lawQ m k (d - 1) + 1499 := by
    have b0 := c31_bd (d - k)
    have b1 := c31_bd (d - 1 - k)
    have u0 : riseQ (d - k) > -68719476736 := by
      have : lawQ m k d > 0 := by omega
      unfold lawQ clamp at this
      (repeat' split at this) <;> omega
    have u1 : riseQ (d - 1 - k) < 6442647551 := by
      have : lawQ m k (d - 1) < 6442647551 := by omega
      unfold lawQ clamp at this
      (repeat' split at this) <;> omega
    have low : -138000000 < c31 (d - k) := by
      apply Int.not_le.1
      intro h
      have c := cube_all h
      unfold riseQ at u0
      generalize c31 (d - k) * c31 (d - k) * c31 (d - k) = p at *
      omega
    have high : c31 (d - 1 - k) < 138000000 := by
      apply Int.not_le.1
      intro h
      have c := cube_all h
      unfold riseQ at u1
      generalize c31 (d - 1 - k) * c31 (d - 1 - k) * c31 (d - 1 - k) = p at *
      omega
    have x0 : -138000000 < d - k := by
      have := low
      unfold c31 clamp at this
      (repeat' split at this) <;> omega
    have x1 : d - 1 - k < 138000000 := by
      have := high
      unfold c31 clamp at this
      (repeat' split at this) <;> omega
    have st := rise_step (y := d - 1 - k) (by omega) (by omega)
    have e0 : riseQ (d - k) ≤ riseQ (d - 1 - k) + 1499 := by
      unfold riseQ
      rw [c31_mid (v := d - k) (by omega) (by omega), c31_mid (v := d - 1 - k) (by omega) (by omega)]
      rw [show d - 1 - k + 1 = d - k by omega] at st
      exact st
    unfold lawQ clamp
    (repeat' split) <;> omega
  unfold clamp
  (repeat' split) <;> omega
theorem by_step {w u t1 t2 : Int} (hw : 131072 ≤ w) (hw2 : w ≤ 4295098367) (hu : 0 ≤ u) (hu2 : u ≤ w) (h1 : w ≤ t2) (h2 : t2 ≤ t1) (h3 : t1 ≤ t2 + 1499) (h4 : t1 ≤ w + w / 2) : byQ w t2 u ≤ byQ w t1 u ∧ byQ w t1 u ≤ byQ w t2 u + 1500 := by
  have ew : win w = w := clamp_in hw (by omega)
  have eu : clamp u 0 68719476736 = u := clamp_in hu (by omega)
  have by_eq : ∀ t, w ≤ t → byQ w t u = u * (t - w) / w := by
    intro t ht
    have hle : u * (t - w) / w ≤ t - w := by
      have a : u * (t - w) ≤ w * (t - w) := Int.mul_le_mul_of_nonneg_right hu2 (by omega)
      have b := Int.ediv_le_ediv (c := w) (by omega) a
      rwa [Int.mul_ediv_cancel_left _ (by omega)] at b
    unfold byQ
    rw [ew, eu]
    by_cases h : t ≤ w
    · have : t = w := by omega
      subst this
      simp
    · rw [if_neg h]
      unfold Sp.min2
      split <;> omega
  rw [by_eq t1 (by omega), by_eq t2 h1]
  have m1 : u * (t2 - w) ≤ u * (t1 - w) := Int.mul_le_mul_of_nonneg_left (by omega) hu
  have m2 : u * (t1 - w) ≤ u * (t2 - w) + 1499 * w := by
    have a : u * (t1 - w) ≤ u * (t2 - w + 1499) := Int.mul_le_mul_of_nonneg_left (by omega) hu
    rw [Int.mul_add] at a
    have b : u * 1499 ≤ w * 1499 := Int.mul_le_mul_of_nonneg_right hu2 (by omega)
    have c : w * 1499 = 1499 * w := Int.mul_comm _ _
    omega
  have d1 := Int.ediv_le_ediv (c := w) (by omega) m1
  have d2 := Int.ediv_le_ediv (c := w) (by omega) m2
  rw [Int.add_mul_ediv_right _ _ (by omega)] at d2
  exact ⟨d1, by omega⟩
theorem both_step {w e u t1 t2 : Int} (h1 : byQ w t2 u ≤ byQ w t1 u) (h2 : byQ w t1 u ≤ byQ w t2 u + 1500) : bothQ w t2 e u ≤ bothQ w t1 e u ∧ bothQ w t1 e u ≤ bothQ w t2 e u + 1500 := by
  unfold bothQ
  generalize win w = v at *
  generalize byQ w t1 u = a at *
  generalize byQ w t2 u = b at *
  unfold win clamp
  constructor <;> ((repeat' split) <;> omega)
theorem sawtoothtop_TopReal.pure : ∀ (a0 : Int) (a1 : Int) (a2 : Int) (a3 : Int) (a4 : Int) (a5 : Int) (a6 : Int), (Lit.int .i64 a0).wf = true → (Lit.int .i64 a1).wf = true → (Lit.int .i64 a2).wf = true → (Lit.int .i64 a3).wf = true → (Lit.int .u32 a4).wf = true → (Lit.int .i64 a5).wf = true → (Lit.int .u32 a6).wf = true → ∃ k, sawtoothtop_TopReal.f k a0 a1 a2 a3 a4 a5 a6 = some true := by
  intro at_ first high now window est told v0 v1 v2 v3 v4 v5 v6
  have i0 := wf_i64.1 v0
  have i1 := wf_i64.1 v1
  have i2 := wf_i64.1 v2
  have i3 := wf_i64.1 v3
  have i4 := wf_u32.1 v4
  have i5 := wf_i64.1 v5
  have i6 := wf_u32.1 v6
  refine ⟨2, ?_⟩
  unfold sawtoothtop_TopReal.f sawtoothtop_awake.f
  rw [Option.bind_some, epoch_BeginS.eq i0 i1 i2, Option.bind_some]
  by_cases c : 0 ≤ at_ ∧ at_ ≤ 1099511627776 ∧ 0 ≤ first ∧ first ≤ 68719476736 ∧ 0 ≤ high ∧ high ≤ 68719476736
  · obtain ⟨c1, c2, c3, c4, c5, c6⟩ := c
    have hb : beginQ at_ first high = (true, at_, first, max2 high first, kQ (max2 high first - first), first, 0) := by
      unfold beginQ; rw [if_pos ⟨c1, c2, c3, c4, c5, c6⟩]
    rw [hb]
    have hm : first ≤ max2 high first ∧ max2 high first ≤ 68719476736 := by unfold max2; split <;> omega
    generalize max2 high first = m at *
    have hk := kQ_bd (m - first)
    have hon : eOn at_ first m (kQ (m - first)) first := ⟨c1, c2, c3, c4, by omega, by omega, c3, c4, hm.1, rfl⟩
    have hok : eOk true at_ first m (kQ (m - first)) first = true := eOk_on.2 hon
    generalize kQ (m - first) = k at *
    rw [show wrap64 window = window from w64 (by omega), show wrap64 told = told from w64 (by omega), show wrap64 (131072 + window) = 131072 + window from w64 (by omega)]
    obtain ⟨w, hw⟩ : ∃ w, 131072 + window = w := ⟨_, rfl⟩
    rw [hw]
    have hw1 : 131072 ≤ w := by omega
    have hw2 : w ≤ 4295098367 := by omega
    have hu : 0 ≤ mn told w ∧ mn told w ≤ w := by unfold mn; split <;> omega
    generalize mn told w = u at *
    have tq : ∀ n, targetQ true at_ first m k first n w = clamp (lawQ m k (n - at_)) w (w + w / 2) := by
      intro n
      unfold targetQ
      rw [if_neg (fun x => x.elim (by omega) (fun y => y ⟨rfl, hok⟩)), near_in (by omega)]
      unfold atQ
      rw [if_pos ⟨rfl, hok⟩]
    have go : ∀ later, I later → (later = now - 1 ∨ later = now) → sawtoothtop_TopReal.j0 2 now est true w u later true at_ first m k first = some true := by
      intro later hl hla
      have cl := fun a => clamp_bd (a := a) (low := w) (high := w + w / 2) (by omega)
      have b1 := cl (lawQ m k (now - at_))
      have b2 := cl (lawQ m k (later - at_))
      simp only [sawtoothtop_TopReal.j0]
      rw [cubic_TargetS.eq (by omega) (by omega) (by omega) (by omega) i3 (by omega), tq, Option.bind_some, grow_Both.eq (by omega) (by omega) i5 (by omega), Option.bind_some, cubic_TargetS.eq (by omega) (by omega) (by omega) (by omega) hl (by omega), tq, Option.bind_some, grow_Both.eq (by omega) (by omega) i5 (by omega), Option.bind_some, if_pos trivial]
      have st : clamp (lawQ m k (later - at_)) w (w + w / 2) ≤ clamp (lawQ m k (now - at_)) w (w + w / 2) ∧ clamp (lawQ m k (now - at_)) w (w + w / 2) ≤ clamp (lawQ m k (later - at_)) w (w + w / 2) + 1499 := by
        rcases hla with rfl | rfl
        · have q := law_step (m := m) (k := k) (d := now - at_) (w := w) (by omega) (by omega) hw1 hw2
          rw [show now - 1 - at_ = now - at_ - 1 by omega]
          exact ⟨clamp_mono q.1 (by omega), q.2⟩
        · exact ⟨Int.le_refl _, by omega⟩
      generalize clamp (lawQ m k (now - at_)) w (w + w / 2) = t1 at *
      generalize clamp (lawQ m k (later - at_)) w (w + w / 2) = t2 at *
      have by_ := by_step (u := u) hw1 hw2 hu.1 hu.2 b2.1 st.1 st.2 b1.2
      have bo := both_step (w := w) (e := est) (u := u) by_.1 by_.2
      have w1 := win_bd (if win w + byQ w t1 u < est then est else win w + byQ w t1 u)
      have w2 := win_bd (if win w + byQ w t2 u < est then est else win w + byQ w t2 u)
      have f1 : 131072 ≤ bothQ w t1 est u ∧ bothQ w t1 est u ≤ 68719476736 := w1
      have f2 : 131072 ≤ bothQ w t2 est u ∧ bothQ w t2 est u ≤ 68719476736 := w2
      rw [if_pos bo.1, w64 (by omega)]
      exact congrArg some (decide_eq_true (by omega))
    simp only []
    rw [if_pos trivial]
    by_cases g : now > -9223372036854775808
    · rw [if_pos g, show wrap64 (now - 1) = now - 1 from w64 (by omega)]
      exact go (now - 1) (by omega) (Or.inl rfl)
    · rw [if_neg g]
      exact go now i3 (Or.inr rfl)
  · have hb : beginQ at_ first high = (false, 0, 0, 0, 0, 0, 201) := by unfold beginQ; rw [if_neg c]
    rw [hb]
    simp
end Go.Proofs.YtfahbgkoldoflaaGreatDoor.Px
