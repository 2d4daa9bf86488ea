import PyProof.Rows.All
import Wide.All
import OpenK.AllK
import Wide.FinOn
import HandS.ForMost
import HandS.Gcd
import HandS.Zip
import HandS.Conv
import HandS.SortInts
import HandS.Style
import HandS.IsInst
import HandS.OwnEq
import HandS.Defaults
import HandS.DictComp
import HandS.Exc
import HandS.ExcInit
import HandS.Lambda
import HandS.EndTab
import HandS.HeadWalk
import HandS.Head3
import HandS.HeadHook2
import KE.KExcSuper
import KE.KStateDown
import HandS.Head0
import HandS.Head1
import HandS.Head2
import HandS.HeadHook1
import HandS.HeadHook3
import HandS.HeadHook4
import PyProof.NeKinds
import KE.GoesEnum
import KE.GoesMore
import PyProof.Rows.SortShell
import HandS.TupSets
import HandS.SetFor
import HandS.Walk
import HandS.Codes
import KE.KSuper
import HandS.ExcIs
import HandS.ExcField
import PySem.Challenge.RW_pulledrooms_k63_whole_each_fitting_has_a
/-! text Mrope -/
/-! Ropes with even rounds, rounds by several pulls, ways that join them: plain arithmetic -/
namespace RK
theorem php {l : List Nat} {N : Nat} (hn : l.Nodup) (hlt : ∀ x ∈ l, x < N) (hl : l.length = N) : l.Perm (List.range N) := by
  refine (List.perm_ext_iff_of_nodup hn List.nodup_range).mpr fun a => ⟨fun h => List.mem_range.mpr (hlt a h), fun h => ?_⟩
  by_cases ha : a ∈ l
  · exact ha
  · have h1 : (a :: l).Nodup := List.nodup_cons.mpr ⟨ha, hn⟩
    have h2 : (a :: l) ⊆ List.range N := fun x hx => by
      rcases List.mem_cons.mp hx with rfl | hx
      · exact h
      · exact List.mem_range.mpr (hlt x hx)
    have h3 := h1.length_le_of_subset h2
    rw [List.length_cons, List.length_range] at h3
    omega

/-- one pull -/
def rp (L s : Nat) : Nat := if (s + 1) % L = 0 then s + 1 - L else s + 1
def ropeL (N L : Nat) : List Nat := (List.range N).map (rp L)
/-- t pulls -/
def pl (L : Nat) (t : Int) (s : Nat) : Nat := s / L * L + ((((s % L : Nat) : Int) + t) % (L : Int)).toNat
/-- the j-th seat of the k-th round by f pulls -/
def hs (L : Nat) (f : Int) (k j : Nat) : Nat := k / Nat.gcd L f.natAbs * L + ((((k % Nat.gcd L f.natAbs : Nat) : Int) + f * (j : Int)) % (L : Int)).toNat

theorem blk_div {b L x : Nat} (h : x < L) : (b * L + x) / L = b := by
  rw [Nat.mul_comm, Nat.mul_add_div (by omega), Nat.div_eq_of_lt h, Nat.add_zero]
theorem blk_mod {b L x : Nat} (h : x < L) : (b * L + x) % L = x := by
  rw [Nat.mul_comm, Nat.mul_add_mod, Nat.mod_eq_of_lt h]
theorem blk_lt {b L x N : Nat} (h : x < L) (hb : b < N / L) (hd : L ∣ N) : b * L + x < N := by
  have h1 : N / L * L = N := Nat.div_mul_cancel hd
  have h2 : (b + 1) * L ≤ N / L * L := Nat.mul_le_mul_right L hb
  rw [Nat.succ_mul] at h2
  omega
theorem mod_lt {L : Nat} (hL : 0 < L) (x : Int) : (x % (L : Int)).toNat < L := by
  have h1 := Int.emod_nonneg x (show (L : Int) ≠ 0 by omega)
  have h2 := Int.emod_lt_of_pos x (show (0 : Int) < L by omega)
  omega
theorem mcst {L : Nat} (hL : 0 < L) (x : Int) : (((x % (L : Int)).toNat : Nat) : Int) = x % (L : Int) := Int.toNat_of_nonneg (Int.emod_nonneg x (show (L : Int) ≠ 0 by omega))

theorem rp_eq {L s : Nat} (hL : 0 < L) : rp L s = s / L * L + (s % L + 1) % L := by
  have h0 := Nat.div_add_mod s L
  have h1 := Nat.mod_lt s hL
  have hc : s / L * L = L * (s / L) := Nat.mul_comm _ _
  unfold rp
  by_cases h : s % L + 1 = L
  · have e : s + 1 = L * (s / L + 1) := by rw [Nat.mul_add]; omega
    rw [if_pos (by rw [e]; exact Nat.mul_mod_right _ _), h, Nat.mod_self]
    rw [Nat.mul_add] at e
    omega
  · have hlt : s % L + 1 < L := by omega
    have e : s + 1 = L * (s / L) + (s % L + 1) := by omega
    rw [if_neg (by rw [e, Nat.mul_add_mod, Nat.mod_eq_of_lt hlt]; omega), Nat.mod_eq_of_lt hlt]
    omega
theorem rp_lt {N L s : Nat} (hL : 0 < L) (hd : L ∣ N) (h : s < N) : rp L s < N := by
  rw [rp_eq hL]
  exact blk_lt (Nat.mod_lt _ hL) (Nat.div_lt_div_of_lt_of_dvd hd h) hd
theorem pl_lt {N L s : Nat} {t : Int} (hL : 0 < L) (hd : L ∣ N) (h : s < N) : pl L t s < N :=
  blk_lt (mod_lt hL _) (Nat.div_lt_div_of_lt_of_dvd hd h) hd
theorem rp_inj {L s u : Nat} (hL : 0 < L) (h : rp L s = rp L u) : s = u := by
  rw [rp_eq hL, rp_eq hL] at h
  have a1 := Nat.mod_lt (s % L + 1) hL
  have a2 := Nat.mod_lt (u % L + 1) hL
  have e1 := congrArg (· / L) h
  simp only [blk_div a1, blk_div a2] at e1
  have e2 := congrArg (· % L) h
  simp only [blk_mod a1, blk_mod a2] at e2
  have h0 := Nat.div_add_mod s L
  have h1 := Nat.div_add_mod u L
  have b1 := Nat.mod_lt s hL
  have b2 := Nat.mod_lt u hL
  have e3 : s % L = u % L := by
    by_cases c1 : s % L + 1 = L
    · rw [c1, Nat.mod_self] at e2
      by_cases c2 : u % L + 1 = L
      · omega
      · rw [Nat.mod_eq_of_lt (a := u % L + 1) (b := L) (by omega)] at e2
        omega
    · rw [Nat.mod_eq_of_lt (a := s % L + 1) (b := L) (by omega)] at e2
      by_cases c2 : u % L + 1 = L
      · rw [c2, Nat.mod_self] at e2
        omega
      · rw [Nat.mod_eq_of_lt (a := u % L + 1) (b := L) (by omega)] at e2
        omega
  rw [e1] at h0
  omega
theorem ropeL_len (N L : Nat) : (ropeL N L).length = N := by simp [ropeL]
theorem ropeL_at {N L s : Nat} (h : s < N) : (ropeL N L)[s]? = some (rp L s) := by
  simp [ropeL, h]
theorem nodup_map {α β : Type} {f : α → β} : ∀ {l : List α}, l.Nodup → (∀ a ∈ l, ∀ b ∈ l, f a = f b → a = b) → (l.map f).Nodup
  | [], _, _ => List.nodup_nil
  | a :: l, h, hf => by
    obtain ⟨h1, h2⟩ := List.nodup_cons.mp h
    refine List.nodup_cons.mpr ⟨fun hm => ?_, nodup_map h2 fun x hx y hy => hf x (.tail _ hx) y (.tail _ hy)⟩
    obtain ⟨b, hb, e⟩ := List.mem_map.mp hm
    have := hf b (.tail _ hb) a (.head _) e
    subst this
    exact h1 hb
theorem ropeL_perm {N L : Nat} (hL : 0 < L) (hd : L ∣ N) : (ropeL N L).Perm (List.range N) := by
  refine php (nodup_map List.nodup_range fun a _ b _ e => rp_inj hL e) (fun x hx => ?_) (ropeL_len N L)
  obtain ⟨s, hs, rfl⟩ := List.mem_map.mp hx
  exact rp_lt hL hd (List.mem_range.mp hs)

section
variable {N L : Nat} {f : Int}
theorem g_pos (hL : 0 < L) : 0 < Nat.gcd L f.natAbs := Nat.gcd_pos_of_pos_left _ hL
theorem r_pos (hL : 0 < L) : 0 < L / Nat.gcd L f.natAbs := Nat.div_pos (Nat.gcd_le_left _ hL) (g_pos hL)
theorem gr_eq : Nat.gcd L f.natAbs * (L / Nat.gcd L f.natAbs) = L := Nat.mul_div_cancel' (Nat.gcd_dvd_left _ _)
theorem hs_lt (hL : 0 < L) (hd : L ∣ N) {k j : Nat} (hk : k < N / L * Nat.gcd L f.natAbs) : hs L f k j < N := by
  refine blk_lt (mod_lt hL _) ?_ hd
  exact Nat.div_lt_of_lt_mul (by rw [Nat.mul_comm]; exact hk)
theorem hs_inj (hL : 0 < L) {k j k' j' : Nat} (hj : j < L / Nat.gcd L f.natAbs) (hj' : j' < L / Nat.gcd L f.natAbs) (h : hs L f k j = hs L f k' j') : k = k' ∧ j = j' := by
  unfold hs at h
  have gp := g_pos (f := f) hL
  have m1 := mod_lt hL (((k % Nat.gcd L f.natAbs : Nat) : Int) + f * (j : Int))
  have m2 := mod_lt hL (((k' % Nat.gcd L f.natAbs : Nat) : Int) + f * (j' : Int))
  have e1 := congrArg (· / L) h
  simp only [blk_div m1, blk_div m2] at e1
  have e2 := congrArg (· % L) h
  simp only [blk_mod m1, blk_mod m2] at e2
  have e3 : (((k % Nat.gcd L f.natAbs : Nat) : Int) + f * (j : Int)) % (L : Int) = (((k' % Nat.gcd L f.natAbs : Nat) : Int) + f * (j' : Int)) % (L : Int) := by
    exact (mcst hL _).symm.trans ((congrArg (fun z : Nat => (z : Int)) e2).trans (mcst hL _))
  have dg : ((Nat.gcd L f.natAbs : Nat) : Int) ∣ (L : Int) := Int.natCast_dvd_natCast.mpr (Nat.gcd_dvd_left _ _)
  have df : ((Nat.gcd L f.natAbs : Nat) : Int) ∣ f := Int.ofNat_dvd_left.mpr (Nat.gcd_dvd_right _ _)
  have key : ∀ (c i : Nat), (((c : Nat) : Int) + f * (i : Int)) % (Nat.gcd L f.natAbs : Nat) = ((c % Nat.gcd L f.natAbs : Nat) : Int) := fun c i => by
    obtain ⟨q, hq⟩ := df
    have : ((c : Nat) : Int) + f * (i : Int) = (c : Int) + (Nat.gcd L f.natAbs : Nat) * (q * i) := by
      rw [← Int.mul_assoc, ← hq]
    rw [this, Int.add_mul_emod_self_left]
    exact (Int.natCast_emod _ _).symm
  have e4 := congrArg (· % ((Nat.gcd L f.natAbs : Nat) : Int)) e3
  simp only [Int.emod_emod_of_dvd _ dg, key] at e4
  have e5 : k % Nat.gcd L f.natAbs = k' % Nat.gcd L f.natAbs := by
    rw [Nat.mod_mod, Nat.mod_mod] at e4
    exact Int.ofNat.inj e4
  have ek : k = k' := by
    rw [← Nat.div_add_mod k (Nat.gcd L f.natAbs), ← Nat.div_add_mod k' (Nat.gcd L f.natAbs), e1, e5]
  refine ⟨ek, ?_⟩
  subst ek
  have e6 := Int.emod_eq_emod_iff_emod_sub_eq_zero.mp e3
  have e7 := Int.dvd_of_emod_eq_zero e6
  have e8 : (((k % Nat.gcd L f.natAbs : Nat) : Int) + f * (j : Int)) - (((k % Nat.gcd L f.natAbs : Nat) : Int) + f * (j' : Int)) = f * ((j : Int) - (j' : Int)) := by
    rw [Int.mul_sub]; omega
  rw [e8] at e7
  have e9 := Int.ofNat_dvd_left.mp e7
  rw [Int.natAbs_mul] at e9
  have e10 : Nat.gcd L f.natAbs * (L / Nat.gcd L f.natAbs) ∣ Nat.gcd L f.natAbs * (f.natAbs / Nat.gcd L f.natAbs * ((j : Int) - (j' : Int)).natAbs) := by
    rw [gr_eq, ← Nat.mul_assoc, Nat.mul_div_cancel' (Nat.gcd_dvd_right _ _)]
    exact e9
  have e11 := Nat.dvd_of_mul_dvd_mul_left gp e10
  have e12 := (Nat.coprime_div_gcd_div_gcd gp).dvd_of_dvd_mul_left e11
  have e13 : ((j : Int) - (j' : Int)).natAbs = 0 := by
    rcases Nat.eq_zero_or_pos ((j : Int) - (j' : Int)).natAbs with z | z
    · exact z
    · have := Nat.le_of_dvd z e12
      omega
  omega
theorem hs_pull (hL : 0 < L) {k j : Nat} (hj : j < L / Nat.gcd L f.natAbs) : pl L f (hs L f k j) = hs L f k ((j + 1) % (L / Nat.gcd L f.natAbs)) := by
  have m1 := mod_lt hL (((k % Nat.gcd L f.natAbs : Nat) : Int) + f * (j : Int))
  unfold pl
  have d1 : hs L f k j / L = k / Nat.gcd L f.natAbs := blk_div m1
  have d2 : hs L f k j % L = ((((k % Nat.gcd L f.natAbs : Nat) : Int) + f * (j : Int)) % (L : Int)).toNat := blk_mod m1
  rw [d1, d2, mcst hL]
  unfold hs
  congr 2
  rw [Int.emod_add_emod]
  by_cases h : j + 1 = L / Nat.gcd L f.natAbs
  · rw [h, Nat.mod_self]
    obtain ⟨q, hq⟩ : ((Nat.gcd L f.natAbs : Nat) : Int) ∣ f := Int.ofNat_dvd_left.mpr (Nat.gcd_dvd_right _ _)
    have e1 : f * (((L / Nat.gcd L f.natAbs : Nat) : Int)) = (L : Int) * q := by
      have e2 : ((L : Nat) : Int) = ((Nat.gcd L f.natAbs : Nat) : Int) * ((L / Nat.gcd L f.natAbs : Nat) : Int) := by
        rw [← Int.natCast_mul, gr_eq]
      have e4 := congrArg (· * (((L / Nat.gcd L f.natAbs : Nat) : Int))) hq
      refine e4.trans ?_
      show _ * q * _ = _
      rw [e2, Int.mul_assoc, Int.mul_assoc, Int.mul_comm q]
    have e3 : ((k % Nat.gcd L f.natAbs : Nat) : Int) + f * (j : Int) + f = ((k % Nat.gcd L f.natAbs : Nat) : Int) + (L : Int) * q := by
      rw [← e1, ← h, Int.natCast_add, Int.mul_add]
      simp [Int.add_assoc]
    rw [e3, Int.add_mul_emod_self_left]
    simp
  · rw [Nat.mod_eq_of_lt (a := j + 1) (b := L / Nat.gcd L f.natAbs) (by omega), Int.natCast_add, Int.mul_add]
    simp [Int.add_assoc]
/-- all seats stand in the rounds -/
def allHs (n r L : Nat) (f : Int) : List Nat := (List.range (n * r)).map fun i => hs L f (i / r) (i % r)
theorem hs_onto (hL : 0 < L) (hd : L ∣ N) {s : Nat} (h : s < N) : ∃ k j, k < N / L * Nat.gcd L f.natAbs ∧ j < L / Nat.gcd L f.natAbs ∧ hs L f k j = s := by
  have rp := r_pos (f := f) hL
  have hN : N / L * Nat.gcd L f.natAbs * (L / Nat.gcd L f.natAbs) = N := by
    rw [Nat.mul_assoc, gr_eq, Nat.div_mul_cancel hd]
  have key : ∀ i, i < N → i / (L / Nat.gcd L f.natAbs) < N / L * Nat.gcd L f.natAbs := fun i hi => Nat.div_lt_of_lt_mul (by rw [Nat.mul_comm, hN]; exact hi)
  have p := php (l := (List.range N).map fun i => hs L f (i / (L / Nat.gcd L f.natAbs)) (i % (L / Nat.gcd L f.natAbs))) (N := N)
    (nodup_map List.nodup_range fun a ha b hb e => by
      obtain ⟨e1, e2⟩ := hs_inj hL (Nat.mod_lt _ rp) (Nat.mod_lt _ rp) e
      rw [← Nat.div_add_mod a (L / Nat.gcd L f.natAbs), ← Nat.div_add_mod b (L / Nat.gcd L f.natAbs), e1, e2])
    (fun x hx => by
      obtain ⟨i, hi, rfl⟩ := List.mem_map.mp hx
      exact hs_lt hL hd (key i (List.mem_range.mp hi))) (by simp)
  obtain ⟨i, hi, e⟩ := List.mem_map.mp (p.mem_iff.mpr (List.mem_range.mpr h))
  exact ⟨_, _, key i (List.mem_range.mp hi), Nat.mod_lt _ rp, e⟩
end

/-- a way that fits -/
structure WayOk (N L1 : Nat) (f1 : Int) (L2 : Nat) (f2 : Int) (way : List Nat) : Prop where
  len : way.length = N
  perm : way.Perm (List.range N)
  fit : ∀ s, s < N → ∃ x, way[s]? = some x ∧ x < N ∧ way[pl L1 f1 s]? = some (pl L2 f2 x)
theorem way_ok {N L1 L2 n r : Nat} {f1 f2 : Int} {way : List Nat} (h1 : 0 < L1) (h2 : 0 < L2) (d1 : L1 ∣ N) (d2 : L2 ∣ N) (e1 : L1 / Nat.gcd L1 f1.natAbs = r) (e2 : L2 / Nat.gcd L2 f2.natAbs = r)
    (n1 : N / L1 * Nat.gcd L1 f1.natAbs = n) (n2 : N / L2 * Nat.gcd L2 f2.natAbs = n) (hl : way.length = N)
    (hw : ∀ k j, k < n → j < r → way[hs L1 f1 k j]? = some (hs L2 f2 k j)) : WayOk N L1 f1 L2 f2 way := by
  have at_ : ∀ s, s < N → ∃ k j, k < n ∧ j < r ∧ hs L1 f1 k j = s ∧ way[s]? = some (hs L2 f2 k j) := fun s h => by
    obtain ⟨k, j, a, b, c⟩ := hs_onto (f := f1) h1 d1 h
    rw [n1] at a
    rw [e1] at b
    exact ⟨k, j, a, b, c, by rw [← c]; exact hw k j a b⟩
  refine ⟨hl, php (List.pairwise_iff_getElem.mpr fun i j hi hj hij e => ?_) (fun x hx => ?_) hl, fun s h => ?_⟩
  · obtain ⟨k, a, k1, k2, k3, k4⟩ := at_ i (by omega)
    obtain ⟨k', a', k1', k2', k3', k4'⟩ := at_ j (by omega)
    rw [List.getElem?_eq_getElem hi] at k4
    rw [List.getElem?_eq_getElem hj] at k4'
    have e' := (Option.some.inj k4).symm.trans (e.trans (Option.some.inj k4'))
    obtain ⟨z1, z2⟩ := hs_inj h2 (by rw [e2]; exact k2) (by rw [e2]; exact k2') e'
    subst z1 z2
    omega
  · obtain ⟨i, hi, e⟩ := List.mem_iff_getElem.mp hx
    obtain ⟨k, a, k1, k2, k3, k4⟩ := at_ i (by omega)
    rw [List.getElem?_eq_getElem hi] at k4
    rw [← e, Option.some.inj k4]
    exact hs_lt h2 d2 (by rw [n2]; exact k1)
  · obtain ⟨k, j, a, b, c, d⟩ := at_ s h
    refine ⟨_, d, hs_lt h2 d2 (by rw [n2]; exact a), ?_⟩
    have p1 := hs_pull (k := k) h1 (by rw [e1]; exact b) (f := f1)
    have p2 := hs_pull (k := k) h2 (by rw [e2]; exact b) (f := f2)
    rw [← c, p1, p2, e1, e2]
    exact hw k _ a (Nat.mod_lt _ (by omega))
end RK
/-! text W0 -/
set_option Elab.async false
set_option linter.all false
set_option maxRecDepth 100000
set_option maxHeartbeats 4000000
namespace PR
open PySem PySem.Spec PyProof.Rows L2
/-! ### the text by places -/
def top (i : Nat) : Stmt := PySem.Challenge.pw_pulledrooms_k63_whole_each_fitting_has_a.main.body.getD i (.Pass ⟨0, 0, 0, 0⟩)
abbrev s_is_number : Stmt := top 2
abbrev s_is_below : Stmt := top 3
abbrev s_are_numbers : Stmt := top 4
abbrev s_least_common : Stmt := top 5
abbrev s_is_door : Stmt := top 22
abbrev s_are_doors : Stmt := top 23
abbrev s_joined_rooms : Stmt := top 24
abbrev s_need_house : Stmt := top 26
abbrev s_is_arrangement : Stmt := top 28
abbrev s_are_arrangements : Stmt := top 29
abbrev s_seats_of : Stmt := top 30
abbrev s_round_from : Stmt := top 31
abbrev s_rounds_in : Stmt := top 32
abbrev s_pulled : Stmt := top 33
abbrev s_fits : Stmt := top 34
abbrev s_need_hall : Stmt := top 36
abbrev s_return_of : Stmt := top 39
abbrev s_returns_of : Stmt := top 40
abbrev s_fits_doors : Stmt := top 41
abbrev s_are_fitting : Stmt := top 42
abbrev s_need_fitting : Stmt := top 43
abbrev s_even_rounds : Stmt := top 44
abbrev s_paired : Stmt := top 45
abbrev s_hall_of_rounds : Stmt := top 46
abbrev s_hall_of_returns : Stmt := top 47
abbrev s_law_begun : Stmt := top 49
abbrev s_law_blended : Stmt := top 50
abbrev s_law_draw : Stmt := top 51
abbrev s_law_pick : Stmt := top 52
abbrev s_law_mixed : Stmt := top 53
abbrev s_law_caught : Stmt := top 54
abbrev s_law_is_truth : Stmt := top 55
abbrev s_law_is_whole : Stmt := top 56
abbrev s_law_common : Stmt := top 57
abbrev s_law_multiple : Stmt := top 58
abbrev s_law_size : Stmt := top 59
abbrev s_law_doors : Stmt := top 60
abbrev s_law_exponent : Stmt := top 61
abbrev s_law_both : Stmt := top 62
abbrev s_law_lowered : Stmt := top 63
abbrev s_law_fitting : Stmt := top 64
abbrev s_law_scope : Stmt := top 65
abbrev s_law_round : Stmt := top 66
abbrev s_law_power : Stmt := top 67
abbrev s_law_is_hall : Stmt := top 68
abbrev s_law_lengths : Stmt := top 69
abbrev s_law_made : Stmt := top 70
abbrev s_law_greatest_right : Stmt := top 71
abbrev s_law : Stmt := top 72
abbrev s_House_init : Stmt := inClass (top 25) 0
abbrev s_House_eq : Stmt := inClass (top 25) 1
abbrev s_Hall_init : Stmt := inClass (top 35) 0
/-! ### scopes -/
theorem sc_is_number : FnScope ["value"] ["value"] (defScope s_is_number) := ⟨rfl, rfl, rfl, by decide +kernel, rfl, by decide +kernel, by decide +kernel⟩
theorem sc_is_below : FnScope ["value", "size"] ["value", "size"] (defScope s_is_below) := ⟨rfl, rfl, rfl, by decide +kernel, rfl, by decide +kernel, by decide +kernel⟩
theorem sc_are_numbers : FnScope ["value", "item"] ["value"] (defScope s_are_numbers) := ⟨rfl, rfl, rfl, by decide +kernel, rfl, by decide +kernel, by decide +kernel⟩
theorem sc_least_common : FnScope ["numbers", "found", "number"] ["numbers"] (defScope s_least_common) := ⟨rfl, rfl, rfl, by decide +kernel, rfl, by decide +kernel, by decide +kernel⟩
theorem sc_is_door : FnScope ["value", "rooms", "near", "first", "far", "second", "item"] ["value", "rooms"] (defScope s_is_door) := ⟨rfl, rfl, rfl, by decide +kernel, rfl, by decide +kernel, by decide +kernel⟩
theorem sc_are_doors : FnScope ["value", "rooms", "door"] ["value", "rooms"] (defScope s_are_doors) := ⟨rfl, rfl, rfl, by decide +kernel, rfl, by decide +kernel, by decide +kernel⟩
theorem sc_joined_rooms : FnScope ["doors", "known", "line", "here", "near", "first", "far", "second", "one", "other"] ["doors"] (defScope s_joined_rooms) := ⟨rfl, rfl, rfl, by decide +kernel, rfl, by decide +kernel, by decide +kernel⟩
theorem sc_need_house : FnScope ["house"] ["house"] (defScope s_need_house) := ⟨rfl, rfl, rfl, by decide +kernel, rfl, by decide +kernel, by decide +kernel⟩
theorem sc_is_arrangement : FnScope ["value", "item"] ["value"] (defScope s_is_arrangement) := ⟨rfl, rfl, rfl, by decide +kernel, rfl, by decide +kernel, by decide +kernel⟩
theorem sc_are_arrangements : FnScope ["value", "many", "seats", "item"] ["value", "many", "seats"] (defScope s_are_arrangements) := ⟨rfl, rfl, rfl, by decide +kernel, rfl, by decide +kernel, by decide +kernel⟩
theorem sc_seats_of : FnScope ["ropes"] ["ropes"] (defScope s_seats_of) := ⟨rfl, rfl, rfl, by decide +kernel, rfl, by decide +kernel, by decide +kernel⟩
theorem sc_round_from : FnScope ["arrangement", "seat", "found"] ["arrangement", "seat"] (defScope s_round_from) := ⟨rfl, rfl, rfl, by decide +kernel, rfl, by decide +kernel, by decide +kernel⟩
theorem sc_rounds_in : FnScope ["arrangement", "found", "known", "seat", "other"] ["arrangement"] (defScope s_rounds_in) := ⟨rfl, rfl, rfl, by decide +kernel, rfl, by decide +kernel, by decide +kernel⟩
theorem sc_pulled : FnScope ["arrangement", "times", "found", "line", "spot", "seat", "there"] ["arrangement", "times"] (defScope s_pulled) := ⟨rfl, rfl, rfl, by decide +kernel, rfl, by decide +kernel, by decide +kernel⟩
theorem sc_fits : FnScope ["ropes", "way", "door", "near", "first", "far", "second", "ahead", "behind", "seat"] ["ropes", "way", "door"] (defScope s_fits) := ⟨rfl, rfl, rfl, by decide +kernel, rfl, by decide +kernel, by decide +kernel⟩
theorem sc_need_hall : FnScope ["hall"] ["hall"] (defScope s_need_hall) := ⟨rfl, rfl, rfl, by decide +kernel, rfl, by decide +kernel, by decide +kernel⟩
theorem sc_return_of : FnScope ["rope", "found", "known", "seat", "here", "many"] ["rope"] (defScope s_return_of) := ⟨rfl, rfl, rfl, by decide +kernel, rfl, by decide +kernel, by decide +kernel⟩
theorem sc_returns_of : FnScope ["hall", "rope"] ["hall"] (defScope s_returns_of) := ⟨rfl, rfl, rfl, by decide +kernel, rfl, by decide +kernel, by decide +kernel⟩
theorem sc_fits_doors : FnScope ["house", "numbers", "near", "first", "far", "second"] ["house", "numbers"] (defScope s_fits_doors) := ⟨rfl, rfl, rfl, by decide +kernel, rfl, by decide +kernel, by decide +kernel⟩
theorem sc_are_fitting : FnScope ["house", "thing", "item"] ["house", "thing"] (defScope s_are_fitting) := ⟨rfl, rfl, rfl, by decide +kernel, rfl, by decide +kernel, by decide +kernel⟩
theorem sc_need_fitting : FnScope ["house", "fitting"] ["house", "fitting"] (defScope s_need_fitting) := ⟨rfl, rfl, rfl, by decide +kernel, rfl, by decide +kernel, by decide +kernel⟩
theorem sc_even_rounds : FnScope ["seats", "length", "pulls", "found", "many", "start", "turn", "spots", "step", "spot"] ["seats", "length", "pulls"] (defScope s_even_rounds) := ⟨rfl, rfl, rfl, by decide +kernel, rfl, by decide +kernel, by decide +kernel⟩
theorem sc_paired : FnScope ["near", "far", "pairs", "found", "near_left", "far_left", "row", "near_at", "far_at", "here", "there", "one", "other", "shift", "turn", "seat", "spot"] ["near", "far", "pairs"] (defScope s_paired) := ⟨rfl, rfl, rfl, by decide +kernel, rfl, by decide +kernel, by decide +kernel⟩
theorem sc_hall_of_rounds : FnScope ["house", "lengths", "seats", "pairs", "ropes", "length", "ways", "door", "near", "first", "far", "second", "way", "heres", "theres", "here", "there", "one", "other", "seat"] ["house", "lengths", "seats", "pairs"] (defScope s_hall_of_rounds) := ⟨rfl, rfl, rfl, by decide +kernel, rfl, by decide +kernel, by decide +kernel⟩
theorem sc_hall_of_returns : FnScope ["house", "fitting", "seats"] ["house", "fitting"] (defScope s_hall_of_returns) := ⟨rfl, rfl, rfl, by decide +kernel, rfl, by decide +kernel, by decide +kernel⟩
theorem sc_law_begun : FnScope ["_law_script", "_law_great", "_law_cell"] ["_law_script"] (defScope s_law_begun) := ⟨rfl, rfl, rfl, by decide +kernel, rfl, by decide +kernel, by decide +kernel⟩
theorem sc_law_blended : FnScope ["_law_state", "_law_turn", "_law_found", "_law_prime", "_law_blend", "_law_cell"] ["_law_state"] (defScope s_law_blended) := ⟨rfl, rfl, rfl, by decide +kernel, rfl, by decide +kernel, by decide +kernel⟩
theorem sc_law_draw : FnScope ["_law_state", "_law_size_here", "_law_found"] ["_law_state", "_law_size_here"] (defScope s_law_draw) := ⟨rfl, rfl, rfl, by decide +kernel, rfl, by decide +kernel, by decide +kernel⟩
theorem sc_law_pick : FnScope ["_law_state", "_law_several"] ["_law_state", "_law_several"] (defScope s_law_pick) := ⟨rfl, rfl, rfl, by decide +kernel, rfl, by decide +kernel, by decide +kernel⟩
theorem sc_law_mixed : FnScope ["_law_state", "_law_several", "_law_left", "_law_found"] ["_law_state", "_law_several"] (defScope s_law_mixed) := ⟨rfl, rfl, rfl, by decide +kernel, rfl, by decide +kernel, by decide +kernel⟩
theorem sc_law_caught : FnScope ["_law_work", "_law_caught_here", "error"] ["_law_work"] (defScope s_law_caught) := ⟨rfl, rfl, rfl, by decide +kernel, rfl, by decide +kernel, by decide +kernel⟩
theorem sc_law_is_truth : FnScope ["_law_found", "_law_due"] ["_law_found", "_law_due"] (defScope s_law_is_truth) := ⟨rfl, rfl, rfl, by decide +kernel, rfl, by decide +kernel, by decide +kernel⟩
theorem sc_law_is_whole : FnScope ["_law_item"] ["_law_item"] (defScope s_law_is_whole) := ⟨rfl, rfl, rfl, by decide +kernel, rfl, by decide +kernel, by decide +kernel⟩
theorem sc_law_common : FnScope ["_law_one", "_law_other", "_law_first", "_law_second"] ["_law_one", "_law_other"] (defScope s_law_common) := ⟨rfl, rfl, rfl, by decide +kernel, rfl, by decide +kernel, by decide +kernel⟩
theorem sc_law_multiple : FnScope ["_law_several", "_law_found", "_law_item"] ["_law_several"] (defScope s_law_multiple) := ⟨rfl, rfl, rfl, by decide +kernel, rfl, by decide +kernel, by decide +kernel⟩
theorem sc_law_size : FnScope ["_law_state", "_law_size_here"] ["_law_state"] (defScope s_law_size) := ⟨rfl, rfl, rfl, by decide +kernel, rfl, by decide +kernel, by decide +kernel⟩
theorem sc_law_doors : FnScope ["_law_state", "_law_rooms_here", "_law_more", "_law_found", "_law_room_here", "_law_turn", "_law_one", "_law_other", "_law_item"] ["_law_state", "_law_rooms_here", "_law_more"] (defScope s_law_doors) := ⟨rfl, rfl, rfl, by decide +kernel, rfl, by decide +kernel, by decide +kernel⟩
theorem sc_law_exponent : FnScope ["_law_prime", "_law_number", "_law_found", "_law_left"] ["_law_prime", "_law_number"] (defScope s_law_exponent) := ⟨rfl, rfl, rfl, by decide +kernel, rfl, by decide +kernel, by decide +kernel⟩
theorem sc_law_both : FnScope ["_law_doors_here", "_law_door", "_law_near", "_law_first", "_law_far", "_law_second"] ["_law_doors_here"] (defScope s_law_both) := ⟨rfl, rfl, rfl, by decide +kernel, rfl, by decide +kernel, by decide +kernel⟩
theorem sc_law_lowered : FnScope ["_law_doors_here", "_law_prime", "_law_caps", "_law_found", "_law_sides_here", "_law_again", "_law_near", "_law_first", "_law_far", "_law_second", "_law_bound"] ["_law_doors_here", "_law_prime", "_law_caps"] (defScope s_law_lowered) := ⟨rfl, rfl, rfl, by decide +kernel, rfl, by decide +kernel, by decide +kernel⟩
theorem sc_law_fitting : FnScope ["_law_state", "_law_doors_here", "_law_rooms_here", "_law_found", "_law_prime", "_law_menu", "_law_room_here", "_law_some", "_law_turn"] ["_law_state", "_law_doors_here", "_law_rooms_here"] (defScope s_law_fitting) := ⟨rfl, rfl, rfl, by decide +kernel, rfl, by decide +kernel, by decide +kernel⟩
theorem sc_law_scope : FnScope ["_law_state", "_law_most_rooms", "_law_more", "_law_rooms_here"] ["_law_state", "_law_most_rooms", "_law_more"] (defScope s_law_scope) := ⟨rfl, rfl, rfl, by decide +kernel, rfl, by decide +kernel, by decide +kernel⟩
theorem sc_law_round : FnScope ["_law_rope_here", "_law_seat_here", "_law_found", "_law_here"] ["_law_rope_here", "_law_seat_here"] (defScope s_law_round) := ⟨rfl, rfl, rfl, by decide +kernel, rfl, by decide +kernel, by decide +kernel⟩
theorem sc_law_power : FnScope ["_law_rope_here", "_law_times_here", "_law_found", "_law_known", "_law_seat_here", "_law_row", "_law_turn", "_law_item"] ["_law_rope_here", "_law_times_here"] (defScope s_law_power) := ⟨rfl, rfl, rfl, by decide +kernel, rfl, by decide +kernel, by decide +kernel⟩
theorem sc_law_is_hall : FnScope ["_law_rooms_here", "_law_doors_here", "_law_hall_here", "_law_ropes_here", "_law_ways_here", "_law_due", "_law_row", "_law_spot", "_law_near", "_law_first", "_law_far", "_law_second", "_law_one", "_law_other", "_law_item"] ["_law_rooms_here", "_law_doors_here", "_law_hall_here"] (defScope s_law_is_hall) := ⟨rfl, rfl, rfl, by decide +kernel, rfl, by decide +kernel, by decide +kernel⟩
theorem sc_law_lengths : FnScope ["_law_rope_here", "_law_found", "_law_seat_here", "_law_many"] ["_law_rope_here"] (defScope s_law_lengths) := ⟨rfl, rfl, rfl, by decide +kernel, rfl, by decide +kernel, by decide +kernel⟩
theorem sc_law_made : FnScope ["_law_scope_here"] ["_law_scope_here"] (defScope s_law_made) := ⟨rfl, rfl, rfl, by decide +kernel, rfl, by decide +kernel, by decide +kernel⟩
theorem sc_law_greatest_right : FnScope ["_law_rope_here", "_law_here", "_law_lap"] [] (defScope s_law_greatest_right) := ⟨rfl, rfl, rfl, by decide +kernel, rfl, by decide +kernel, by decide +kernel⟩
theorem sc_law : FnScope ["_law_script", "_law_state", "_law_lap", "_law_scope_here", "_law_numbers_here", "_law_many", "_law_found", "_law_caught_here", "_law_great", "_law_house_here", "_law_rope_here", "_law_number"] ["_law_script"] (defScope s_law) := ⟨rfl, rfl, rfl, by decide +kernel, rfl, by decide +kernel, by decide +kernel⟩
theorem sc_House_init : FnScope ["self", "rooms", "doors", "known", "room"] ["self", "rooms", "doors"] (defScope s_House_init) := ⟨rfl, rfl, rfl, by decide +kernel, rfl, by decide +kernel, by decide +kernel⟩
theorem sc_House_eq : FnScope ["self", "other"] ["self", "other"] (defScope s_House_eq) := ⟨rfl, rfl, rfl, by decide +kernel, rfl, by decide +kernel, by decide +kernel⟩
theorem sc_Hall_init : FnScope ["self", "house", "ropes", "ways", "at", "door"] ["self", "house", "ropes", "ways"] (defScope s_Hall_init) := ⟨rfl, rfl, rfl, by decide +kernel, rfl, by decide +kernel, by decide +kernel⟩
/-! ### what the walk asks of the top -/
abbrev FnP (K : PySem.W.Frag) (x qual : Str) (st : Stmt) (f : Addr) (fd : FuncData) : Prop := FunD K x qual (defArgs st) (defBody st) (defScope st) [] [] f fd
/-- a def of the module -/
structure Dd (K : PySem.W.Frag) (mg : Str → Option Value) (x : Str) (st : Stmt) (ps : List Str) where
  a : Addr
  fd : FuncData
  F : FnP K x x st a fd
  g : mg x = some (.ref a)
  b : Binds K fd ps []
/-- a class's method -/
structure Dm (K : PySem.W.Frag) (x qual : Str) (st : Stmt) (ps : List Str) where
  a : Addr
  fd : FuncData
  F : FnP K x qual st a fd
  b : Binds K fd ps []
/-- an own class: its instances' reading, making, isinstance -/
structure Dc (K : PySem.W.Frag) (mg : Str → Option Value) (x : Str) (C f : Addr) : Prop where
  cl : Cls K C
  g : mg x = some (.ref C)
  mkr : Mk K C f
  ha : PySem.W.findIn K (.ref C) "__class__" = some (some (.builtin "object.__class__"))
  hm : PySem.W.mroIn K C (.type "object") = some true
  ki : PySem.W.kitOne K (.ref C) (.ref C) = some true
structure Txt (K : PySem.W.Frag) (mg : Str → Option Value) where
  is_number : Dd K mg "is_number" s_is_number ["value"]
  is_below : Dd K mg "is_below" s_is_below ["value", "size"]
  are_numbers : Dd K mg "are_numbers" s_are_numbers ["value"]
  least_common : Dd K mg "least_common" s_least_common ["numbers"]
  is_door : Dd K mg "is_door" s_is_door ["value", "rooms"]
  are_doors : Dd K mg "are_doors" s_are_doors ["value", "rooms"]
  joined_rooms : Dd K mg "joined_rooms" s_joined_rooms ["doors"]
  need_house : Dd K mg "need_house" s_need_house ["house"]
  is_arrangement : Dd K mg "is_arrangement" s_is_arrangement ["value"]
  are_arrangements : Dd K mg "are_arrangements" s_are_arrangements ["value", "many", "seats"]
  seats_of : Dd K mg "seats_of" s_seats_of ["ropes"]
  round_from : Dd K mg "round_from" s_round_from ["arrangement", "seat"]
  rounds_in : Dd K mg "rounds_in" s_rounds_in ["arrangement"]
  pulled : Dd K mg "pulled" s_pulled ["arrangement", "times"]
  fits : Dd K mg "fits" s_fits ["ropes", "way", "door"]
  need_hall : Dd K mg "need_hall" s_need_hall ["hall"]
  return_of : Dd K mg "return_of" s_return_of ["rope"]
  returns_of : Dd K mg "returns_of" s_returns_of ["hall"]
  fits_doors : Dd K mg "fits_doors" s_fits_doors ["house", "numbers"]
  are_fitting : Dd K mg "are_fitting" s_are_fitting ["house", "thing"]
  need_fitting : Dd K mg "need_fitting" s_need_fitting ["house", "fitting"]
  even_rounds : Dd K mg "even_rounds" s_even_rounds ["seats", "length", "pulls"]
  paired : Dd K mg "paired" s_paired ["near", "far", "pairs"]
  hall_of_rounds : Dd K mg "hall_of_rounds" s_hall_of_rounds ["house", "lengths", "seats", "pairs"]
  hall_of_returns : Dd K mg "hall_of_returns" s_hall_of_returns ["house", "fitting"]
  law_begun : Dd K mg "_law_begun" s_law_begun ["_law_script"]
  law_blended : Dd K mg "_law_blended" s_law_blended ["_law_state"]
  law_draw : Dd K mg "_law_draw" s_law_draw ["_law_state", "_law_size_here"]
  law_pick : Dd K mg "_law_pick" s_law_pick ["_law_state", "_law_several"]
  law_mixed : Dd K mg "_law_mixed" s_law_mixed ["_law_state", "_law_several"]
  law_caught : Dd K mg "_law_caught" s_law_caught ["_law_work"]
  law_is_truth : Dd K mg "_law_is_truth" s_law_is_truth ["_law_found", "_law_due"]
  law_is_whole : Dd K mg "_law_is_whole" s_law_is_whole ["_law_item"]
  law_common : Dd K mg "_law_common" s_law_common ["_law_one", "_law_other"]
  law_multiple : Dd K mg "_law_multiple" s_law_multiple ["_law_several"]
  law_size : Dd K mg "_law_size" s_law_size ["_law_state"]
  law_doors : Dd K mg "_law_doors" s_law_doors ["_law_state", "_law_rooms_here", "_law_more"]
  law_exponent : Dd K mg "_law_exponent" s_law_exponent ["_law_prime", "_law_number"]
  law_both : Dd K mg "_law_both" s_law_both ["_law_doors_here"]
  law_lowered : Dd K mg "_law_lowered" s_law_lowered ["_law_doors_here", "_law_prime", "_law_caps"]
  law_fitting : Dd K mg "_law_fitting" s_law_fitting ["_law_state", "_law_doors_here", "_law_rooms_here"]
  law_scope : Dd K mg "_law_scope" s_law_scope ["_law_state", "_law_most_rooms", "_law_more"]
  law_round : Dd K mg "_law_round" s_law_round ["_law_rope_here", "_law_seat_here"]
  law_power : Dd K mg "_law_power" s_law_power ["_law_rope_here", "_law_times_here"]
  law_is_hall : Dd K mg "_law_is_hall" s_law_is_hall ["_law_rooms_here", "_law_doors_here", "_law_hall_here"]
  law_lengths : Dd K mg "_law_lengths" s_law_lengths ["_law_rope_here"]
  law_made : Dd K mg "_law_made" s_law_made ["_law_scope_here"]
  law_greatest_right : Dd K mg "_law_greatest_right" s_law_greatest_right []
  House_init : Dm K "__init__" "House.__init__" s_House_init ["self", "rooms", "doors"]
  House_eq : Dm K "__eq__" "House.__eq__" s_House_eq ["self", "other"]
  Hall_init : Dm K "__init__" "Hall.__init__" s_Hall_init ["self", "house", "ropes", "ways"]
  cHouse : Addr
  cHall : Addr
  dHouse : Dc K mg "House" cHouse House_init.a
  dHall : Dc K mg "Hall" cHall Hall_init.a
  hn : PySem.W.specialIn K (.builtin "object.__class__") "__get__" = some (some (.builtin "getset_descriptor.__get__"))
  htk : PySem.W.takesIn K (.builtin "object.__class__") = some true
  eqHouse : PySem.W.findIn K (.ref cHouse) "__eq__" = some (some (.ref House_eq.a))
  eqHouseF : PySem.W.isFn K (.ref House_eq.a) = true
  nRooms : NoAttr K cHouse "rooms"
  nDoors : NoAttr K cHouse "doors"
  nHouse : NoAttr K cHall "house"
  nRopes : NoAttr K cHall "ropes"
  nWays : NoAttr K cHall "ways"
  nSeats : NoAttr K cHall "seats"
  gcd : mg "gcd" = some (.builtin "math.gcd")
  cRooms : ∃ t, mg "MOST_ROOMS" = some (.int 12 t)
  cDoors : ∃ t, mg "MOST_DOORS" = some (.int 20 t)
  cGreatest : ∃ t, mg "GREATEST" = some (.int 999 t)
  cSeats : ∃ t, mg "MOST_SEATS" = some (.int 5000 t)
  m_isinstance : mg "isinstance" = none
  m_int : mg "int" = none
  m_bool : mg "bool" = none
  m_tuple : mg "tuple" = none
  m_all : mg "all" = none
  m_abs : mg "abs" = none
  m_len : mg "len" = none
  m_range : mg "range" = none
  m_set : mg "set" = none
  m_enumerate : mg "enumerate" = none
  m_max : mg "max" = none
  m_any : mg "any" = none
  m_list : mg "list" = none
  m_zip : mg "zip" = none
  m_sorted : mg "sorted" = none
  m_super : mg "super" = none
  m_ValueError : mg "ValueError" = none
/-! ### calls of the module's defs, nothing raised -/
section
variable {X : Cx} {x : Str} {st : Stmt} {ps : List Str} {sp : Sp} {k : Nat} {p pos : Pos} {e : Expr} {es : List Expr} {t : TA}
theorem Dd.call (D : Dd X.K X.mg x st ps) (G : FnOk X.prog X.w X.K X.mg X.base CX0 k D.a D.fd ps sp) (hr : Room k X.A) (hg : Gl X x) (ha : PA X (e :: es) t)
    (hdb : (x == ("__debug__" : Str)) = false := by decide) (he : starEach (e :: es) X.env = (false, eval e X.env) :: starEach es X.env := by rfl) (hpl : (backTo pos (starEach es X.env)).any (·.1) = false := by rfl) :
    PE X (.Call (.Name x p) (e :: es) [] pos) (tCall sp [] E0 t) := pe_call G hr hg D.g D.F.kp D.b .nil pass0 ha hdb he hpl
theorem Dd.call0 (D : Dd X.K X.mg x st ps) (G : FnOk X.prog X.w X.K X.mg X.base CX0 k D.a D.fd ps sp) (hr : Room k X.A) (hg : Gl X x) (hdb : (x == ("__debug__" : Str)) = false := by decide) :
    PE X (.Call (.Name x p) [] [] pos) (tCall sp [] E0 tNil) := pe_call0 G hr hg D.g D.F.kp D.b .nil pass0 hdb
end
end PR
/-! text H0 -/
set_option Elab.async false
set_option linter.all false
set_option maxRecDepth 100000
set_option maxHeartbeats 1000000
/-! the head's facts: what the top leaves; Txt, Tm, Tl of them -/
namespace PR
open PySem PySem.Spec PyProof.Rows L2
/-! ### TooMany.__init__, a def with a closure -/
abbrev s_TooMany_init : Stmt := inClass (top 16) 0
abbrev tmC (K : PySem.W.Frag) : Addr := He.ga K "TooMany"
abbrev tmF (K : PySem.W.Frag) : Addr := He.ma K (tmC K) "__init__"
abbrev FnY : Type := Option (Str × Str × Arguments × FuncBody × Scope × Addr × Addr)
def fnY (K : PySem.W.Frag) : FnY := match K.lookup (tmF K) with
  | some ⟨_, _, .func fd, _⟩ => some (fd.name, fd.qualname, fd.params, fd.body, fd.scope, fd.globals, fd.builtins)
  | _ => none
def valY : FnY := some ("__init__", "TooMany.__init__", defArgs s_TooMany_init, .stmts (defBody s_TooMany_init), defScope s_TooMany_init, mainGlobals, builtinsNs)
def cellB (K : PySem.W.Frag) (c C : Addr) : Bool := match K.lookup c with
  | some ⟨_, _, .cell (some (.ref a)), _⟩ => decide (a = C)
  | _ => false
def fileB (K : PySem.W.Frag) (c : Addr) (f : Str) : Bool := match K.lookup c with
  | some ⟨_, _, .fields vs, _⟩ => (match (vs[2]? : Option Value) with
    | some (.str file _) => f == file
    | _ => false)
  | _ => false
def fnB2 (K : PySem.W.Frag) (f : Str) (cl : List (Str × Addr)) (cd dV : Value) : Bool := match cl, cd, dV with
  | [(n, cc)], .ref c, .none => decide (n = ("__class__" : Str)) && (PySem.W.codeIn K (.ref c) "TooMany.__init__" && (fileB K c f && cellB K cc (tmC K)))
  | _, _, _ => false
theorem fnB2_ok {K : PySem.W.Frag} {f : Str} {cl : List (Str × Addr)} {cd dV : Value} (h : fnB2 K f cl cd dV = true) : ∃ cc c : Addr, cl = [(("__class__" : Str), cc)] ∧ cd = .ref c ∧ dV = .none ∧ PySem.W.codeIn K (.ref c) "TooMany.__init__" = true ∧ fileB K c f = true ∧ cellB K cc (tmC K) = true := by
  unfold fnB2 at h
  split at h
  · rename_i n cc c
    obtain ⟨a1, a2⟩ := He.ba h
    obtain ⟨a2, a3⟩ := He.ba a2
    obtain ⟨a3, a4⟩ := He.ba a3
    have a1' : n = ("__class__" : Str) := of_decide_eq_true a1
    rw [a1']
    exact ⟨cc, c, rfl, rfl, rfl, a2, a3, a4⟩
  · cases h
def fnB (K : PySem.W.Frag) (f : Str) : Bool := match K.lookup (tmF K) with
  | some ⟨_, _, .func fd, _⟩ => fnB2 K f fd.closure fd.code fd.defaults
  | _ => false
def oexB (K : PySem.W.Frag) (C : Addr) : Bool := match K.lookup C with
  | some ⟨.type "type", _, .cls cd, sl⟩ => (match cd.mro, sl.toList with
    | .ref C' :: bm, [_, _, _, _, some (.builtin n), _] => C' == C && (n == "ValueError.__new__" && (!cd.hasDel && (cd.hasDict && PySem.HandSPX.refsVE bm)))
    | _, _ => false)
  | _ => false
theorem oexB_ok {K : PySem.W.Frag} {C : Addr} (q : oexB K C = true) : ∃ nm q N bs bm sn sub ab col dd k0 k1 k2 k3 k5, K.lookup C = some (excClassObj nm q C N bs bm true sn sub ab col dd k0 k1 k2 k3 k5 "ValueError.__new__") ∧ PySem.HandSPX.refsVE bm = true := by
  unfold oexB at q
  split at q
  · rename_i dd cd sl ho
    split at q
    · rename_i C' bm k0 k1 k2 k3 n k5 hm hs
      simp only [Bool.and_eq_true, beq_iff_eq, Bool.not_eq_true'] at q
      obtain ⟨rfl, rfl, hdel, hd, ht⟩ := q
      obtain ⟨nm, bs, mro, ns, qn, hdc, sn, sub, ab, col, del⟩ := cd
      dsimp only at hm hdel hd
      subst hm hdel hd
      have hsl : sl = #[k0, k1, k2, k3, some (.builtin "ValueError.__new__"), k5] := by
        obtain ⟨l⟩ := sl
        simp only at hs
        rw [hs]
      subst hsl
      exact ⟨nm, qn, ns, bs, bm, sn, sub, ab, col, dd, k0, k1, k2, k3, k5, ho, ht⟩
    · cases q
  · cases q
theorem fn_tm {K : PySem.W.Frag} {f : Str} (e : fnY K = valY) (h : fnB K f = true) : ∃ oc od osl kV doc pm an cda ct cc, K.lookup (tmF K) = some ⟨oc, od, .func (PySem.W.ksFn "__init__" "TooMany.__init__" (defArgs s_TooMany_init) (defBody s_TooMany_init) (defScope s_TooMany_init) .none kV doc pm an (.ref cda) ct cc), osl⟩ ∧
    PySem.W.codeIn K (.ref cda) "TooMany.__init__" = true ∧ fileB K cda f = true ∧ cellB K cc (tmC K) = true := by
  unfold fnB at h
  unfold fnY at e
  cases q : K.lookup (tmF K) with
  | none =>
    rw [q] at h
    cases h
  | some o =>
    obtain ⟨oc, od, dt, osl⟩ := o
    rw [q] at h e
    cases dt with
    | func fd =>
      obtain ⟨n1, n2, n3, n4, n5, n6, n7, n8, n9, n10, n11, n12, n13, n14, n15⟩ := fd
      have e2 : (some (n1, n2, n3, n4, n5, n6, n15) : FnY) = valY := e
      unfold valY at e2
      simp only [Option.some.injEq, Prod.mk.injEq] at e2
      obtain ⟨h1, h2, h3, h4, h5, h6, h7⟩ := e2
      subst h1 h2 h3 h4 h5 h6 h7
      obtain ⟨cc, c, rfl, rfl, rfl, a2, a3, a4⟩ := fnB2_ok (show fnB2 K f n7 n13 n8 = true from h)
      exact ⟨oc, od, osl, n9, n10, n11, n12, c, n14, cc, rfl, a2, a3, a4⟩
    | _ => cases h
theorem fileB_ok {K : PySem.W.Frag} {c : Addr} {f : Str} (h : fileB K c f = true) : ∃ ccl cdd vs ccs file tf, K.lookup c = some ⟨ccl, cdd, .fields vs, ccs⟩ ∧ vs[2]? = some (.str file tf) ∧ (f == file) = true := by
  unfold fileB at h
  split at h
  · rename_i ccl cdd vs ccs hk
    split at h
    · rename_i file tf hv
      exact ⟨ccl, cdd, vs, ccs, file, tf, hk, hv, h⟩
    · cases h
  · cases h
theorem cellB_ok {K : PySem.W.Frag} {c C : Addr} (h : cellB K c C = true) : ∃ cl cld csl, K.lookup c = some ⟨cl, cld, .cell (some (.ref C)), csl⟩ := by
  unfold cellB at h
  split at h
  · rename_i cl cld a csl hk
    rw [of_decide_eq_true h] at hk
    exact ⟨cl, cld, csl, hk⟩
  · cases h
/-! ### the further facts -/
def exL (f : Str) (K : PySem.W.Frag) : List Bool := [
  He.eqO (PySem.W.findIn K (.ref (He.ga K "House")) "__class__") (some (some (.builtin "object.__class__"))),
  decide (PySem.W.mroIn K (He.ga K "House") (.type "object") = some true),
  decide (PySem.W.kitOne K (.ref (He.ga K "House")) (.ref (He.ga K "House")) = some true),
  He.eqO (PySem.W.findIn K (.ref (He.ga K "Hall")) "__class__") (some (some (.builtin "object.__class__"))),
  decide (PySem.W.mroIn K (He.ga K "Hall") (.type "object") = some true),
  decide (PySem.W.kitOne K (.ref (He.ga K "Hall")) (.ref (He.ga K "Hall")) = some true),
  He.eqO (PySem.W.specialIn K (.builtin "object.__class__") "__get__") (some (some (.builtin "getset_descriptor.__get__"))),
  decide (PySem.W.takesIn K (.builtin "object.__class__") = some true),
  He.eqO (PySem.W.nsIn K mainGlobals "gcd") (some (some (.builtin "math.gcd"))),
  oexB K (tmC K),
  He.eqO (PySem.W.findIn K (.ref (tmC K)) "__setattr__") (some (some (.builtin "object.__setattr__"))),
  decide (PySem.W.subIn K (.ref (tmC K)) (.type "BaseException") = some true),
  decide (PySem.W.typeIn K (.ref (tmC K)) = some (.type "type")),
  PySem.W.keepIn K (.ref (tmC K)),
  He.eqO (PySem.W.findIn K (.ref (tmC K)) "__init__") (some (some (.ref (tmF K)))),
  decide (PySem.W.typeIn K (.ref (tmF K)) = some (.type "function")),
  fnB K f,
  decide (PySem.W.mroIn K (tmC K) (.ref (tmC K)) = some true),
  He.eqO (PySem.W.ks_superIn K (tmC K) (tmC K) "__init__") (some (some (.builtin "ValueError.__init__"))),
  decide (PySem.W.subIn K (.ref (tmC K)) (.type "ValueError") = some true),
  He.eqO (PySem.W.nsIn K cStatics "thirdparty.any") (some none),
  He.eqO (PySem.W.findIn K (.ref (tmC K)) "most") (some none),
  decide (PySem.W.kitOne K (.ref (tmC K)) (.type "ValueError") = some true),
  decide (PySem.W.kitOne K (.ref (tmC K)) (.ref (tmC K)) = some true),
  He.eqO (PySem.W.findIn K (.ref (tmC K)) "__getattribute__") (some (some (.builtin "BaseException.__getattribute__"))),
  He.eqO (PySem.W.findIn K (.ref (tmC K)) "__getattr__") (some none),
  PySem.W.hasDictIn K (tmC K),
  He.eqO (PySem.W.findIn K (.ref (tmC K)) "__class__") (some (some (.builtin "object.__class__"))),
  decide (PySem.W.mroIn K (tmC K) (.type "object") = some true),
  (PySem.W.clsIn K (tmC K)).isSome]
def ex (f : Str) (K : PySem.W.Frag) : Bool := (exL f K).all id
theorem ex_at {f : Str} {K : PySem.W.Frag} (h : ex f K = true) (i : Nat) {b : Bool} (hb : (exL f K)[i]? = some b := by rfl) : b = true := List.all_eq_true.mp h b (List.mem_of_getElem? hb)
/-! ### the Hook -/
/-! growth by marks: each address once, its mark a bit of a number (cheap in the kernel) -/
def addA {α : Type} (k : Nat → List Addr → α) : List Addr → Nat → List Addr → α
  | [], m, acc => k m acc
  | a :: r, m, acc => HandSHeadRun.frNat a fun a => match Nat.beq (Nat.land (Nat.shiftRight m a) 1) 1 with
    | true => addA k r m acc
    | false => HandSHeadRun.frNat (Nat.lor m (Nat.shiftLeft 1 a)) fun m => addA k r m (a :: acc)
def layA {α : Type} (g : Addr → Option Obj) (k : Nat → List Addr → α) : List Addr → Nat → List Addr → α
  | [], m, acc => k m acc
  | f :: fs, m, acc => match g f with
    | some o => addA (fun m acc => layA g k fs m acc) (He.refsD o) m acc
    | none => layA g k fs m acc
def asA (g : Addr → Option Obj) : Nat → List Addr → Nat → List Addr → List Addr
  | 0, _, _, all => all
  | n + 1, fr, m, all => layA g (fun m new => asA g n new m (new ++ all)) fr m []
/-- the part of the heap: what the module's names reach, the table of statics -/
def asY (g : Addr → Option Obj) (n : Nat) : List Addr := cStatics :: asA g n [mainGlobals] (Nat.shiftLeft 1 mainGlobals) [mainGlobals]
abbrev kY (g : Addr → Option Obj) (n : Nat) : PySem.W.Frag := He.frT g (asY g n)
abbrev AlY : Type := He.AlD × Bool × FnY
def tabB (g : Addr → Option Obj) (K : PySem.W.Frag) : Bool := PySem.W.codeHdIn K (He.cT K ("law", none)).1 (He.cT K ("law", none)).2 && (match g (He.cT K ("law", none)).2 with
  | some o => He.emptyTab o
  | none => false)
def obsY (n : Nat) (fa : List He.Fa) (fn : List He.DefD) (f : Str) (g : Addr → Option Obj) : AlY := (He.obsD fa fn (kY g n), ex f (kY g n) && tabB g (kY g n), fnY (kY g n))
structure SaysY (fa : List He.Fa) (fn : List He.DefD) (f : Str) (h : Heap) (K : PySem.W.Frag) : Prop where
  d : He.SaysD fa fn K
  more : ex f K = true
  hd : PySem.W.codeHdIn K (He.cT K ("law", none)).1 (He.cT K ("law", none)).2 = true
  out : K.lookup (He.cT K ("law", none)).2 = none
  empty : h.get? (He.cT K ("law", none)).2 = some { cls := .none, data := .fields #[] }
  y : fnY K = valY
theorem saysY_of {n : Nat} {fa : List He.Fa} {fn : List He.DefD} {f : Str} {h : Heap} (e : obsY n fa fn f h.get? = (He.valD fn, true, valY)) : SaysY fa fn f h (kY h.get? n) := by
  have e1 : He.obsD fa fn (kY h.get? n) = He.valD fn := congrArg (fun z : AlY => z.1) e
  have e2 : (ex f (kY h.get? n) && tabB h.get? (kY h.get? n)) = true := congrArg (fun z : AlY => z.2.1) e
  have e3 : fnY (kY h.get? n) = valY := congrArg (fun z : AlY => z.2.2) e
  obtain ⟨h1, h2⟩ := He.ba e2
  unfold tabB at h2
  obtain ⟨h3, h4⟩ := He.ba h2
  cases q : h.get? (He.cT (kY h.get? n) ("law", none)).2 with
  | none =>
    rw [q] at h4
    cases h4
  | some o =>
    rw [q] at h4
    exact ⟨e1, h1, h3, He.frT_none q h4, by rw [q, He.emptyTab_eq h4], e3⟩
def hookY (n : Nat) (fa : List He.Fa) (fn : List He.DefD) (f : Str) : PySem.W.Hook where
  α := AlY
  obs := fun s => obsY n fa fn f s.heap.get?
  val := fun _ => (He.valD fn, true, valY)
  says := fun _ h => ∃ K : PySem.W.Frag, K.In h ∧ SaysY fa fn f h K
  of := fun _ _ e => ⟨_, He.frT_in, saysY_of e⟩
  keeps := fun _ _ _ ⟨K, hK, c⟩ k => ⟨K, PySem.W.Frag.In.keeps hK k, ⟨c.d, c.more, c.hd, c.out, k _ _ c.empty, c.y⟩⟩
theorem obsY_eq {n : Nat} {fa : List He.Fa} {fn : List He.DefD} {f : Str} {g : Addr → Option Obj} {s : Shared} (h : ∀ a, g a = s.heap.get? a) : obsY n fa fn f g = (hookY n fa fn f).obs s := by
  have e : g = s.heap.get? := funext h
  rw [e] <;> rfl
/-! ### this program's -/
def dd_is_number : He.DefD := ⟨("is_number", none), "is_number", "is_number", defArgs s_is_number, defBody s_is_number, defScope s_is_number, [], []⟩
def dd_is_below : He.DefD := ⟨("is_below", none), "is_below", "is_below", defArgs s_is_below, defBody s_is_below, defScope s_is_below, [], []⟩
def dd_are_numbers : He.DefD := ⟨("are_numbers", none), "are_numbers", "are_numbers", defArgs s_are_numbers, defBody s_are_numbers, defScope s_are_numbers, [], []⟩
def dd_least_common : He.DefD := ⟨("least_common", none), "least_common", "least_common", defArgs s_least_common, defBody s_least_common, defScope s_least_common, [], []⟩
def dd_is_door : He.DefD := ⟨("is_door", none), "is_door", "is_door", defArgs s_is_door, defBody s_is_door, defScope s_is_door, [], []⟩
def dd_are_doors : He.DefD := ⟨("are_doors", none), "are_doors", "are_doors", defArgs s_are_doors, defBody s_are_doors, defScope s_are_doors, [], []⟩
def dd_joined_rooms : He.DefD := ⟨("joined_rooms", none), "joined_rooms", "joined_rooms", defArgs s_joined_rooms, defBody s_joined_rooms, defScope s_joined_rooms, [], []⟩
def dd_need_house : He.DefD := ⟨("need_house", none), "need_house", "need_house", defArgs s_need_house, defBody s_need_house, defScope s_need_house, [], []⟩
def dd_is_arrangement : He.DefD := ⟨("is_arrangement", none), "is_arrangement", "is_arrangement", defArgs s_is_arrangement, defBody s_is_arrangement, defScope s_is_arrangement, [], []⟩
def dd_are_arrangements : He.DefD := ⟨("are_arrangements", none), "are_arrangements", "are_arrangements", defArgs s_are_arrangements, defBody s_are_arrangements, defScope s_are_arrangements, [], []⟩
def dd_seats_of : He.DefD := ⟨("seats_of", none), "seats_of", "seats_of", defArgs s_seats_of, defBody s_seats_of, defScope s_seats_of, [], []⟩
def dd_round_from : He.DefD := ⟨("round_from", none), "round_from", "round_from", defArgs s_round_from, defBody s_round_from, defScope s_round_from, [], []⟩
def dd_rounds_in : He.DefD := ⟨("rounds_in", none), "rounds_in", "rounds_in", defArgs s_rounds_in, defBody s_rounds_in, defScope s_rounds_in, [], []⟩
def dd_pulled : He.DefD := ⟨("pulled", none), "pulled", "pulled", defArgs s_pulled, defBody s_pulled, defScope s_pulled, [], []⟩
def dd_fits : He.DefD := ⟨("fits", none), "fits", "fits", defArgs s_fits, defBody s_fits, defScope s_fits, [], []⟩
def dd_need_hall : He.DefD := ⟨("need_hall", none), "need_hall", "need_hall", defArgs s_need_hall, defBody s_need_hall, defScope s_need_hall, [], []⟩
def dd_return_of : He.DefD := ⟨("return_of", none), "return_of", "return_of", defArgs s_return_of, defBody s_return_of, defScope s_return_of, [], []⟩
def dd_returns_of : He.DefD := ⟨("returns_of", none), "returns_of", "returns_of", defArgs s_returns_of, defBody s_returns_of, defScope s_returns_of, [], []⟩
def dd_fits_doors : He.DefD := ⟨("fits_doors", none), "fits_doors", "fits_doors", defArgs s_fits_doors, defBody s_fits_doors, defScope s_fits_doors, [], []⟩
def dd_are_fitting : He.DefD := ⟨("are_fitting", none), "are_fitting", "are_fitting", defArgs s_are_fitting, defBody s_are_fitting, defScope s_are_fitting, [], []⟩
def dd_need_fitting : He.DefD := ⟨("need_fitting", none), "need_fitting", "need_fitting", defArgs s_need_fitting, defBody s_need_fitting, defScope s_need_fitting, [], []⟩
def dd_even_rounds : He.DefD := ⟨("even_rounds", none), "even_rounds", "even_rounds", defArgs s_even_rounds, defBody s_even_rounds, defScope s_even_rounds, [], []⟩
def dd_paired : He.DefD := ⟨("paired", none), "paired", "paired", defArgs s_paired, defBody s_paired, defScope s_paired, [], []⟩
def dd_hall_of_rounds : He.DefD := ⟨("hall_of_rounds", none), "hall_of_rounds", "hall_of_rounds", defArgs s_hall_of_rounds, defBody s_hall_of_rounds, defScope s_hall_of_rounds, [], []⟩
def dd_hall_of_returns : He.DefD := ⟨("hall_of_returns", none), "hall_of_returns", "hall_of_returns", defArgs s_hall_of_returns, defBody s_hall_of_returns, defScope s_hall_of_returns, [], []⟩
def dd_law_begun : He.DefD := ⟨("_law_begun", none), "_law_begun", "_law_begun", defArgs s_law_begun, defBody s_law_begun, defScope s_law_begun, [], []⟩
def dd_law_blended : He.DefD := ⟨("_law_blended", none), "_law_blended", "_law_blended", defArgs s_law_blended, defBody s_law_blended, defScope s_law_blended, [], []⟩
def dd_law_draw : He.DefD := ⟨("_law_draw", none), "_law_draw", "_law_draw", defArgs s_law_draw, defBody s_law_draw, defScope s_law_draw, [], []⟩
def dd_law_pick : He.DefD := ⟨("_law_pick", none), "_law_pick", "_law_pick", defArgs s_law_pick, defBody s_law_pick, defScope s_law_pick, [], []⟩
def dd_law_mixed : He.DefD := ⟨("_law_mixed", none), "_law_mixed", "_law_mixed", defArgs s_law_mixed, defBody s_law_mixed, defScope s_law_mixed, [], []⟩
def dd_law_caught : He.DefD := ⟨("_law_caught", none), "_law_caught", "_law_caught", defArgs s_law_caught, defBody s_law_caught, defScope s_law_caught, [], []⟩
def dd_law_is_truth : He.DefD := ⟨("_law_is_truth", none), "_law_is_truth", "_law_is_truth", defArgs s_law_is_truth, defBody s_law_is_truth, defScope s_law_is_truth, [], []⟩
def dd_law_is_whole : He.DefD := ⟨("_law_is_whole", none), "_law_is_whole", "_law_is_whole", defArgs s_law_is_whole, defBody s_law_is_whole, defScope s_law_is_whole, [], []⟩
def dd_law_common : He.DefD := ⟨("_law_common", none), "_law_common", "_law_common", defArgs s_law_common, defBody s_law_common, defScope s_law_common, [], []⟩
def dd_law_multiple : He.DefD := ⟨("_law_multiple", none), "_law_multiple", "_law_multiple", defArgs s_law_multiple, defBody s_law_multiple, defScope s_law_multiple, [], []⟩
def dd_law_size : He.DefD := ⟨("_law_size", none), "_law_size", "_law_size", defArgs s_law_size, defBody s_law_size, defScope s_law_size, [], []⟩
def dd_law_doors : He.DefD := ⟨("_law_doors", none), "_law_doors", "_law_doors", defArgs s_law_doors, defBody s_law_doors, defScope s_law_doors, [], []⟩
def dd_law_exponent : He.DefD := ⟨("_law_exponent", none), "_law_exponent", "_law_exponent", defArgs s_law_exponent, defBody s_law_exponent, defScope s_law_exponent, [], []⟩
def dd_law_both : He.DefD := ⟨("_law_both", none), "_law_both", "_law_both", defArgs s_law_both, defBody s_law_both, defScope s_law_both, [], []⟩
def dd_law_lowered : He.DefD := ⟨("_law_lowered", none), "_law_lowered", "_law_lowered", defArgs s_law_lowered, defBody s_law_lowered, defScope s_law_lowered, [], []⟩
def dd_law_fitting : He.DefD := ⟨("_law_fitting", none), "_law_fitting", "_law_fitting", defArgs s_law_fitting, defBody s_law_fitting, defScope s_law_fitting, [], []⟩
def dd_law_scope : He.DefD := ⟨("_law_scope", none), "_law_scope", "_law_scope", defArgs s_law_scope, defBody s_law_scope, defScope s_law_scope, [], []⟩
def dd_law_round : He.DefD := ⟨("_law_round", none), "_law_round", "_law_round", defArgs s_law_round, defBody s_law_round, defScope s_law_round, [], []⟩
def dd_law_power : He.DefD := ⟨("_law_power", none), "_law_power", "_law_power", defArgs s_law_power, defBody s_law_power, defScope s_law_power, [], []⟩
def dd_law_is_hall : He.DefD := ⟨("_law_is_hall", none), "_law_is_hall", "_law_is_hall", defArgs s_law_is_hall, defBody s_law_is_hall, defScope s_law_is_hall, [], []⟩
def dd_law_lengths : He.DefD := ⟨("_law_lengths", none), "_law_lengths", "_law_lengths", defArgs s_law_lengths, defBody s_law_lengths, defScope s_law_lengths, [], []⟩
def dd_law_made : He.DefD := ⟨("_law_made", none), "_law_made", "_law_made", defArgs s_law_made, defBody s_law_made, defScope s_law_made, [], []⟩
def dd_law_greatest_right : He.DefD := ⟨("_law_greatest_right", none), "_law_greatest_right", "_law_greatest_right", defArgs s_law_greatest_right, defBody s_law_greatest_right, defScope s_law_greatest_right, [], []⟩
def dd_House_init : He.DefD := ⟨("House", some "__init__"), "__init__", "House.__init__", defArgs s_House_init, defBody s_House_init, defScope s_House_init, [], []⟩
def dd_House_eq : He.DefD := ⟨("House", some "__eq__"), "__eq__", "House.__eq__", defArgs s_House_eq, defBody s_House_eq, defScope s_House_eq, [], []⟩
def dd_Hall_init : He.DefD := ⟨("Hall", some "__init__"), "__init__", "Hall.__init__", defArgs s_Hall_init, defBody s_Hall_init, defScope s_Hall_init, [], []⟩
def dd_law : He.DefD := ⟨("law", none), "law", "law", defArgs s_law, defBody s_law, defScope s_law, [], []⟩
def fnY_0 : List He.DefD := [dd_is_number, dd_is_below, dd_are_numbers, dd_least_common, dd_is_door, dd_are_doors, dd_joined_rooms, dd_need_house, dd_is_arrangement, dd_are_arrangements, dd_seats_of, dd_round_from, dd_rounds_in, dd_pulled, dd_fits, dd_need_hall, dd_return_of, dd_returns_of, dd_fits_doors, dd_are_fitting, dd_need_fitting, dd_even_rounds, dd_paired, dd_hall_of_rounds]
def fnY_1 : List He.DefD := [dd_hall_of_returns, dd_law_begun, dd_law_blended, dd_law_draw, dd_law_pick, dd_law_mixed, dd_law_caught, dd_law_is_truth, dd_law_is_whole, dd_law_common, dd_law_multiple, dd_law_size, dd_law_doors, dd_law_exponent, dd_law_both, dd_law_lowered, dd_law_fitting, dd_law_scope, dd_law_round, dd_law_power, dd_law_is_hall, dd_law_lengths, dd_law_made, dd_law_greatest_right]
def fnY_2 : List He.DefD := [dd_House_init, dd_House_eq, dd_Hall_init, dd_law]
def fnY_ : List He.DefD := fnY_0 ++ (fnY_1 ++ (fnY_2))
def faY_0 : List He.Fa := [.glo "is_number", .glo "is_below", .glo "are_numbers", .glo "least_common", .glo "is_door", .glo "are_doors", .glo "joined_rooms", .glo "need_house", .glo "is_arrangement", .glo "are_arrangements", .glo "seats_of", .glo "round_from", .glo "rounds_in", .glo "pulled", .glo "fits", .glo "need_hall", .glo "return_of", .glo "returns_of", .glo "fits_doors", .glo "are_fitting", .glo "need_fitting", .glo "even_rounds", .glo "paired", .glo "hall_of_rounds"]
def faY_1 : List He.Fa := [.glo "hall_of_returns", .glo "_law_begun", .glo "_law_blended", .glo "_law_draw", .glo "_law_pick", .glo "_law_mixed", .glo "_law_caught", .glo "_law_is_truth", .glo "_law_is_whole", .glo "_law_common", .glo "_law_multiple", .glo "_law_size", .glo "_law_doors", .glo "_law_exponent", .glo "_law_both", .glo "_law_lowered", .glo "_law_fitting", .glo "_law_scope", .glo "_law_round", .glo "_law_power", .glo "_law_is_hall", .glo "_law_lengths", .glo "_law_made", .glo "_law_greatest_right"]
def faY_2 : List He.Fa := [.cls "House", .glo "House", .mkr "House", .cls "Hall", .glo "Hall", .mkr "Hall", .meth "House" "__eq__", .noat "House" "rooms", .noat "House" "doors", .noat "Hall" "house", .noat "Hall" "ropes", .noat "Hall" "ways", .noat "Hall" "seats", .int "MOST_ROOMS" 12, .int "MOST_DOORS" 20, .int "GREATEST" 999, .int "MOST_SEATS" 5000, .free "isinstance", .free "int", .free "bool", .free "tuple", .free "all", .free "abs", .free "len"]
def faY_3 : List He.Fa := [.free "range", .free "set", .free "enumerate", .free "max", .free "any", .free "list", .free "zip", .free "sorted", .free "super", .free "ValueError", .glo "TooMany", .glo "PullError", .glo "law", .exm "TooMany" "PullError" true]
def faY_ : List He.Fa := faY_0 ++ (faY_1 ++ (faY_2 ++ (faY_3)))
end PR
/-! text H2 -/
set_option Elab.async false
set_option linter.all false
set_option maxRecDepth 100000
set_option maxHeartbeats 0
/-! the head's run -/
namespace PR
open PySem PySem.W PySem.Calls PyProof.Rows
abbrev Rw : OpenRow := OpenLaw.row PySem.Challenge.rw_pulledrooms_k63_whole_each_fitting_has_a
abbrev qv : Program := view Rw.prog [0, 72]
def n1 : List PySem.Str := ["is_number", "is_below", "are_numbers", "least_common", "PullError", "Apart", "BadDoors", "BadFitting", "BadHall", "BadHouse", "BadRooms", "BadRopes", "BadWays", "TooMany", "Torn", "MOST_ROOMS", "MOST_DOORS", "GREATEST", "is_door", "are_doors", "joined_rooms", "House", "need_house", "is_arrangement", "are_arrangements", "seats_of", "round_from", "rounds_in", "pulled", "fits"]
def n2 : List PySem.Str := ["Hall", "need_hall", "MOST_SEATS", "return_of", "returns_of", "fits_doors", "are_fitting", "need_fitting", "even_rounds", "paired", "hall_of_rounds", "hall_of_returns", "_law_begun", "_law_blended", "_law_draw", "_law_pick", "_law_mixed", "_law_caught", "_law_is_truth", "_law_is_whole", "_law_common", "_law_multiple", "_law_size", "_law_doors", "_law_exponent", "_law_both", "_law_lowered", "_law_fitting", "_law_scope", "_law_round"]
def n3 : List PySem.Str := ["_law_power", "_law_is_hall", "_law_lengths", "_law_made", "_law_greatest_right"]
def names : List PySem.Str := n1 ++ (n2 ++ n3)
abbrev fileP : PySem.Str := PySem.Challenge.pw_pulledrooms_k63_whole_each_fitting_has_a.main.file
abbrev hk : Hook := hookY 4 faY_ fnY_ fileP
def ob (s : SharedT) : AlY := obsY 4 faY_ fnY_ fileP (HandSHeadRun.getT s)
theorem ob_eq (s : SharedT) : ob s = hk.obs s.abs := obsY_eq (HandSHeadRun.getT_eq s)
/-- the state ahead of the top and behind it -/
noncomputable abbrev whole (w : World) : Option (Shared × SharedT) := HandSHeadRun.wholeF (fun p => HandSHeadRun.stepQ (HandSHeadRun.denQ HandSHeadRun.tabQ) p w) HandSHeadRun.fenceQ 6000 Rw.prog
/-- two looks at one state -/
theorem both_looks {α β γ : Type} {o : Option α} {f : α → β} {g : α → γ} {b : β} {c : γ} (hf : o.map f = some b) (hg : o.map g = some c) : o.map (fun x => (f x, g x)) = some (b, c) := by
  cases o with
  | none => cases hf
  | some x => exact congrArg some (Prod.ext (Option.some.inj hf) (Option.some.inj hg))
/-! the run, once for each look: a check of the kernel keeps all that it computed, so three small ones want less memory than one -/
theorem run_top (w : World) : (whole w).map (fun x => HandSHeadRun.looksF Rw.prog x.1.heap x.2.abs) = some true := by
  kernel_rfl
theorem run_seen (w : World) : (whole w).map (fun x => HandSHeadRun.seenQ qv names (importedModules Rw.prog.main.body) (fun s => xlAt qv [] s && recOk Rw.toRowW.records s) x.2.abs) = some (openGood qv names) := by
  kernel_rfl
theorem run_ob (w : World) : (whole w).map (fun x => ob x.2) = some (hk.val w) := by
  kernel_rfl
theorem run (w : World) : HandSHeadRun.RunEqI Rw qv hk ob 6000 names w := both_looks (run_top w) (both_looks (run_seen w) (run_ob w))
end PR
/-! text Wd -/
set_option Elab.async false
set_option linter.all false
set_option maxRecDepth 100000
set_option maxHeartbeats 4000000
namespace PR
open PySem PySem.Spec PyProof.Rows L2
abbrev iv (n : Nat) : V := .int (n : Int)
abbrev ivs (l : List Nat) : List V := l.map iv
theorem bl_t {p : Prop} [Decidable p] (h : p) : V.bl (decide p) = V.bl true := by rw [decide_eq_true h]
theorem bl_f {p : Prop} [Decidable p] (h : ¬ p) : V.bl (decide p) = V.bl false := by rw [decide_eq_false h]
/-! ### built-ins -/
theorem b_isinstance : bootBuiltins "isinstance" = some (.builtin "isinstance") := by decide +kernel
theorem b_int : bootBuiltins "int" = some (.type "int") := by decide +kernel
theorem b_bool : bootBuiltins "bool" = some (.type "bool") := by decide +kernel
theorem b_tuple : bootBuiltins "tuple" = some (.type "tuple") := by decide +kernel
theorem b_list : bootBuiltins "list" = some (.type "list") := by decide +kernel
theorem b_all : bootBuiltins "all" = some (.builtin "all") := by decide +kernel
theorem b_any : bootBuiltins "any" = some (.builtin "any") := by decide +kernel
theorem b_abs : bootBuiltins "abs" = some (.builtin "abs") := by decide +kernel
theorem b_max : bootBuiltins "max" = some (.builtin "max") := by decide +kernel
theorem b_sorted : bootBuiltins "sorted" = some (.builtin "sorted") := by decide +kernel
theorem b_VE : bootBuiltins "ValueError" = some (.type "ValueError") := by decide +kernel
/-! ### lists and tuples of objects -/
/-- at a stands a list or tuple (o) of objects that hold (i) the rows -/
def Mat (o i : List V → HO) (H : Hp) (a : Addr) (as : List Addr) (vss : List (List V)) : Prop :=
  H a = some (o (as.map V.ref)) ∧ as.length = vss.length ∧ ∀ (j : Nat) (vs : List V), vss[j]? = some vs → ∃ p : Addr, as[j]? = some p ∧ H p = some (i vs)
def MatAt (o i : List V → HO) (H : Hp) (a : Addr) (vss : List (List V)) : Prop := ∃ as : List Addr, Mat o i H a as vss
theorem Mat.same {o i : List V → HO} {H H' : Hp} {a : Addr} {as : List Addr} {vss : List (List V)} (m : Mat o i H a as vss) (e : Same H H') : Mat o i H' a as vss :=
  ⟨e _ _ m.1, m.2.1, fun j vs h => by
    obtain ⟨p, h1, h2⟩ := m.2.2 j vs h
    exact ⟨p, h1, e _ _ h2⟩⟩
theorem MatAt.same {o i : List V → HO} {H H' : Hp} {a : Addr} {vss : List (List V)} (m : MatAt o i H a vss) (e : Same H H') : MatAt o i H' a vss := by
  obtain ⟨as, m⟩ := m
  exact ⟨as, m.same e⟩
theorem Mat.item {o i : List V → HO} {H : Hp} {a : Addr} {as : List Addr} {vss : List (List V)} (m : Mat o i H a as vss) {j : Nat} {x : V} (h : (as.map V.ref)[j]? = some x) :
    ∃ p vs, x = .ref p ∧ as[j]? = some p ∧ vss[j]? = some vs ∧ H p = some (i vs) := by
  rw [List.getElem?_map] at h
  cases e : as[j]? with
  | none => rw [e] at h; cases h
  | some p =>
    rw [e] at h
    have hj : j < vss.length := by
      rw [← m.2.1]
      exact (List.getElem?_eq_some_iff.mp e).1
    obtain ⟨q, h1, h2⟩ := m.2.2 j _ (List.getElem?_eq_getElem hj)
    rw [e] at h1
    cases h1
    exact ⟨p, _, (Option.some.inj h).symm, rfl, List.getElem?_eq_getElem hj, h2⟩
/-- all but a changed object stays: s and g may change -/
def Chg (s g : Addr) (H H' : Hp) : Prop := ∀ b o, H b = some o → b ≠ s → b ≠ g → H' b = some o
theorem Chg.refl (s g : Addr) (H : Hp) : Chg s g H H := fun _ _ h _ _ => h
theorem Chg.trans {s g : Addr} {H H1 H2 : Hp} (a : Chg s g H H1) (b : Chg s g H1 H2) : Chg s g H H2 := fun c o h h1 h2 => b c o (a c o h h1 h2) h1 h2
theorem Chg.of {s g : Addr} {H H' : Hp} (e : Same H H') : Chg s g H H' := fun b o h _ _ => e b o h
theorem upd_S {H : Hp} {p : Addr} {o : HO} (h : H p = none) : Same H (upd H p o) := fun b u e => by
  rw [upd_ne (ne_of_none e h)]
  exact e
theorem same_upd {H H1 : Hp} {p : Addr} {o : HO} (e : Same H H1) (h : H1 p = none) : Same H (upd H1 p o) := e.trans (upd_S h)
/-- a new object, changed -/
theorem same_updN {H H1 : Hp} {p : Addr} {o : HO} (e : Same H H1) (h : H p = none) : Same H (upd H1 p o) := fun b u q => by
  rw [upd_ne (ne_of_none q h)]
  exact e b u q
theorem MatAt.tup {o i : List V → HO} {H : Hp} {a : Addr} {vss : List (List V)} (m : MatAt o i H a vss) : ∃ as : List Addr, H a = some (o (as.map V.ref)) ∧ as.length = vss.length := by
  obtain ⟨as, h1, h2, _⟩ := m
  exact ⟨as, h1, h2⟩
/-! ### doors -/
structure Dr where
  n : Nat
  f : Int
  m : Nat
  s : Int
def Dr.vs (d : Dr) : List V := [iv d.n, .int d.f, iv d.m, .int d.s]
def Dr.flip (d : Dr) : Dr := ⟨d.m, d.s, d.n, d.f⟩
def SzOk (z : Int) : Prop := z.natAbs ∈ [1, 2, 3, 4, 5, 6, 8, 9, 12]
def DrOk (R : Nat) (d : Dr) : Prop := d.n < R ∧ d.m < R ∧ SzOk d.f ∧ SzOk d.s
abbrev DoorsAt (H : Hp) (a : Addr) (ds : List Dr) : Prop := MatAt .tup .tup H a (ds.map Dr.vs)
abbrev Doors (H : Hp) (a : Addr) (as : List Addr) (ds : List Dr) : Prop := Mat .tup .tup H a as (ds.map Dr.vs)
theorem SzOk.nz {z : Int} (h : SzOk z) : z ≠ 0 := by
  intro e
  subst e
  revert h
  unfold SzOk
  decide
theorem SzOk.le {z : Int} (h : SzOk z) : z.natAbs ≤ 12 := by
  have : ∀ n ∈ [1, 2, 3, 4, 5, 6, 8, 9, 12], n ≤ 12 := by decide
  exact this _ h
/-- each room but the first is joined with one before it -/
def Conn (R : Nat) (ds : List Dr) : Prop := ∀ r, 0 < r → r < R → ∃ d ∈ ds, (d.n = r ∧ d.m < r) ∨ (d.m = r ∧ d.n < r)
/-! ### houses and halls -/
def hF (R : Nat) (a : Addr) : List (Str × V) := putF "doors" (.ref a) (putF "rooms" (iv R) [])
def aF (h ro wa : Addr) (N : Nat) : List (Str × V) := putF "seats" (iv N) (putF "ways" (.ref wa) (putF "ropes" (.ref ro) (putF "house" (.ref h) [])))
theorem lk_rooms (R : Nat) (a : Addr) : (hF R a).lookup ("rooms" : Str) = some (iv R) := by
  unfold hF
  rw [lookup_putF, if_neg (by decide +kernel), lookup_putF, if_pos rfl]
theorem lk_doors (R : Nat) (a : Addr) : (hF R a).lookup ("doors" : Str) = some (.ref a) := by
  unfold hF
  rw [lookup_putF, if_pos rfl]
theorem lk_house (h ro wa : Addr) (N : Nat) : (aF h ro wa N).lookup ("house" : Str) = some (.ref h) := by
  unfold aF
  rw [lookup_putF, if_neg (by decide +kernel), lookup_putF, if_neg (by decide +kernel), lookup_putF, if_neg (by decide +kernel), lookup_putF, if_pos rfl]
theorem lk_ropes (h ro wa : Addr) (N : Nat) : (aF h ro wa N).lookup ("ropes" : Str) = some (.ref ro) := by
  unfold aF
  rw [lookup_putF, if_neg (by decide +kernel), lookup_putF, if_neg (by decide +kernel), lookup_putF, if_pos rfl]
theorem lk_ways (h ro wa : Addr) (N : Nat) : (aF h ro wa N).lookup ("ways" : Str) = some (.ref wa) := by
  unfold aF
  rw [lookup_putF, if_neg (by decide +kernel), lookup_putF, if_pos rfl]
theorem lk_seats (h ro wa : Addr) (N : Nat) : (aF h ro wa N).lookup ("seats" : Str) = some (iv N) := by
  unfold aF
  rw [lookup_putF, if_pos rfl]
def HouseAt (C : Addr) (H : Hp) (x : Addr) (R : Nat) (a : Addr) (ds : List Dr) : Prop := (∃ dx, H x = some (.ins C dx (hF R a))) ∧ DoorsAt H a ds
theorem HouseAt.same {C : Addr} {H H' : Hp} {x : Addr} {R : Nat} {a : Addr} {ds : List Dr} (h : HouseAt C H x R a ds) (e : Same H H') : HouseAt C H' x R a ds := by
  obtain ⟨⟨dx, h1⟩, h2⟩ := h
  exact ⟨⟨dx, e _ _ h1⟩, h2.same e⟩
abbrev rope (N L : Nat) : List V := ivs (RK.ropeL N L)
abbrev Ropes (H : Hp) (a : Addr) (N : Nat) (Ls : List Nat) : Prop := MatAt .tup .tup H a (Ls.map (rope N))
abbrev WaysAt (H : Hp) (a : Addr) (ws : List (List Nat)) : Prop := MatAt .tup .tup H a (ws.map ivs)
/-- lengths that go into the seats -/
def LsOk (N : Nat) (Ls : List Nat) : Prop := ∀ L ∈ Ls, 0 < L ∧ L ∣ N
/-- sizes of sets that are served: some thousand, or the one great rope -/
def SetGood (l : List Nat) : Prop := l.length ≤ 4000 ∨ l = RK.ropeL 5000 5000
def WaysOk (N : Nat) (Ls : List Nat) (ds : List Dr) (ws : List (List Nat)) : Prop :=
  ws.length = ds.length ∧ ∀ (j : Nat) d w, ds[j]? = some d → ws[j]? = some w → ∃ L1 L2, Ls[d.n]? = some L1 ∧ Ls[d.m]? = some L2 ∧ RK.WayOk N L1 d.f L2 d.s w
def HallAt (C CH : Addr) (H : Hp) (x h ro wa : Addr) (N R a : Nat) (ds : List Dr) (Ls : List Nat) (ws : List (List Nat)) : Prop :=
  (∃ dx, H x = some (.ins C dx (aF h ro wa N))) ∧ HouseAt CH H h R a ds ∧ Ropes H ro N Ls ∧ WaysAt H wa ws
theorem HallAt.same {C CH : Addr} {H H' : Hp} {x h ro wa : Addr} {N R a : Nat} {ds : List Dr} {Ls : List Nat} {ws : List (List Nat)} (q : HallAt C CH H x h ro wa N R a ds Ls ws) (e : Same H H') : HallAt C CH H' x h ro wa N R a ds Ls ws := by
  obtain ⟨⟨dx, h1⟩, h2, h3, h4⟩ := q
  exact ⟨⟨dx, e _ _ h1⟩, h2.same e, h3.same e, h4.same e⟩
/-- fitting numbers -/
def FitOk (ds : List Dr) (ns : List Nat) : Prop := ∀ d ∈ ds, ∃ x y, ns[d.n]? = some x ∧ ns[d.m]? = some y ∧ x / Nat.gcd x d.f.natAbs = y / Nat.gcd y d.s.natAbs
def lcmL (ns : List Nat) : Nat := ns.foldl Nat.lcm 1
/-! ### the source of draws -/
def stK (g c : Addr) (l t : Int) : List (Key × V) := [(.inr "great", .ref g), (.inr "cells", .ref c), (.inr "left", .int l), (.inr "turn", .int t)]
def StAt (H : Hp) (s g c : Addr) (T : Int) : Prop := ∃ (gs cs : List Int) (l t : Int), H s = some (.dK (stK g c l t)) ∧ H g = some (.lst (gs.map V.int)) ∧ H c = some (.lst (cs.map V.int)) ∧ c ≠ g ∧ 0 ≤ t ∧ t ≤ T
theorem StAt.same {H H' : Hp} {s g c : Addr} {T : Int} (h : StAt H s g c T) (e : Same H H') : StAt H' s g c T := by
  obtain ⟨gs, cs, l, t, h1, h2, h3, h4⟩ := h
  exact ⟨gs, cs, l, t, e _ _ h1, e _ _ h2, e _ _ h3, h4⟩
theorem StAt.le {H : Hp} {s g c : Addr} {T T' : Int} (h : StAt H s g c T) (e : T ≤ T') : StAt H s g c T' := by
  obtain ⟨gs, cs, l, t, h1, h2, h3, h4, h5, h6⟩ := h
  exact ⟨gs, cs, l, t, h1, h2, h3, h4, h5, by omega⟩
theorem Mat.chg {o i : List V → HO} {s g : Addr} {H H' : Hp} {a : Addr} {as : List Addr} {vss : List (List V)} (m : Mat o i H a as vss) (e : Chg s g H H') (h1 : a ≠ s ∧ a ≠ g) (h2 : ∀ p ∈ as, p ≠ s ∧ p ≠ g) : Mat o i H' a as vss :=
  ⟨e _ _ m.1 h1.1 h1.2, m.2.1, fun j vs h => by
    obtain ⟨p, q1, q2⟩ := m.2.2 j vs h
    have hp := h2 p (List.mem_of_getElem? q1)
    exact ⟨p, q1, e _ _ q2 hp.1 hp.2⟩⟩
/-- tuples stand apart from the source of draws -/
theorem StAt.ne_tup {H : Hp} {s g c : Addr} {T : Int} (h : StAt H s g c T) {p : Addr} {xs : List V} (hp : H p = some (.tup xs)) : p ≠ s ∧ p ≠ g := by
  obtain ⟨gs, cs, l, t, h1, h2, _⟩ := h
  exact ⟨ne_of hp h1 (by intro z; cases z), ne_of hp h2 (by intro z; cases z)⟩
theorem MatAt.chgT {s g c : Addr} {T : Int} {H H' : Hp} {a : Addr} {vss : List (List V)} (m : MatAt .tup .tup H a vss) (st : StAt H s g c T) (e : Chg s g H H') : MatAt .tup .tup H' a vss := by
  obtain ⟨as, m⟩ := m
  refine ⟨as, m.chg e (st.ne_tup m.1) fun p hp => ?_⟩
  obtain ⟨j, hj⟩ := List.mem_iff_getElem?.mp hp
  obtain ⟨q, vs, e1, e2, e3, e4⟩ := m.item (j := j) (x := .ref p) (by rw [List.getElem?_map, hj]; rfl)
  cases e1
  exact st.ne_tup e4
/-! ### the promises of the package's defs -/
def spIsNumber : Sp := fun vs H Q _ => ∃ i : Int, vs = [.int i] ∧ Q (.bl true) H
def spIsBelow : Sp := fun vs H Q _ => ∃ i n : Int, vs = [.int i, .int n] ∧ 0 ≤ i ∧ i < n ∧ Q (.bl true) H
def spAreNumbers : Sp := fun vs H Q _ => ∃ (a : Addr) (ns : List Nat), vs = [.ref a] ∧ H a = some (.tup (ivs ns)) ∧ ns.length ≤ 1000000 ∧ ∀ H', Same H H' → Q (.bl true) H'
def spLcm : Sp := fun vs H Q _ => ∃ (a : Addr) (ns : List Nat), vs = [.ref a] ∧ (H a = some (.tup (ivs ns)) ∨ H a = some (.lst (ivs ns))) ∧ (∀ n ∈ ns, 0 < n ∧ n < 100000000) ∧ Q (iv (lcmL ns)) H
def spIsDoor : Sp := fun vs H Q _ => ∃ (a : Addr) (R : Nat) (d : Dr), vs = [.ref a, iv R] ∧ H a = some (.tup d.vs) ∧ DrOk R d ∧ ∀ H', Same H H' → Q (.bl true) H'
def spAreDoors : Sp := fun vs H Q _ => ∃ (a : Addr) (R : Nat) (ds : List Dr), vs = [.ref a, iv R] ∧ DoorsAt H a ds ∧ (∀ d ∈ ds, DrOk R d) ∧ ds.length ≤ 20 ∧ ∀ H', Same H H' → Q (.bl true) H'
def spJoined : Sp := fun vs H Q _ => ∃ (a : Addr) (R : Nat) (ds : List Dr), vs = [.ref a] ∧ DoorsAt H a ds ∧ (∀ d ∈ ds, DrOk R d) ∧ 0 < R ∧ R ≤ 12 ∧ Conn R ds ∧
  ∀ (H' : Hp) (p : Addr) (kvs : List (Key × V)), Same H H' → H p = none → H' p = some (.dK kvs) → (∀ r : Nat, r < R → valV kvs (.inl (r : Int)) = some (.bl true)) → Q (.ref p) H'
def spHouse (C : Addr) : Sp := fun vs H Q _ => ∃ (x dx a : Addr) (R : Nat) (ds : List Dr), vs = [.ref x, iv R, .ref a] ∧ H x = some (.ins C dx []) ∧ DoorsAt H a ds ∧ (∀ d ∈ ds, DrOk R d) ∧ ds.length ≤ 20 ∧ 0 < R ∧ R ≤ 12 ∧ Conn R ds ∧
  ∀ H' : Hp, H' x = some (.ins C dx (hF R a)) → (∀ b o, H b = some o → b ≠ x → H' b = some o) → Q .non H'
def rHouse (C : Addr) : Addr → Addr → Hp → Prop := fun x y H => x = y ∧ ∃ R a ds, HouseAt C H x R a ds
def spNeed (C : Addr) : Sp := fun vs H Q _ => ∃ (x dx : Addr) (fs : List (Str × V)), vs = [.ref x] ∧ H x = some (.ins C dx fs) ∧ Q .non H
def spIsArr : Sp := fun vs H Q _ => ∃ (a : Addr) (l : List Nat), vs = [.ref a] ∧ H a = some (.tup (ivs l)) ∧ l.Perm (List.range l.length) ∧ 0 < l.length ∧ SetGood l ∧ ∀ H', Same H H' → Q (.bl true) H'
def spAreArrs : Sp := fun vs H Q _ => ∃ (a : Addr) (N : Nat) (ls : List (List Nat)), vs = [.ref a, iv ls.length, iv N] ∧ MatAt .tup .tup H a (ls.map ivs) ∧ (∀ l ∈ ls, l.Perm (List.range N) ∧ SetGood l) ∧ 0 < N ∧ ls.length ≤ 1000 ∧ ∀ H', Same H H' → Q (.bl true) H'
def spSeatsOf : Sp := fun vs H Q _ => ∃ (a : Addr) (N : Nat) (ls : List (List Nat)), vs = [.ref a] ∧ MatAt .tup .tup H a (ls.map ivs) ∧ (∀ l ∈ ls, l.Perm (List.range N) ∧ SetGood l) ∧ 0 < N ∧ 0 < ls.length ∧ ∀ H', Same H H' → Q (iv N) H'
/-- a round of a rope, from its first seat -/
def blk (L b : Nat) : List V := ivs ((List.range L).map (b * L + ·))
def spRoundFrom : Sp := fun vs H Q _ => ∃ (a : Addr) (N L b : Nat), vs = [.ref a, iv (b * L)] ∧ H a = some (.tup (rope N L)) ∧ 0 < L ∧ L ∣ N ∧ b < N / L ∧ N ≤ 5000 ∧
  ∀ (H' : Hp) (p : Addr), Same H H' → H p = none → H' p = some (.tup (blk L b)) → Q (.ref p) H'
def spRoundsIn : Sp := fun vs H Q _ => ∃ (a : Addr) (N L : Nat), vs = [.ref a] ∧ H a = some (.tup (rope N L)) ∧ 0 < L ∧ L ∣ N ∧ N ≤ 5000 ∧
  ∀ (H' : Hp) (p : Addr), Same H H' → H p = none → MatAt .lst .tup H' p ((List.range (N / L)).map (blk L)) → Q (.ref p) H'
def spPulled : Sp := fun vs H Q _ => ∃ (a : Addr) (N L : Nat) (t : Int), vs = [.ref a, .int t] ∧ H a = some (.tup (rope N L)) ∧ 0 < L ∧ L ∣ N ∧ N ≤ 5000 ∧
  ∀ (H' : Hp) (p : Addr), Same H H' → H p = none → H' p = some (.tup (ivs ((List.range N).map (RK.pl L t)))) → Q (.ref p) H'
def spFits : Sp := fun vs H Q _ => ∃ (ro wa da : Addr) (N L1 L2 : Nat) (Ls : List Nat) (way : List Nat) (d : Dr), vs = [.ref ro, .ref wa, .ref da] ∧ Ropes H ro N Ls ∧ LsOk N Ls ∧ N ≤ 5000 ∧ H wa = some (.tup (ivs way)) ∧ H da = some (.tup d.vs) ∧
  Ls[d.n]? = some L1 ∧ Ls[d.m]? = some L2 ∧ RK.WayOk N L1 d.f L2 d.s way ∧ ∀ H', Same H H' → Q (.bl true) H'
def spHall (C CH : Addr) : Sp := fun vs H Q _ => ∃ (x dx h ro wa : Addr) (N R a : Nat) (ds : List Dr) (Ls : List Nat) (ws : List (List Nat)), vs = [.ref x, .ref h, .ref ro, .ref wa] ∧ H x = some (.ins C dx []) ∧ HouseAt CH H h R a ds ∧
  Ropes H ro N Ls ∧ WaysAt H wa ws ∧ LsOk N Ls ∧ Ls.length = R ∧ 0 < R ∧ R ≤ 12 ∧ 0 < N ∧ WaysOk N Ls ds ws ∧ ds.length ≤ 20 ∧ N ≤ 5000 ∧ (∀ L ∈ Ls, SetGood (RK.ropeL N L)) ∧ (∀ w ∈ ws, SetGood w) ∧
  ∀ H' : Hp, H' x = some (.ins C dx (aF h ro wa N)) → (∀ b o, H b = some o → b ≠ x → H' b = some o) → Q .non H'
def spReturnOf : Sp := fun vs H Q _ => ∃ (a : Addr) (N L : Nat), vs = [.ref a] ∧ H a = some (.tup (rope N L)) ∧ 0 < L ∧ L ∣ N ∧ 0 < N ∧ N ≤ 5000 ∧ ∀ H', Same H H' → Q (iv L) H'
def spReturnsOf (C : Addr) : Sp := fun vs H Q _ => ∃ (x dx h ro wa : Addr) (N : Nat) (Ls : List Nat), vs = [.ref x] ∧ H x = some (.ins C dx (aF h ro wa N)) ∧ Ropes H ro N Ls ∧ LsOk N Ls ∧ 0 < N ∧ N ≤ 5000 ∧ Ls.length ≤ 12 ∧
  ∀ (H' : Hp) (p : Addr), Same H H' → H p = none → H' p = some (.tup (ivs Ls)) → Q (.ref p) H'
def spFitsDoors (C : Addr) : Sp := fun vs H Q _ => ∃ (x na : Addr) (R a : Nat) (ds : List Dr) (ns : List Nat), vs = [.ref x, .ref na] ∧ HouseAt C H x R a ds ∧ H na = some (.tup (ivs ns)) ∧ FitOk ds ns ∧ (∀ n ∈ ns, 0 < n ∧ n < 100000000) ∧ Q (.bl true) H
def spAreFitting (C : Addr) : Sp := fun vs H Q _ => ∃ (x na : Addr) (R a : Nat) (ds : List Dr) (ns : List Nat), vs = [.ref x, .ref na] ∧ HouseAt C H x R a ds ∧ H na = some (.tup (ivs ns)) ∧ FitOk ds ns ∧ (∀ n ∈ ns, 0 < n ∧ n < 100000000) ∧ ns.length = R ∧ R ≤ 12 ∧
  ∀ H', Same H H' → Q (.bl true) H'
def spNeedFitting (C : Addr) : Sp := fun vs H Q _ => ∃ (x na : Addr) (R a : Nat) (ds : List Dr) (ns : List Nat), vs = [.ref x, .ref na] ∧ HouseAt C H x R a ds ∧ H na = some (.tup (ivs ns)) ∧ FitOk ds ns ∧ (∀ n ∈ ns, 0 < n ∧ n < 100000000) ∧ ns.length = R ∧ R ≤ 12 ∧
  ∀ H', Same H H' → Q .non H'
/-- the rounds by f pulls -/
def grid (N L : Nat) (f : Int) : List (List V) := (List.range (N / L * Nat.gcd L f.natAbs)).map fun k => ivs ((List.range (L / Nat.gcd L f.natAbs)).map (RK.hs L f k))
def spEven : Sp := fun vs H Q _ => ∃ (N L : Nat) (f : Int), vs = [iv N, iv L, .int f] ∧ 0 < L ∧ L ∣ N ∧ L ≤ 5000 ∧ N ≤ 5000 ∧ f.natAbs ≤ 1000 ∧ ∀ (H' : Hp) (p : Addr), Same H H' → H p = none → (∃ as : List Addr, Mat .lst .lst H' p as (grid N L f) ∧ ∀ q ∈ as, H q = none) → Q (.ref p) H'
def spPaired : Sp := fun vs H Q _ => ∃ (a b c : Addr) (as bs : List Addr) (ns ms : List (List Nat)) (r : Nat), vs = [.ref a, .ref b, .ref c] ∧ Mat .lst .lst H a as (ns.map ivs) ∧ Mat .lst .lst H b bs (ms.map ivs) ∧ H c = some (.lst []) ∧ ns.length = ms.length ∧
  ns.length ≤ 5000 ∧ (∀ l ∈ ns, l.length = r) ∧ (∀ l ∈ ms, l.length = r) ∧ ns.length * r ≤ 5000 ∧
  ∀ (H' : Hp) (p : Addr), Same H H' → H p = none → MatAt .lst .tup H' p ((as.zip bs).map fun q => [.ref q.1, .ref q.2]) → Q (.ref p) H'
/-- the same of a hall's making by rounds: what is made -/
def spOfRounds (C CH : Addr) : Sp := fun vs H Q _ => ∃ (h la da : Addr) (N R a : Nat) (ds : List Dr) (Ls : List Nat), vs = [.ref h, .ref la, iv N, .ref da] ∧ HouseAt CH H h R a ds ∧ H la = some (.tup (ivs Ls)) ∧ H da = some (.dK []) ∧ (∀ d ∈ ds, DrOk R d) ∧
  FitOk ds Ls ∧ LsOk N Ls ∧ Ls.length = R ∧ 0 < R ∧ R ≤ 12 ∧ 0 < N ∧ ds.length ≤ 20 ∧ (N ≤ 4000 ∨ (N = 5000 ∧ Ls = [5000] ∧ ds = [])) ∧
  ∀ (H' : Hp) (x ro wa : Addr) (ws : List (List Nat)), Same H H' → H x = none → HallAt C CH H' x h ro wa N R a ds Ls ws → WaysOk N Ls ds ws → Q (.ref x) H'
def spOfReturns (C CH : Addr) : Sp := fun vs H Q _ => ∃ (h la : Addr) (N R a : Nat) (ds : List Dr) (Ls : List Nat), vs = [.ref h, .ref la] ∧ HouseAt CH H h R a ds ∧ H la = some (.tup (ivs Ls)) ∧ (∀ d ∈ ds, DrOk R d) ∧
  FitOk ds Ls ∧ (∀ n ∈ Ls, 0 < n ∧ n < 100000000) ∧ lcmL Ls = N ∧ Ls.length = R ∧ 0 < R ∧ R ≤ 12 ∧ ds.length ≤ 20 ∧ (N ≤ 4000 ∨ (N = 5000 ∧ Ls = [5000] ∧ ds = [])) ∧
  ∀ (H' : Hp) (x ro wa : Addr) (ws : List (List Nat)), Same H H' → H x = none → HallAt C CH H' x h ro wa N R a ds Ls ws → WaysOk N Ls ds ws → Q (.ref x) H'
/-! ### the promises of the law's own defs -/
abbrev tMax : Int := 1000000
def spBegun (K : PySem.W.Frag) : Sp := fun vs H Q _ => ∃ (a : Addr) (ns : List Int), vs = [.ref a] ∧ SqL K H a (ns.map V.int) ∧ ns.length ≤ 63 ∧ ∀ (H' : Hp) (s g c : Addr), Same H H' → H s = none → H g = none → H c = none → StAt H' s g c 0 → Q (.ref s) H'
def spBlended : Sp := fun vs H Q _ => ∃ (s g c : Addr) (T : Int), vs = [.ref s] ∧ StAt H s g c T ∧ T ≤ tMax ∧ ∀ (r : Int) (H' : Hp), StAt H' s g c (T + 1) → Chg s g H H' → Q (.int r) H'
def spDraw : Sp := fun vs H Q _ => ∃ (s g c : Addr) (T n : Int), vs = [.ref s, .int n] ∧ 0 < n ∧ n < 1000000 ∧ StAt H s g c T ∧ T ≤ tMax ∧ ∀ (r : Int) (H' : Hp), 0 ≤ r → r < n → StAt H' s g c (T + 1) → Chg s g H H' → Q (.int r) H'
def spPick : Sp := fun vs H Q _ => ∃ (s g c l : Addr) (T : Int) (xs : List V), vs = [.ref s, .ref l] ∧ H l = some (.lst xs) ∧ l ≠ g ∧ 0 < xs.length ∧ xs.length < 1000 ∧ StAt H s g c T ∧ T ≤ tMax ∧ ∀ (v : V) (H' : Hp), v ∈ xs → StAt H' s g c (T + 1) → Chg s g H H' → Q v H'
def spMixed : Sp := fun vs H Q _ => ∃ (s g c l : Addr) (T : Int) (xs : List V), vs = [.ref s, .ref l] ∧ H l = some (.lst xs) ∧ xs.length < 1000 ∧ StAt H s g c T ∧ T + 1000 ≤ tMax ∧
  ∀ (H' : Hp) (p : Addr) (ys : List V), ys.Perm xs → H p = none → H' p = some (.lst ys) → StAt H' s g c (T + xs.length) → Chg s g H H' → Q (.ref p) H'
def spSize : Sp := fun vs H Q _ => ∃ (s g c : Addr) (T : Int), vs = [.ref s] ∧ StAt H s g c T ∧ T + 1000 ≤ tMax ∧ ∀ (z : Int) (H' : Hp), SzOk z → StAt H' s g c (T + 2) → Chg s g H H' → Q (.int z) H'
def spDoors : Sp := fun vs H Q _ => ∃ (s g c : Addr) (T : Int) (R m : Nat), vs = [.ref s, iv R, iv m] ∧ 0 < R ∧ R ≤ 4 ∧ m ≤ 2 ∧ StAt H s g c T ∧ T + 2000 ≤ tMax ∧
  ∀ (H' : Hp) (p : Addr) (ds : List Dr), H p = none → DoorsAt H' p ds → (∀ d ∈ ds, DrOk R d) → Conn R ds → ds.length ≤ 5 → StAt H' s g c (T + 100) → Chg s g H H' → Q (.ref p) H'
/-- how often a prime divides, by so many trials -/
def vpF : Nat → Nat → Nat → Nat
  | 0, _, _ => 0
  | k + 1, p, n => if n % p = 0 then vpF k p (n / p) + 1 else 0
def vp (p n : Nat) : Nat := vpF n p n
def spExp : Sp := fun vs H Q _ => ∃ (p : Nat) (z : Int), vs = [iv p, .int z] ∧ 2 ≤ p ∧ p < 1000 ∧ z ≠ 0 ∧ Q (iv (vp p z.natAbs)) H
def both (ds : List Dr) : List Dr := ds ++ ds.map Dr.flip
def spBoth : Sp := fun vs H Q _ => ∃ (a : Addr) (ds : List Dr), vs = [.ref a] ∧ DoorsAt H a ds ∧ ds.length ≤ 20 ∧ ∀ (H' : Hp) (p : Addr), Same H H' → H p = none → MatAt .lst .tup H' p ((both ds).map Dr.vs) → Q (.ref p) H'
def Low (p : Nat) (ds : List Dr) (es : List Nat) : Prop := ∀ d ∈ both ds, ∃ x y, es[d.n]? = some x ∧ es[d.m]? = some y ∧ x ≤ vp p d.f.natAbs + (y - vp p d.s.natAbs)
def spLowered : Sp := fun vs H Q _ => ∃ (a c : Addr) (p R : Nat) (ds : List Dr) (cs : List Nat), vs = [.ref a, iv p, .ref c] ∧ DoorsAt H a ds ∧ (∀ d ∈ ds, DrOk R d) ∧ ds.length ≤ 20 ∧ H c = some (.lst (ivs cs)) ∧ cs.length = R ∧ 2 ≤ p ∧ p < 1000 ∧
  ∀ (H' : Hp) (q : Addr) (es : List Nat), Same H H' → H q = none → H' q = some (.lst (ivs es)) → es.length = R → (∀ (j : Nat) x y, es[j]? = some x → cs[j]? = some y → x ≤ y) → Low p ds es → Q (.ref q) H'
/-- numbers of the primes 2, 3, 5 -/
def Num (n : Nat) : Prop := ∃ a b c, a ≤ 2 ∧ b ≤ 2 ∧ c ≤ 1 ∧ n = 2 ^ a * 3 ^ b * 5 ^ c
def spFitting : Sp := fun vs H Q _ => ∃ (s g c a : Addr) (T : Int) (R : Nat) (ds : List Dr), vs = [.ref s, .ref a, iv R] ∧ 0 < R ∧ R ≤ 4 ∧ DoorsAt H a ds ∧ (∀ d ∈ ds, DrOk R d) ∧ ds.length ≤ 20 ∧ StAt H s g c T ∧ T + 2000 ≤ tMax ∧
  ∀ (H' : Hp) (p : Addr) (ns : List Nat), H p = none → H' p = some (.tup (ivs ns)) → ns.length = R → (∀ n ∈ ns, Num n) → FitOk ds ns → StAt H' s g c (T + 100) → Chg s g H H' → Q (.ref p) H'
def spScope : Sp := fun vs H Q _ => ∃ (s g c : Addr) (T : Int), vs = [.ref s, .int 4, .int 2] ∧ StAt H s g c T ∧ T + 3000 ≤ tMax ∧
  ∀ (H' : Hp) (p a : Addr) (R : Nat) (ds : List Dr), H p = none → H' p = some (.tup [iv R, .ref a]) → 0 < R → R ≤ 4 → DoorsAt H' a ds → (∀ d ∈ ds, DrOk R d) → Conn R ds → ds.length ≤ 5 → StAt H' s g c (T + 200) → Chg s g H H' → Q (.ref p) H'
/-- a round from any of its seats -/
def rnd (L s : Nat) : List Nat := (List.range L).map fun j => s / L * L + (s % L + j) % L
def spRound : Sp := fun vs H Q _ => ∃ (a : Addr) (N L s : Nat), vs = [.ref a, iv s] ∧ H a = some (.tup (rope N L)) ∧ 0 < L ∧ L ∣ N ∧ s < N ∧ N ≤ 5000 ∧
  ∀ (H' : Hp) (p : Addr), Same H H' → H p = none → H' p = some (.lst (ivs (rnd L s))) → Q (.ref p) H'
def spPower : Sp := fun vs H Q _ => ∃ (a : Addr) (N L : Nat) (t : Int), vs = [.ref a, .int t] ∧ H a = some (.tup (rope N L)) ∧ 0 < L ∧ L ∣ N ∧ N ≤ 5000 ∧
  ∀ (H' : Hp) (p : Addr), Same H H' → H p = none → H' p = some (.lst (ivs ((List.range N).map (RK.pl L t)))) → Q (.ref p) H'
def spIsHall : Sp := fun vs H Q _ => ∃ (a ha ro wa : Addr) (N R : Nat) (ds : List Dr) (Ls : List Nat) (ws : List (List Nat)), vs = [iv R, .ref a, .ref ha] ∧ DoorsAt H a ds ∧ H ha = some (.tup [.ref ro, .ref wa]) ∧ Ropes H ro N Ls ∧ WaysAt H wa ws ∧
  LsOk N Ls ∧ Ls.length = R ∧ 0 < R ∧ R ≤ 12 ∧ 0 < N ∧ N ≤ 5000 ∧ ds.length ≤ 20 ∧ WaysOk N Ls ds ws ∧ ∀ H', Same H H' → Q (.bl true) H'
def spLengths : Sp := fun vs H Q _ => ∃ (a : Addr) (N L : Nat), vs = [.ref a] ∧ H a = some (.tup (rope N L)) ∧ 0 < L ∧ L ∣ N ∧ 0 < N ∧ N ≤ 5000 ∧ ∀ (H' : Hp) (p : Addr), Same H H' → H p = none → H' p = some (.lst [iv L]) → Q (.ref p) H'
def spMade (C : Addr) : Sp := fun vs H Q _ => ∃ (p a : Addr) (R : Nat) (ds : List Dr), vs = [.ref p] ∧ H p = some (.tup [iv R, .ref a]) ∧ DoorsAt H a ds ∧ (∀ d ∈ ds, DrOk R d) ∧ ds.length ≤ 20 ∧ 0 < R ∧ R ≤ 12 ∧ Conn R ds ∧
  ∀ (H' : Hp) (x : Addr), Same H H' → H x = none → HouseAt C H' x R a ds → Q (.ref x) H'
def spCommon : Sp := fun vs H Q _ => ∃ a b : Nat, vs = [iv a, iv b] ∧ b < 100000000 ∧ Q (iv (Nat.gcd a b)) H
def spMultiple : Sp := fun vs H Q _ => ∃ (a : Addr) (ns : List Nat), vs = [.ref a] ∧ H a = some (.tup (ivs ns)) ∧ (∀ n ∈ ns, 0 < n ∧ n < 100000000) ∧ Q (iv (lcmL ns)) H
def spTruth : Sp := fun vs H Q _ => vs = [.bl true, .bl true] ∧ Q (.bl true) H
def spRight : Sp := fun vs H Q _ => vs = [] ∧ ∀ H', Same H H' → Q (.bl true) H'
end PR
/-! text W1 -/
set_option Elab.async false
set_option linter.all false
set_option maxRecDepth 100000
set_option maxHeartbeats 4000000
namespace PR
open PySem PySem.Spec PyProof.Rows L2
/-! ### comprehensions whose turns only make new things: ys the new list -/
section
variable {K : PySem.W.Frag} {a : Addr} {xs : List V} {g : TG} {tt : TT} {te : TE} {vs : List Nat} {σ : L2.St} {H1 : Hp} {D : Addr} {Qd : Hp → Prop}
theorem take_snoc {α : Type} {ys : List α} {i : Nat} {y : α} (h : ys[i]? = some y) : ys.take (i + 1) = ys.take i ++ [y] := by
  rw [List.take_add_one, h]
  rfl
def lct (ys : List V) (hx : SqT K H1 a xs) (hD : H1 D = none) (hl : ys.length = xs.length) (hz : ys.length ≤ sizeLine)
    (hs : ∀ (i : Nat) (x y : V) (H : Hp) (Nx : VK) (No : Hp → Prop), xs[i]? = some x → ys[i]? = some y → Same H1 H → (∀ H4, Same H H4 → Nx y H4) →
      g x (wipe σ vs) H fun σ2 H2 => wipe σ2 vs = wipe σ vs ∧ tt σ2 H2 fun b H3 => if b = true then te σ2 H3 Nx else No H3)
    (hd : ∀ H, Same H1 H → H D = some (.lst ys) → Qd H) :=
  lc_tup (K := K) (a := a) (xs := xs) (g := g) (tt := tt) (te := te) (vs := vs) (σ := σ) (H1 := H1) (D := D) (Qd := Qd) (fun i H => Same H1 H ∧ H D = some (.lst (ys.take i)))
    ⟨upd_S hD, by rw [upd_same, List.take_zero]⟩ (fun i H _ p => SqT.ext hx p.1)
    (fun i x H h p => by
      obtain ⟨y, hy⟩ : ∃ y, ys[i]? = some y := ⟨_, List.getElem?_eq_getElem (by rw [hl]; exact (List.getElem?_eq_some_iff.mp h).1)⟩
      refine hs i x y H _ _ h hy p.1 fun H4 s4 => ⟨ys.take i, s4 _ _ p.2, ?_, same_updN (p.1.trans s4) hD, by rw [upd_same, take_snoc hy]⟩
      have := (List.getElem?_eq_some_iff.mp hy).1
      rw [List.length_take]
      omega)
    (fun H p => hd H p.1 (by rw [p.2, List.take_of_length_le (by omega)]))
def lcl (ys : List V) (hx : SqL K H1 a xs) (hD : H1 D = none) (hl : ys.length = xs.length) (hz : ys.length ≤ sizeLine)
    (hs : ∀ (i : Nat) (x y : V) (H : Hp) (Nx : VK) (No : Hp → Prop), xs[i]? = some x → ys[i]? = some y → Same H1 H → (∀ H4, Same H H4 → Nx y H4) →
      g x (wipe σ vs) H fun σ2 H2 => wipe σ2 vs = wipe σ vs ∧ tt σ2 H2 fun b H3 => if b = true then te σ2 H3 Nx else No H3)
    (hd : ∀ H, Same H1 H → H D = some (.lst ys) → Qd H) :=
  lc_list (K := K) (a := a) (xs := xs) (g := g) (tt := tt) (te := te) (vs := vs) (σ := σ) (H1 := H1) (D := D) (Qd := Qd) (fun i H => Same H1 H ∧ H D = some (.lst (ys.take i)))
    ⟨upd_S hD, by rw [upd_same, List.take_zero]⟩ (fun i H _ p => SqL.ext hx p.1)
    (fun i x H h p => by
      obtain ⟨y, hy⟩ : ∃ y, ys[i]? = some y := ⟨_, List.getElem?_eq_getElem (by rw [hl]; exact (List.getElem?_eq_some_iff.mp h).1)⟩
      refine hs i x y H _ _ h hy p.1 fun H4 s4 => ⟨ys.take i, s4 _ _ p.2, ?_, same_updN (p.1.trans s4) hD, by rw [upd_same, take_snoc hy]⟩
      have := (List.getElem?_eq_some_iff.mp hy).1
      rw [List.length_take]
      omega)
    (fun H p => hd H p.1 (by rw [p.2, List.take_of_length_le (by omega)]))
def lcr {lo : Int} (n : Nat) (ys : List V) (hD : H1 D = none) (hl : ys.length = n) (hz : ys.length ≤ sizeLine)
    (hs : ∀ (i : Nat) (y : V) (H : Hp) (Nx : VK) (No : Hp → Prop), i < n → ys[i]? = some y → Same H1 H → (∀ H4, Same H H4 → Nx y H4) →
      g (.int (lo + i)) (wipe σ vs) H fun σ2 H2 => wipe σ2 vs = wipe σ vs ∧ tt σ2 H2 fun b H3 => if b = true then te σ2 H3 Nx else No H3)
    (hd : ∀ H, Same H1 H → H D = some (.lst ys) → Qd H) :=
  lc_range (lo := lo) (n := n) (g := g) (tt := tt) (te := te) (vs := vs) (σ := σ) (H1 := H1) (D := D) (Qd := Qd) (fun i H => Same H1 H ∧ H D = some (.lst (ys.take i)))
    ⟨upd_S hD, by rw [upd_same, List.take_zero]⟩
    (fun i H h p => by
      obtain ⟨y, hy⟩ : ∃ y, ys[i]? = some y := ⟨_, List.getElem?_eq_getElem (by rw [hl]; exact h)⟩
      refine hs i y H _ _ h hy p.1 fun H4 s4 => ⟨ys.take i, s4 _ _ p.2, ?_, same_updN (p.1.trans s4) hD, by rw [upd_same, take_snoc hy]⟩
      have := (List.getElem?_eq_some_iff.mp hy).1
      rw [List.length_take]
      omega)
    (fun H p => hd H p.1 (by rw [p.2, List.take_of_length_le (by omega)]))
end
theorem all_true {bs : List Bool} (h : ∀ b ∈ bs, b = true) : bs.all id = true := List.all_eq_true.mpr fun b hb => h b hb
theorem rep_map (n : Nat) : List.replicate n (V.bl true) = (List.replicate n true).map V.bl := by simp
theorem rep_at {n i : Nat} {y : V} (h : (List.replicate n (V.bl true))[i]? = some y) : y = .bl true := by
  rw [List.getElem?_replicate] at h
  split at h
  · exact (Option.some.inj h).symm
  · cases h
theorem len_line {n : Nat} (h : n ≤ 1000000) : n ≤ sizeLine := by rw [sizeLine_eq]; omega
section
variable {P : Program} {w : World} {K : PySem.W.Frag} {mg : Str → Option Value} {base : Heap}
theorem ok_is_number (T : Txt K mg) : FnOk P w K mg base CX0 1 T.is_number.a T.is_number.fd ["value"] spIsNumber := by
  refine T.is_number.F.ok sc_is_number (fun vs H Q E h => ?_) (fun cdv A outer s H vs Q E hr h => ?_)
  · obtain ⟨i, rfl, _⟩ := h
    rfl
  · obtain ⟨i, rfl, k⟩ := h
    refine ⟨_, PSs.nox (pss_one (ps_ret (pe_and (pe_callB call_isi rfl T.m_isinstance b_isinstance (pa_cons (pv 0) (pa_cons (pe_bltn (v := .ty "int") rfl T.m_int b_int rfl) pa_nil)))
      (pe_one (pe_not (pe_callB call_isi rfl T.m_isinstance b_isinstance (pa_cons (pv 0) (pa_cons (pe_bltn (v := .ty "bool") rfl T.m_bool b_bool rfl) pa_nil)))))))), ?_⟩
    refine ⟨_, rfl, _, _, _, _, true, rfl, .ty _, .base (.int i), kit_ty (by decide +kernel), true, rfl, iteT ?_⟩
    exact ⟨_, rfl, _, _, _, _, false, rfl, .ty _, .base (.int i), kit_ty (by decide +kernel), false, rfl, k⟩
theorem ok_is_below (T : Txt K mg) : FnOk P w K mg base CX0 2 T.is_below.a T.is_below.fd ["value", "size"] spIsBelow := by
  refine T.is_below.F.ok sc_is_below (fun vs H Q E h => ?_) (fun cdv A outer s H vs Q E hr h => ?_)
  · obtain ⟨i, n, rfl, _⟩ := h
    rfl
  · obtain ⟨i, n, rfl, h1, h2, k⟩ := h
    refine ⟨_, PSs.nox (pss_one (ps_ret (pe_and (T.is_number.call (ok_is_number T) hr rfl (pa_cons (pv 0) pa_nil)) (pe_one (pe_chain op_le op_lt pe_int (pv 0) (pv 1)))))), ?_⟩
    refine ⟨_, rfl, i, rfl, true, rfl, iteT ?_⟩
    refine ⟨_, rfl, _, _, rfl, rfl, true, bl_t h1, iteT ?_⟩
    refine ⟨_, rfl, _, _, rfl, rfl, ?_⟩
    dsimp only
    rw [decide_eq_true h2]
    exact k
theorem ivs_at {l : List Nat} {i : Nat} {x : V} (h : (ivs l)[i]? = some x) : ∃ n, l[i]? = some n ∧ x = iv n := by
  rw [List.getElem?_map] at h
  cases e : l[i]? with
  | none => rw [e] at h; cases h
  | some n => rw [e] at h; exact ⟨n, rfl, (Option.some.inj h).symm⟩
theorem ok_are_numbers (T : Txt K mg) : FnOk P w K mg base CX0 2 T.are_numbers.a T.are_numbers.fd ["value"] spAreNumbers := by
  refine T.are_numbers.F.ok sc_are_numbers (fun vs H Q E h => ?_) (fun cdv A outer s H vs Q E hr h => ?_)
  · obtain ⟨a, ns, rfl, _⟩ := h
    rfl
  · obtain ⟨a, ns, rfl, ha, hz, k⟩ := h
    refine ⟨_, PSs.nox (pss_one (ps_ret (pe_and (pe_callB call_isi rfl T.m_isinstance b_isinstance (pa_cons (pv 0) (pa_cons (pe_bltn (v := .ty "tuple") rfl T.m_tuple b_tuple rfl) pa_nil)))
      (pe_one (pe_callB (cr_all rfl) rfl T.m_all b_all (pa_cons (pe_lc (own := [("item", 1)]) (g := gName 1) (tt := tYes) rfl sc_are_numbers.nd (pi_tup (pv 0)) (blkOk_by (own := [("item", 1)]) (N := ["value", "item"]) (sc := defScope s_are_numbers) (by decide +kernel))
        (fun _ _ _ _ _ => pg_name (i := 1) sc_are_numbers.nd rfl (Or.inl rfl)) (fun _ _ _ _ _ => pts_nil) (fun _ _ _ _ _ => T.is_number.call (ok_is_number T) hr rfl (pa_cons (pv 1) pa_nil))) pa_nil)))))), ?_⟩
    refine ⟨_, rfl, _, _, _, _, true, rfl, .ty _, .base (.tup ha), kit_ty (by decide +kernel), true, rfl, iteT ?_⟩
    refine ⟨_, rfl, a, rfl, ⟨_, SqT.of ha⟩, fun D hD => lct (List.replicate ns.length (V.bl true)) (SqT.of ha) hD (by simp) (by simpa using len_line hz) (fun i x y H' Nx No hx hy s1 hn => ?_) (fun H' s1 hH => ?_)⟩
    · obtain ⟨n, _, rfl⟩ := ivs_at hx
      rw [rep_at hy] at hn
      exact ⟨rfl, _, rfl, _, rfl, hn _ (Same.refl _)⟩
    · rw [rep_map] at hH
      refine ⟨D, _, rfl, SqL.of hH, ?_⟩
      rw [all_true (by simp)]
      exact k _ s1
end
end PR
/-! text W2 -/
set_option Elab.async false
set_option linter.all false
set_option maxRecDepth 100000
set_option maxHeartbeats 4000000
namespace PR
open PySem PySem.Spec PyProof.Rows L2
theorem lcmL_snoc {ns : List Nat} {i n : Nat} (h : ns[i]? = some n) : lcmL (ns.take (i + 1)) = Nat.lcm (lcmL (ns.take i)) n := by
  unfold lcmL
  rw [take_snoc h, List.foldl_append]
  rfl
theorem lcm_step (f n : Nat) : V.int (((f : Int) * (if (n : Int) < 0 then -(n : Int) else (n : Int))) / ((Nat.gcd (f : Int).natAbs (n : Int).natAbs : Nat) : Int)) = iv (Nat.lcm f n) := by
  rw [if_neg (by omega), Int.natAbs_natCast, Int.natAbs_natCast, ← Int.natCast_mul, ← Int.natCast_ediv]
  rfl
theorem gcd_pos_of {f n : Nat} (h : 0 < n) : 0 < Nat.gcd f n := Nat.gcd_pos_of_pos_right _ h
section
variable {P : Program} {w : World} {K : PySem.W.Frag} {mg : Str → Option Value} {base : Heap}
theorem turn_lcm {f n : Nat} (h : 0 < n) (h2 : n < 100000000) : CDiv ((f : Int) * (if (n : Int) < 0 then -(n : Int) else (n : Int))) ((Nat.gcd (f : Int).natAbs (n : Int).natAbs : Nat) : Int) := by
  rw [Int.natAbs_natCast, Int.natAbs_natCast]
  have h3 := gcd_pos_of (f := f) h
  have h4 := Nat.gcd_le_right f h
  exact ⟨by omega, by omega⟩
theorem cmul_r {i : Int} {n : Nat} (h : n < 1000000000) : CMul i (n : Int) := .inr ⟨by omega, by omega⟩
theorem cmul_abs {i : Int} {n : Nat} (h : n < 1000000000) : CMul i (if (n : Int) < 0 then -(n : Int) else (n : Int)) := by
  rw [if_neg (by omega)]
  exact cmul_r h
theorem ok_least_common (T : Txt K mg) : FnOk P w K mg base CX0 1 T.least_common.a T.least_common.fd ["numbers"] spLcm := by
  refine T.least_common.F.ok sc_least_common (fun vs H Q E h => ?_) (fun cdv A outer s H vs Q E hr h => ?_)
  · obtain ⟨a, ns, rfl, _⟩ := h
    rfl
  · obtain ⟨a, ns, rfl, ha, hn, k⟩ := h
    rcases ha with ha | ha
    · refine ⟨_, PSs.nox (pss_cons (ps_set (i := 1) sc_least_common.nd rfl (Or.inl rfl) pe_int) (pss_cons (ps_for PassesOwn.never rfl (pi_tup (pv 0)) (pg_name (i := 2) sc_least_common.nd rfl (Or.inl rfl))
        (pss_one (ps_set (i := 1) sc_least_common.nd rfl (Or.inl rfl) (pe_op op_fdiv (pe_op op_mul (pv 1) (pe_callB call_abs rfl T.m_abs b_abs (pa_cons (pv 2) pa_nil)))
          (pe_callBfun cr_gcd rfl T.gcd (pa_cons (pv 1) (pa_cons (pv 2) pa_nil))))))) (pss_one (ps_ret (pv 1))))), ?_⟩
      refine ⟨_, rfl, a, rfl, ⟨_, SqT.of ha⟩, for_tup (K := K) (a := a) (xs := ivs ns) (fun i σ H' => H' = H ∧ ∃ v, σ = [some (.ref a), some (iv (lcmL (ns.take i))), v])
        ⟨rfl, _, rfl⟩ (fun i σ H' _ p => by rw [p.1]; exact SqT.of ha) ?_ ?_⟩
      · rintro i x σ H' hx ⟨rfl, v, rfl⟩
        obtain ⟨n, hi, rfl⟩ := ivs_at hx
        obtain ⟨n1, n2⟩ := hn n (List.mem_of_getElem? hi)
        refine ⟨_, rfl, _, rfl, _, rfl, _, _, rfl, rfl, cmul_abs (by omega), _, rfl, _, rfl, _, _, rfl, _, _, rfl, rfl, turn_lcm n1 n2, rfl, some (iv n), ?_⟩
        rw [lcmL_snoc hi]
        exact congrArg (fun z => [some (V.ref a), some z, some (iv n)]) (lcm_step _ _)
      · rintro σ H' ⟨rfl, v, rfl⟩
        refine ⟨_, rfl, ?_⟩
        rw [List.take_of_length_le (by simp)]
        exact k
    · refine ⟨_, PSs.nox (pss_cons (ps_set (i := 1) sc_least_common.nd rfl (Or.inl rfl) pe_int) (pss_cons (ps_for PassesOwn.never rfl (pi_list (pv 0)) (pg_name (i := 2) sc_least_common.nd rfl (Or.inl rfl))
        (pss_one (ps_set (i := 1) sc_least_common.nd rfl (Or.inl rfl) (pe_op op_fdiv (pe_op op_mul (pv 1) (pe_callB call_abs rfl T.m_abs b_abs (pa_cons (pv 2) pa_nil)))
          (pe_callBfun cr_gcd rfl T.gcd (pa_cons (pv 1) (pa_cons (pv 2) pa_nil))))))) (pss_one (ps_ret (pv 1))))), ?_⟩
      refine ⟨_, rfl, a, rfl, ⟨_, SqL.of ha⟩, for_list (K := K) (a := a) (xs := ivs ns) (fun i σ H' => H' = H ∧ ∃ v, σ = [some (.ref a), some (iv (lcmL (ns.take i))), v])
        ⟨rfl, _, rfl⟩ (fun i σ H' _ p => by rw [p.1]; exact SqL.of ha) ?_ ?_⟩
      · rintro i x σ H' hx ⟨rfl, v, rfl⟩
        obtain ⟨n, hi, rfl⟩ := ivs_at hx
        obtain ⟨n1, n2⟩ := hn n (List.mem_of_getElem? hi)
        refine ⟨_, rfl, _, rfl, _, rfl, _, _, rfl, rfl, cmul_abs (by omega), _, rfl, _, rfl, _, _, rfl, _, _, rfl, rfl, turn_lcm n1 n2, rfl, some (iv n), ?_⟩
        rw [lcmL_snoc hi]
        exact congrArg (fun z => [some (V.ref a), some z, some (iv n)]) (lcm_step _ _)
      · rintro σ H' ⟨rfl, v, rfl⟩
        refine ⟨_, rfl, ?_⟩
        rw [List.take_of_length_le (by simp)]
        exact k
/-! ### needs: the object is of the class -/
theorem ok_need_house (T : Txt K mg) : FnOk P w K mg base CX0 1 T.need_house.a T.need_house.fd ["house"] (spNeed T.cHouse) := by
  refine T.need_house.F.ok sc_need_house (fun vs H Q E h => ?_) (fun cdv A outer s H vs Q E hr h => ?_)
  · obtain ⟨x, dx, fs, rfl, _⟩ := h
    rfl
  · obtain ⟨x, dx, fs, rfl, hx, k⟩ := h
    refine ⟨_, PSs.nox (pss_one (ps_if (pt_not (pt_val (pe_callB call_isi rfl T.m_isinstance b_isinstance (pa_cons (pv 0) (pa_cons (pe_glob (v := .ref T.cHouse) rfl T.dHouse.g rfl) pa_nil))))) (pss_one ps_never) pss_nil)), ?_⟩
    exact ⟨_, rfl, _, _, _, _, true, rfl, .own _, .base (.ins hx T.dHouse.cl T.dHouse.ha T.hn T.htk T.dHouse.hm), T.dHouse.ki, true, rfl, iteF k⟩
theorem ok_need_hall (T : Txt K mg) : FnOk P w K mg base CX0 1 T.need_hall.a T.need_hall.fd ["hall"] (spNeed T.cHall) := by
  refine T.need_hall.F.ok sc_need_hall (fun vs H Q E h => ?_) (fun cdv A outer s H vs Q E hr h => ?_)
  · obtain ⟨x, dx, fs, rfl, _⟩ := h
    rfl
  · obtain ⟨x, dx, fs, rfl, hx, k⟩ := h
    refine ⟨_, PSs.nox (pss_one (ps_if (pt_not (pt_val (pe_callB call_isi rfl T.m_isinstance b_isinstance (pa_cons (pv 0) (pa_cons (pe_glob (v := .ref T.cHall) rfl T.dHall.g rfl) pa_nil))))) (pss_one ps_never) pss_nil)), ?_⟩
    exact ⟨_, rfl, _, _, _, _, true, rfl, .own _, .base (.ins hx T.dHall.cl T.dHall.ha T.hn T.htk T.dHall.hm), T.dHall.ki, true, rfl, iteF k⟩
end
end PR
/-! text Wr -/
set_option Elab.async false
set_option linter.all false
set_option maxRecDepth 100000
set_option maxHeartbeats 4000000
/-! own rules, by values -/
namespace PR
open PySem PySem.Spec PyProof.Rows L2
section
variable {X : Cx}
/-- xs != [] -/
def rNeNil (K : PySem.W.Frag) : R2 := fun x y H Q => ∃ (a b : Addr) (xs : List V), x = .ref a ∧ y = .ref b ∧ SqL K H a xs ∧ H b = some (.lst []) ∧ Q (.bl (!xs.isEmpty)) H
theorem op_ne_nil (hu : X.A.units < cLine) : OpR X (compareOp .NotEq) (rNeNil X.K) := by
  intro pins s σ H x y v u Q I rx ry h
  obtain ⟨a, b, xs, rfl, rfl, ha, hb, q⟩ := h
  cases rx
  cases ry
  obtain ⟨its, rv, p, _⟩ := I.list ha
  obtain ⟨jts, rw', p2, _⟩ := I.list (.inl (.inl hb))
  cases rw'
  cases xs with
  | nil =>
    cases rv
    exact SeqAt.RcNeAt.lists (e := fun _ => true) p.isList p2.isList rfl hu (fun j h1 _ => absurd h1 (by simp)) X.prog X.w X.xe _ ⟨.bl false, H, I, rfl, q⟩
  | cons z zs =>
    cases rv with
    | cons r1 r2 => exact SeqAt.RcNeAt.lists_lengths p.isList p2.isList (by simp) hu X.prog X.w X.xe _ ⟨.bl true, H, I, rfl, q⟩
/-- t == () -/
def rEqNilT (K : PySem.W.Frag) : R2 := fun x y H Q => ∃ (a b : Addr) (xs : List V), x = .ref a ∧ y = .ref b ∧ SqT K H a xs ∧ H b = some (.tup []) ∧ Q (.bl xs.isEmpty) H
theorem op_eq_nilT (hu : X.A.units < cLine) : OpR X (compareOp .Eq) (rEqNilT X.K) := by
  intro pins s σ H x y v u Q I rx ry h
  obtain ⟨a, b, xs, rfl, rfl, ha, hb, q⟩ := h
  cases rx
  cases ry
  obtain ⟨its, rv, p, _⟩ := I.tuple ha
  obtain ⟨jts, rw', p2, _⟩ := I.tuple (.inl (.inl hb))
  cases rw'
  refine SeqAt.RcAt.tuples (e := fun _ => true) p p2 hu (fun j _ h2 => absurd h2 (by simp)) X.prog X.w X.xe _ ⟨.bl xs.isEmpty, H, I, ?_, q⟩
  have hl := rv.length
  cases xs with
  | nil =>
    cases rv
    rfl
  | cons z zs =>
    cases rv with
    | cons r1 r2 =>
      show Value.bool _ = Value.bool _
      simp
end
end PR
/-! text Wr2 -/
set_option Elab.async false
set_option linter.all false
set_option maxRecDepth 100000
set_option maxHeartbeats 4000000
/-! enumerate of a tuple -/
namespace PR
open PySem PySem.Spec PyProof.Rows L2
open AutoSeq1 (wpAny_loadPart')
theorem enumNewT (t : Addr) (items : Array Value) (n : Nat) (dc : Option Addr) (sl : Array (Option Value)) :
    Meets (Builtin.«enumerate.__new__» ⟨[.type "enumerate", .ref t], []⟩) (fun _ R s => s.heap.get? t = some { cls := .type "tuple", dict := dc, data := .seq items n, slots := sl } ∧
      R (.ok (.ret (.ref (s.heap.push { cls := .type "tuple_iterator", data := .fields #[.ref t, .int 0 0] }).objs.size)))
        { s with heap := (s.heap.push { cls := .type "tuple_iterator", data := .fields #[.ref t, .int 0 0] }).push { cls := .type "enumerate", data := .fields #[.none, .bool false, .ref s.heap.objs.size, rawInt 0, .none, .none] } }) :=
  .of_wp fun prog w A R s h => by
    obtain ⟨hp, g, d, tk, os⟩ := s
    obtain ⟨ht, h⟩ := h
    have sE := sub_enumerate
    have hT : Heap.IsTuple (Shared.heap ⟨hp, g, d, tk, os⟩) t items := ⟨_, ht, rfl, n, rfl⟩
    wp_walk using wpAny_loadPart' ht
    refine wpAny_stack_any fun st => wpAny_pure ?_
    split
    · rename_i c _ _ _ _ _
      cases (c == Value.type "enumerate") <;>
        (wp_walk using wpAny_loadPart' ht, wpAny_pyIter_tuple hT
         exact ⟨_, rfl, h⟩)
    · wp_walk using wpAny_loadPart' ht, wpAny_pyIter_tuple hT
      exact ⟨_, rfl, h⟩
section
variable {prog : Program} {w : World} {A : Around} {E : Value → Shared → Prop} {s : Shared}
theorem callEnumT {t : Addr} {items : Array Value} {Q : Value → Shared → Prop} (hT : s.heap.IsTuple t items)
    (h : ∀ h1 : Heap, IsEnum h1 (s.heap.objs.size + 1) s.heap.objs.size 0 .none → h1.IsTupleIter s.heap.objs.size t 0 → (∀ b o, s.heap.get? b = some o → h1.get? b = some o) → Q (.ref (s.heap.objs.size + 1)) { s with heap := h1 }) :
    wpAny (model prog w) A (call (.type "enumerate") [.ref t]) Q E s := by
  obtain ⟨⟨c, dc, dt, sl⟩, ht, hc, n, hd⟩ := hT
  replace hc : c = .type "tuple" := hc
  replace hd : dt = .seq items n := hd
  subst hc hd
  refine callType_new F.called_enumerate (by decide) (F.typeCall_enumerate_1 _) (F.newCall_enumerate_1 _) (fun obj => F.args_object_init_2 obj _) F.entry_enumerate_new (enumNewT t items n dc sl) ⟨ht, ?_⟩
  have hz : (s.heap.push { cls := .type "tuple_iterator", data := .fields #[.ref t, .int 0 0] }).objs.size = s.heap.objs.size + 1 := Heap.size_push ..
  show _ ∧ _
  rw [hz]
  have he : IsEnum ((s.heap.push { cls := .type "tuple_iterator", data := .fields #[.ref t, .int 0 0] }).push { cls := .type "enumerate", data := .fields #[.none, .bool false, .ref s.heap.objs.size, rawInt 0, .none, .none] }) (s.heap.objs.size + 1) s.heap.objs.size 0 .none := by
    have q := Heap.get?_push_size (s.heap.push { cls := .type "tuple_iterator", data := .fields #[.ref t, .int 0 0] }) (o := { cls := .type "enumerate", data := .fields #[.none, .bool false, .ref s.heap.objs.size, rawInt 0, .none, .none] }) rfl
    rw [hz] at q
    exact q
  exact ⟨⟨_, he, rfl⟩, h _ he ⟨_, Heap.get?_push_of_some _ (Heap.get?_push_size _ rfl), rfl, rfl⟩ fun b o x => Heap.get?_push_of_some _ (Heap.get?_push_of_some _ x)⟩
end
/-- the tuple at a, each item in a new pair with its number -/
def ItE (K : PySem.W.Frag) (a : Addr) : It :=
  ⟨fun i H => ∃ (xs : List V) (x : V), SqT K H a xs ∧ xs[i]? = some x, fun i H v H' => ∃ (T : Addr) (x : V), v = .ref T ∧ H T = none ∧ H' = upd H T (.tup [iv i, x]) ∧ ∀ xs, SqT K H a xs → xs[i]? = some x, fun i H => ∃ xs : List V, SqT K H a xs ∧ xs.length = i⟩
theorem turnEnumT {P : Program} {w : World} {K : PySem.W.Frag} {elts : List Expr} {kk : Nat} {tpos : Pos} (a e it : Addr) :
    Turn P w K (.Tuple elts kk tpos) (ItE K a) [e, it] e (fun i h => (∃ old, IsEnum h e it ((i : Nat) : Int) old) ∧ h.IsTupleIter it a i ∧ e ≠ it ∧ a ≠ it ∧ a ≠ e) where
  mem := by simp
  obj := fun i h st b hb => by
    obtain ⟨⟨old, he⟩, ⟨o, ho, hc, hd⟩, _⟩ := st
    rcases (show b = e ∨ b = it by simpa using hb) with rfl | rfl
    · exact ⟨_, he, fun v q => nomatch q⟩
    · exact ⟨o, ho, fun v q => by rw [hd] at q; cases q⟩
  keep := fun i h h1 st k => by
    obtain ⟨⟨old, he⟩, hi, ne⟩ := st
    exact ⟨⟨old, k e (by simp) _ he⟩, hi.at fun o q => k it (by simp) o q, ne⟩
  item := by
    intro X hP hw hK hc i pins s σ H E I hf st hg
    subst hP hw hK
    obtain ⟨⟨old, he⟩, hit, ne1, ne2, ne3⟩ := st
    obtain ⟨xs, x, hq, hx⟩ := hg
    obtain ⟨its, rv, p, hz⟩ := I.tuple hq
    obtain ⟨u, hu, ru⟩ := rv.get hx
    have hel : e < s.heap.objs.size := Heap.lt_size he
    have hil : it < s.heap.objs.size := by obtain ⟨_, q, _⟩ := hit; exact Heap.lt_size q
    have hlt : i < its.toArray.size := by
      rw [List.size_toArray]
      exact (List.getElem?_eq_some_iff.mp hu).1
    refine wpAny_pyNext_enum_itemD (Draws.tuple (A := X.A.in1) (I.ok.hd hc) it a ne2 its.toArray) he ⟨hit, p⟩ hlt ne1 (by simp [ne1, Ne.symm ne3]) fun x' h1 tk hP ho hst hT hsz hk => ?_
    have ex : x' = u := by
      rw [List.getElem?_toArray, hu] at hP
      exact (Option.some.inj hP).symm
    subst ex
    refine ⟨_, rfl, wpAny_letOwnedTupleGo_enum (s := { s with heap := h1, toks := tk + 1 }) ho fun h2 he2 sb => ?_⟩
    have hT2 : h2.get? s.heap.objs.size = some { cls := .type "tuple", data := .seq #[.int i tk, x'] } := (sb.2 _ (Nat.ne_of_gt hel)).trans hT
    have new : ObjOk X.prog X.w (upd H s.heap.objs.size (.tup [iv i, x])) h2 s.heap.objs.size (.tup [iv i, x]) :=
      ⟨by show 2 ≤ sizeLine; decide, [.int i tk, x'], .cons ⟨_, rfl⟩ (.cons ru .nil), ⟨_, hT2, rfl, _, rfl⟩⟩
    have I1 : Inv X pins σ (upd H s.heap.objs.size (.tup [iv i, x])) { s with heap := h2, toks := tk + 1 } :=
      I.turnedNew (ch := [e, it]) (fun b ob hb q => (sb.2 b (fun z => hb (by simp [z]))).trans (hk b ob (fun z => hb (by simp [z])) (fun z => hb (by simp [z])) q)) hf (Nat.le_refl _) new
    refine ⟨.ref s.heap.objs.size, _, I1, rfl, ⟨_, x, rfl, I.hok.fresh (Nat.le_refl _), rfl, fun ys hy => by rw [I.tuple_inj hy hq]; exact hx⟩, ⟨⟨x', ?_⟩, hst.1.at fun o q => (sb.2 it (Ne.symm ne1)).trans q, ne1, ne2, ne3⟩, fun b hb => ?_⟩
    · have e1 : ((i + 1 : Nat) : Int) = (i : Int) + 1 := by omega
      rw [e1]
      exact he2
    · have hb1 : b < s.heap.objs.size := by
        rcases (show b = e ∨ b = it by simpa using hb) with rfl | rfl
        · exact hel
        · exact hil
      rw [upd_ne (Nat.ne_of_lt hb1)]
      exact (hf b hb).1
  done := by
    intro X hP hw hK hc i pins s σ H E I hf st hg
    subst hP hw hK
    obtain ⟨⟨old, he⟩, hit, ne1, ne2, ne3⟩ := st
    obtain ⟨xs, hq, hx⟩ := hg
    obtain ⟨its, rv, p, hz⟩ := I.tuple hq
    obtain ⟨f0, f1, f2, f3, f4, f5⟩ := hf it (by simp)
    have hl : i = its.toArray.size := by
      rw [List.size_toArray, ← rv.length, hx]
    subst hl
    exact wpAny_pyNext_enum_endD (Draws.tuple (A := X.A.in1) (I.ok.hd hc) it a ne2 its.toArray) he ⟨hit, p⟩ fun h1 eb => ⟨rfl, I.turned (t' := s.toks) (fun b o hb q => eb b o hb q) f0 f1 f3 f4 f5⟩
  self := fun A i s Q E st h => by
    obtain ⟨⟨_, he⟩, _⟩ := st
    exact wpAny_pyIter_enum he h
def iEnumT (K : PySem.W.Frag) (ta : TA) : TI := fun σ H R => ta σ H fun vs H1 => ∃ (a : Addr) (xs : List V), vs = [.ref a] ∧ SqT K H1 a xs ∧ R (ItE K a) H1
theorem pi_enumT {X : Cx} {e : Expr} {ta : TA} {p pos tpos : Pos} {elts : List Expr} {kk : Nat} (hg : Gl X "enumerate") (hm : X.mg "enumerate" = none) (ha : PA X [e] ta) (hs : starEach [e] X.env = [(false, eval e X.env)] := by rfl) :
    PI X (.Tuple elts kk tpos) (.Call (.Name "enumerate" p) [e] [] pos) (iEnumT X.K ta) := by
  refine ⟨fun pins s σ H R I h => ?_⟩
  refine Call_ (ld_blt I hg hm boot_enumerate (PyProof.Rows.callWith_type1 (thn (ha.run pos pins s σ H _ I h) fun us s1 q0 => ?_) hs rfl))
  obtain ⟨vs, H1, I1, r1, a, xs, ex, hq, q⟩ := q0
  subst ex
  obtain ⟨u, rfl, ru⟩ := vals1 r1
  cases ru
  obtain ⟨its, rv, pt, hz⟩ := I1.tuple hq
  refine callEnumT pt fun h1 he hit hk => wpAny_pyIter_enum he ?_
  have I2 : Inv X pins σ H1 { s1 with heap := h1 } := I1.kept (t' := s1.toks) hk
  have hlt := pt.lt
  refine ⟨s1.heap.objs.size + 1, [s1.heap.objs.size + 1, s1.heap.objs.size], _, _, H1, rfl, I2, turnEnumT a (s1.heap.objs.size + 1) s1.heap.objs.size, ⟨⟨.none, he⟩, hit, Nat.succ_ne_self _, Nat.ne_of_lt hlt, Nat.ne_of_lt (Nat.lt_succ_of_lt hlt)⟩, fun b hb => ?_, q⟩
  have hle : s1.heap.objs.size ≤ b := by
    rcases (show b = s1.heap.objs.size + 1 ∨ b = s1.heap.objs.size by simpa using hb) with z | z
    · rw [z]
      exact Nat.le_add_right _ _
    · rw [z]
      exact Nat.le_refl _
  exact I1.fpOk hle (I1.hok.fresh hle)
/-- for n, x in enumerate(t): Pv by turn, slots, heap; each pair is a new tuple T -/
def for_enT {K : PySem.W.Frag} {a : Addr} {xs : List V} {g : TG} {tb : TS} {D : Ends} {σ : L2.St} {H : Hp} (Pv : Nat → L2.St → Hp → Prop) (h0 : Pv 0 σ H) (hq : ∀ i σ H, i ≤ xs.length → Pv i σ H → SqT K H a xs)
    (hs : ∀ (i : Nat) (x : V) (T : Addr) (σ : L2.St) (H : Hp), xs[i]? = some x → Pv i σ H → H T = none → g (.ref T) σ (upd H T (.tup [iv i, x])) fun σ2 H2 => tb { D with nx := Pv (i + 1), ct := Pv (i + 1), bk := D.nx } σ2 H2)
    (hd : ∀ σ H, Pv xs.length σ H → D.nx σ H) :
    ∃ W : Nat → Nat → L2.St → Hp → Prop, (∃ m, W 0 m σ H) ∧ ∀ i m σ H, W i m σ H → ((ItE K a).stop i H ∧ D.nx σ H) ∨ ((ItE K a).go i H ∧ ∃ N : L2.St → Hp → Prop, (∀ σ' H', N σ' H' → ∃ m', m' < m ∧ W (i + 1) m' σ' H') ∧
      ∀ v H', (ItE K a).yld i H v H' → g v σ H' fun σ2 H2 => tb { D with nx := N, ct := N, bk := D.nx } σ2 H2) := by
  refine ⟨fun i m σ H => m = xs.length - i ∧ i ≤ xs.length ∧ Pv i σ H, ⟨xs.length, rfl, Nat.zero_le _, h0⟩, ?_⟩
  rintro i m σ H ⟨rfl, hi, p⟩
  have qx := hq i σ H hi p
  by_cases hlt : i < xs.length
  · have hx : xs[i]? = some xs[i] := List.getElem?_eq_getElem hlt
    refine .inr ⟨⟨xs, _, qx, hx⟩, Pv (i + 1), fun σ1 H1 p1 => ⟨xs.length - (i + 1), by omega, rfl, hlt, p1⟩, fun v H1 y => ?_⟩
    obtain ⟨T, x1, rfl, hT, rfl, f1⟩ := y
    exact hs i x1 T σ H (f1 xs qx) p hT
  · have e : i = xs.length := by omega
    subst e
    exact .inl ⟨⟨xs, qx, rfl⟩, hd σ H p⟩
end PR
/-! text Wr3 -/
set_option Elab.async false
set_option linter.all false
set_option maxRecDepth 100000
set_option maxHeartbeats 4000000
/-! d.update(e) of two dicts; sorted of a tuple of ints -/
namespace PR
open PySem PySem.Spec PyProof.Rows L2
section
variable {X : Cx}
def rUpd : V → List V → Hp → VK → Prop := fun x xs H Q => ∃ (d o : Addr) (ks ms : List (Key × V)), x = .ref d ∧ xs = [.ref o] ∧ d ≠ o ∧ H d = some (.dK ks) ∧ H o = some (.dK ms) ∧ ks.length + ms.length ≤ sizeLine ∧ (mergeK ks ms).length ≤ sizeLine ∧ Q .non (upd H d (.dK (mergeK ks ms)))
theorem mt_update : MtR X "dict.update" rUpd := by
  intro pins s σ H x xs v us Q I rx rxs h
  obtain ⟨d, o, ks, ms, rfl, rfl, hne, hd, ho, hz, hz2, q⟩ := h
  cases rx
  obtain ⟨u, rfl, ru⟩ := vals1 rxs
  cases ru
  obtain ⟨z1, n1, vs, kv1, dd1⟩ := dk_of I.hok hd
  obtain ⟨z2, n2, rs, kv2, dd2⟩ := dk_of I.hok ho
  refine call_meetsIn PySem.F.slot_dict_update dd1.typeIs PySem.F.entry_dict_update (PySem.F.args_dict_update_2 _ _) (meets_dict_update (mixKind X.prog X.w) d o hne n2) ⟨vs, rs, dd1, dd2, by rw [← kv1.length, ← kv2.length]; exact hz, fun h1 d1 d2 sb => ?_⟩
  have there : ∃ q, h1.get? d = some q := by
    obtain ⟨ob, _, _, e, _⟩ := d1
    exact ⟨ob, e⟩
  exact ⟨.non, _, d_write (t' := s.toks) I (by rw [hd]; exact True.intro) sb there (dk_new hz2 n1 (KV.merge kv2 kv1) d1), rfl, q⟩
end
section
variable {prog : Program} {w : World} {A : Around} {E : Value → Shared → Prop} {s : Shared}
theorem collectT {t : Addr} {vs : List Value} {Q : List Value → Shared → Prop} (ht : s.heap.IsTuple t vs.toArray) (hsz : vs.length ≤ sizeLine)
    (h : Q vs { s with heap := (s.heap.push (seqObj "list" #[] 0)).update s.heap.objs.size (Obj.mapSeq (· ++ vs.toArray)) }) : wpAny (model prog w) A (collect (.ref t)) Q E s := by
  obtain ⟨ob, hob, hcl, n, hdt⟩ := id ht
  unfold collect
  refine wpAny_bind (wpAny_runValue (codeAny_builtin entry_proto_collect' ?_))
  show wpAny _ _ (do again (.builtin "list.__iadd__" ⟨[← newList [], .ref t], []⟩)) _ _ s
  refine wpAny_bind (wpAny_newList (wpAny_pure ⟨Code.quiet_builtin _ (by decide +kernel), codeAny_builtin entry_list_iadd' ?_⟩))
  show wpAny _ _ (Builtin.List.listExtendWith (.ref s.heap.objs.size) (.ref t) (.ref s.heap.objs.size)) _ _ { s with heap := s.heap.push (seqObj "list" #[] 0) }
  unfold Builtin.List.listExtendWith
  have hob1 : (s.heap.push (seqObj "list" #[] 0)).get? t = some ob := Heap.get?_push_of_some _ hob
  refine wpAny_bind (wpAny_typeOf (T := "tuple") ⟨ob, hob1, hcl⟩ ?_)
  have tt : (Value.type "tuple" == Value.type "tuple") = true := by rfl
  rw [if_pos (by rw [tt]; simp)]
  refine wpAny_bind (listItems_at hob1 hdt ?_)
  refine wpAny_bind (listItems_at (xs := #[]) (n := 0) (Heap.get?_push_size _ rfl) rfl ?_)
  rw [if_neg (by simp)]
  refine wpAny_bind (listUpdate_at (xs := #[]) (n := 0) (Heap.get?_push_size _ rfl) rfl ?_ (Nat.zero_le _) (by show (#[] ++ vs.toArray).size ≤ sizeLine + 1; simp only [Array.size_append, List.size_toArray, List.length_nil]; omega))
  refine wpAny_pure ?_
  show wpAny (model prog w) A (do
      let ob ← load s.heap.objs.size
      match ob.data with
      | .seq ys _ => pure ys.toList
      | _ => unsupported "internal:collect") Q E { s with heap := (s.heap.push (seqObj "list" #[] 0)).update s.heap.objs.size (Obj.mapSeq (· ++ vs.toArray)) }
  refine wpAny_bind (wpAny_load (get?_update_seq (Heap.get?_push_size _ rfl) _) ?_)
  show wpAny _ _ (pure ((#[] : Array Value) ++ vs.toArray).toList) Q E _
  rw [show ((#[] : Array Value) ++ vs.toArray).toList = vs by simp]
  exact wpAny_pure h
theorem sortedT {t : Addr} {vs : List Value} {ltv : Value → Value → Bool} {Q : Value → Shared → Prop} (O : SrtO.Swo ltv) (ht : s.heap.IsTuple t vs.toArray) (hz : vs.length ≤ sizeLine)
    (hS : 2 ≤ vs.length → ∀ (h1 : Heap) (a : Addr), h1.get? a = some (seqObj "list" vs.toArray 0) → (∀ b o, s.heap.get? b = some o → b ≠ a ∧ h1.get? b = some o) → SrtO.SortableO prog w A.in1.in1 { s with heap := h1 } a vs ltv)
    (h : ∀ out : List Value, SrtO.Srtd ltv out → SrtO.Stb ltv out vs → Q (.ref (s.heap.objs.size + 1)) { s with heap := sortedAll s.heap vs out.toArray }) :
    wpAny (model prog w) A (call (.builtin "sorted") [.ref t]) Q E s := by
  refine Calls.call_function_entry kind_sorted plain_sorted entry_sorted (args_sorted1 _) ?_
  unfold Builtin.«sorted»
  refine wpAny_bind (m := checkCount "sorted" 1 1 _) (wpAny_pure (wpAny_bind (collectT ht hz (wpAny_bind (wpAny_newList ?_ hz)))))
  have hsz : ((s.heap.push (seqObj "list" #[] 0)).update s.heap.objs.size (Obj.mapSeq (· ++ vs.toArray))).objs.size = s.heap.objs.size + 1 := by
    rw [Heap.size_update, size_push']
  have hoL : (((s.heap.push (seqObj "list" #[] 0)).update s.heap.objs.size (Obj.mapSeq (· ++ vs.toArray))).push (seqObj "list" vs.toArray 0)).get? (s.heap.objs.size + 1) = some (seqObj "list" vs.toArray 0) := by
    rw [← hsz]
    exact Heap.get?_push_size _ rfl
  have keep : ∀ b o, s.heap.get? b = some o → b ≠ s.heap.objs.size + 1 ∧ (((s.heap.push (seqObj "list" #[] 0)).update s.heap.objs.size (Obj.mapSeq (· ++ vs.toArray))).push (seqObj "list" vs.toArray 0)).get? b = some o := fun b o q => by
    have hlt : b < s.heap.objs.size := Heap.lt_size q
    refine ⟨Nat.ne_of_lt (Nat.lt_succ_of_lt hlt), Heap.get?_push_of_some _ ?_⟩
    rw [Heap.get?_update_ne _ _ _ _ (Nat.ne_of_lt hlt)]
    exact Heap.get?_push_of_some _ q
  show wpAny _ _ _ _ _ { s with heap := ((s.heap.push (seqObj "list" #[] 0)).update s.heap.objs.size (Obj.mapSeq (· ++ vs.toArray))).push (seqObj "list" vs.toArray 0) }
  rw [hsz]
  refine wpAny_bind (wpAny_holding (wpAny_call_entry slot_list_sort ⟨_, hoL, rfl⟩ entry_list_sort (SrtO.list_sort_ord O hoL hz (fun h2 => hS h2 _ _ hoL keep) fun out a b => ⟨_, rfl, ?_⟩) (args_list_sort _)))
  exact wpAny_pure ⟨_, rfl, h out a b⟩
end
section
variable {X : Cx}
/-- sorted(t), t a tuple of ints -/
def rSortedT (K : PySem.W.Frag) : List V → Hp → VK → Prop := fun vs H Q => ∃ (a : Addr) (ns : List Int), vs = [V.ref a] ∧ SqT K H a (ns.map V.int) ∧ ∀ (ms : List Int) (p : Addr), ms.Perm ns → ms.Pairwise (· ≤ ·) → H p = none → Q (.ref p) (upd H p (.lst (ms.map V.int)))
theorem cr_sortedT : CallR X (.builtin "sorted") (rSortedT X.K) := by
  intro pins s σ H vs us Q I r h
  obtain ⟨a, ns, rfl, hs, q⟩ := h
  obtain ⟨u, rfl, ru⟩ := vals1 r
  cases ru
  obtain ⟨its, rv, hl, hz⟩ := I.tuple hs
  have hi := rv.ints
  refine sortedT SrtO.swo_int hl (by rw [← rv.length]; exact hz) (fun h2 h1 a1 _ _ => SrtO.ints_sortable hi h2) fun out h1 h2 => ?_
  obtain ⟨k1, k2, k3⟩ := SrtO.ints_out hi h1 h2
  obtain ⟨ep, he⟩ := PyProof.Rows.sortedAll_at s.heap its out.toArray
  have hlen : ((out.map SrtO.iv).map V.int).length ≤ sizeLine := by
    rw [List.length_map, k2.length_eq]
    rw [List.length_map] at hz
    exact hz
  exact ⟨.ref _, upd H (s.heap.objs.size + 1) (.lst ((out.map SrtO.iv).map V.int)), I.laid (t' := s.toks) (fun _ _ => PyProof.Rows.sortedAll_old) (Nat.le_succ _) ⟨hlen, out, ep, vals_of_ints k1, he⟩, rfl, q _ _ k2 k3 (I.hok.fresh (Nat.le_succ _))⟩
end
end PR
/-! text Wr4 -/
set_option Elab.async false
set_option linter.all false
set_option maxRecDepth 100000
set_option maxHeartbeats 4000000
/-! {k: v for t0 in i0 for t1 in i1}, no tests -/
namespace PR
open PySem PySem.Spec PyProof.Rows L2
/-- the comprehension's own term -/
abbrev dcE (kx vx t0 i0 t1 i1 : Expr) (sc : Scope) (pos : Pos) : Expr := .DictComp kx vx [⟨t0, i0, [], 0⟩, ⟨t1, i1, [], 0⟩] sc pos
theorem turnOut (kx vx t0 i0 t1 i1 : Expr) (sc : Scope) (pos : Pos) (it acc : Value) (env : Env) : compTurn (dcE kx vx t0 i0 t1 i1 sc pos) 0 it acc env = (do
    standAt i0.pos
    match ← pyNext it with
    | none => pure (.done .next)
    | some z =>
      letOwnedTupleGo t0 it z
      assign t0 env z
      let y ← eval i1 env
      standAt i1.pos
      let y ← foldedSetIterable i1 env y
      let _ ← runOwn (.compStart (dcE kx vx t0 i0 t1 i1 sc pos) 1 (← holding [y] (pyIter y)) acc env) env
      again (.compLoop (dcE kx vx t0 i0 t1 i1 sc pos) 0 it acc env)) := by rfl
theorem turnIn (kx vx t0 i0 t1 i1 : Expr) (sc : Scope) (pos : Pos) (it : Value) (D : Addr) (env : Env) : compTurn (dcE kx vx t0 i0 t1 i1 sc pos) 1 it (.ref D) env = (do
    standAt i1.pos
    match ← pyNext it with
    | none => pure (.done .next)
    | some z =>
      letOwnedTupleGo t1 it z
      assign t1 env z
      (do
        let a ← eval kx env
        let b ← holding [a] (eval vx env)
        standAt { kx.pos with endLine := vx.pos.endLine, endCol := vx.pos.endCol }
        holding [a, b] (dictSet D a b))
      again (.compLoop (dcE kx vx t0 i0 t1 i1 sc pos) 1 it (.ref D) env)) := by rfl
section
variable {prog : Program} {w : World} {A : Around} {R : Result → Shared → Prop} {s : Shared} {kx vx t0 i0 t1 i1 : Expr} {sc : Scope} {pos : Pos} {it acc : Value} {D : Addr} {env : Env}
abbrev nb (prog : Program) (w : World) (A : Around) (env : Env) (R : Result → Shared → Prop) : Value → Shared → Prop := notedBy (model prog w) A env fun e s' => R (.error e) s'
theorem loopOut (hs : ∀ y, foldedSetIterable i1 env y = pure y) (J : Nat → Shared → Prop)
    (turn : ∀ n s, J n s → wpAny (model prog w) A (pyNext it) (fun r s1 => match r with
      | none => R (.ok .next) s1
      | some z => wpAny (model prog w) A (letOwnedTupleGo t0 it z) (fun _ s2 => wpAny (model prog w) A (assign t0 env z) (fun _ s3 =>
          wpAny (model prog w) A (eval i1 env) (fun y s4 => wpAny (model prog w) A (pyIter y) (fun it1 s5 =>
            codeAny (model prog w) A (.compStart (dcE kx vx t0 i0 t1 i1 sc pos) 1 it1 acc env) (fun r s' => match r with
              | .ok _ => ∃ m, m < n ∧ J m s'
              | .error _ => False) s5) (nb prog w A env R) s4) (nb prog w A env R) s3) (nb prog w A env R) s2) (nb prog w A env R) s1) (nb prog w A env R) s)
    (n : Nat) (h : J n s) : codeAny (model prog w) A (.compLoop (dcE kx vx t0 i0 t1 i1 sc pos) 0 it acc env) R s := by
  refine codeAny_loop rfl J (fun n s hJ => ?_) n h
  show wpAny _ A ((compTurn (dcE kx vx t0 i0 t1 i1 sc pos) 0 it acc env).onRaise (fun x => do noteFrame x env; theTreesLotGoes x)) _ _ s
  refine wpAny_noted ?_
  rw [turnOut]
  refine wpAny_bind (wpAny_standAt (wpAny_bind (wpAny_mono (turn n s hJ) (fun r s1 h1 => ?_) fun _ _ q => q)))
  cases r with
  | none => exact wpAny_pure h1
  | some z =>
    refine wpAny_bind (wpAny_mono h1 (fun _ s2 h2 => wpAny_bind (wpAny_mono h2 (fun _ s3 h3 => ?_) fun _ _ q => q)) fun _ _ q => q)
    refine wpAny_bind (wpAny_mono h3 (fun y s4 h4 => ?_) fun _ _ q => q)
    refine wpAny_bind (wpAny_standAt (wpAny_bind (wpAny_of_eq (hs y) (wpAny_bind (wpAny_holding (wpAny_mono h4 (fun it1 s5 h5 => ?_) fun _ _ q => q))))))
    refine wpAny_bind (wpAny_runOwn ?_)
    rw [Around.mark_none]
    refine codeAny_mono h5 fun r s' hr => ?_
    cases r with
    | ok f => exact wpAny_pure ⟨rfl, hr⟩
    | error e => exact hr.elim
theorem loopIn (J : Nat → Shared → Prop)
    (turn : ∀ n s, J n s → wpAny (model prog w) A (pyNext it) (fun r s1 => match r with
      | none => R (.ok .next) s1
      | some z => wpAny (model prog w) A (letOwnedTupleGo t1 it z) (fun _ s2 => wpAny (model prog w) A (assign t1 env z) (fun _ s3 =>
          wpAny (model prog w) A (eval kx env) (fun a s4 => wpAny (model prog w) A (eval vx env) (fun b s5 =>
            wpAny (model prog w) A (dictSet D a b) (fun _ s6 => ∃ m, m < n ∧ J m s6) (nb prog w A env R) s5) (nb prog w A env R) s4) (nb prog w A env R) s3) (nb prog w A env R) s2) (nb prog w A env R) s1) (nb prog w A env R) s)
    (n : Nat) (h : J n s) : codeAny (model prog w) A (.compLoop (dcE kx vx t0 i0 t1 i1 sc pos) 1 it (.ref D) env) R s := by
  refine codeAny_loop rfl J (fun n s hJ => ?_) n h
  show wpAny _ A ((compTurn (dcE kx vx t0 i0 t1 i1 sc pos) 1 it (.ref D) env).onRaise (fun x => do noteFrame x env; theTreesLotGoes x)) _ _ s
  refine wpAny_noted ?_
  rw [turnIn]
  refine wpAny_bind (wpAny_standAt (wpAny_bind (wpAny_mono (turn n s hJ) (fun r s1 h1 => ?_) fun _ _ q => q)))
  cases r with
  | none => exact wpAny_pure h1
  | some z =>
    refine wpAny_bind (wpAny_mono h1 (fun _ s2 h2 => wpAny_bind (wpAny_mono h2 (fun _ s3 h3 => ?_) fun _ _ q => q)) fun _ _ q => q)
    exact wpAny_bind (wpAny_bind (wpAny_mono h3 (fun a s4 h4 => wpAny_bind (wpAny_holding (wpAny_mono h4 (fun b s5 h5 => wpAny_bind (wpAny_standAt (wpAny_holding (wpAny_mono h5 (fun _ s6 h6 => wpAny_pure ⟨rfl, h6⟩) fun _ _ q => q)))) fun _ _ q => q))) fun _ _ q => q))
theorem startIn (h0 : codeAny (model prog w) A (.compLoop (dcE kx vx t0 i0 t1 i1 sc pos) 1 it acc env) R s)
    (h : wpAny (model prog w) A (pyIter it) (fun it2 s' => codeAny (model prog w) A (.compLoop (dcE kx vx t0 i0 t1 i1 sc pos) 1 it2 acc env) R s') (nb prog w A env R) s) :
    codeAny (model prog w) A (.compStart (dcE kx vx t0 i0 t1 i1 sc pos) 1 it acc env) R s := by
  refine codeAny_of_tree ?_
  show wpAny _ _ ((compStart (dcE kx vx t0 i0 t1 i1 sc pos) 1 it acc env).onRaise (fun x => do noteFrame x env; standAt theWindowsPlace)) _ _ s
  refine wpAny_notedAt ?_
  unfold compStart
  show wpAny _ _ (ask >>= _) _ _ s
  refine wpAny_bind (wpAny_askSetting (wpAny_ite ?_))
  split
  · first
      | exact wpAny_pure (And.intro rfl h0)
      | exact wpAny_bind (wpAny_pure (wpAny_pure (And.intro rfl h0)))
  · refine wpAny_bind (wpAny_rule ?_)
    first
      | exact wpAny_bind (wpAny_standAt (wpAny_bind (wpAny_mono h (fun it2 s' q => wpAny_pure (And.intro rfl q)) fun _ _ x => x)))
      | (show wpAny _ _ (standAt i1.pos >>= _) _ _ s; exact wpAny_bind (wpAny_standAt (wpAny_bind (wpAny_mono h (fun it2 s' q => wpAny_pure (And.intro rfl q)) fun _ _ x => x))))
end
section
variable {X : Cx}
/-- the reading: D the new dict; vs the block's names, vs1 those of the second target -/
def tDc2 (wi : TI) (g : TG) (wi1 : TI) (g1 : TG) (tk tv : TE) (vs vs1 : List Nat) : TE := fun σ H Q => wi σ H fun J H1 => ∀ D, H1 D = none → ∃ W : Nat → Nat → Hp → Prop, (∃ m, W 0 m (upd H1 D (.dK []))) ∧ ∀ i m H, W i m H →
  (J.stop i H ∧ Q (.ref D) H) ∨ (J.go i H ∧ ∃ Nx : Hp → Prop, (∀ H', Nx H' → ∃ m', m' < m ∧ W (i + 1) m' H') ∧ ∀ x H', J.yld i H x H' → g x (wipe σ vs) H' fun σ2 H2 => wipe σ2 vs = wipe σ vs ∧
    wi1 σ2 H2 fun J1 H4 => ∃ W1 : Nat → Nat → Hp → Prop, (∃ m, W1 0 m H4) ∧ ∀ j k H, W1 j k H →
      (J1.stop j H ∧ Nx H) ∨ (J1.go j H ∧ ∃ Nx1 : Hp → Prop, (∀ H', Nx1 H' → ∃ k', k' < k ∧ W1 (j + 1) k' H') ∧ ∀ x H', J1.yld j H x H' → g1 x (wipe σ2 vs1) H' fun σ3 H5 => wipe σ3 vs1 = wipe σ2 vs1 ∧
        tk σ3 H5 fun y H6 => tv σ3 H6 fun z H7 => ∃ kvs k, y = kV k ∧ H7 D = some (.dK kvs) ∧ kvs.length < sizeLine ∧ Nx1 (upd H7 D (.dK (putK kvs k z)))))
theorem dc2_core {pins : List (Addr × Obj)} {s : Shared} {σ : L2.St} {H : Hp} {Q : VK} {kx vx tg iter tg1 iter1 : Expr} {sc : Scope} {own : List (Str × Nat)} {vs1 : List Nat} {pos pos' : Pos} {wi wi1 : TI} {g g1 : TG} {tk tv : TE} {use : Option (Value → Sem Unit)} {Qf : Value → Shared → Prop}
    (hc : X.calm = true) (hN : X.N.Nodup) (I : L2.Inv X pins σ H s) (hi : PI X tg iter wi) (ok : BlkOk X.N X.env.scope sc own) (hv : ∀ i ∈ vs1, i ∈ own.map (·.2))
    (hg : ∀ (s : Shared) (H : Hp) (C : Addr) (cl : List (Str × Addr)) (fp : List Addr), PG (X.blk s H sc (compEnvC sc cl C X.env) fp) tg g)
    (hk : ∀ (s : Shared) (H : Hp) (C : Addr) (cl : List (Str × Addr)) (fp : List Addr), PE (X.blk s H sc (compEnvC sc cl C X.env) fp) kx tk)
    (he : ∀ (s : Shared) (H : Hp) (C : Addr) (cl : List (Str × Addr)) (fp : List Addr), PE (X.blk s H sc (compEnvC sc cl C X.env) fp) vx tv) (hs : ∀ x, foldedSetIterable iter X.env x = pure x)
    (hi1 : ∀ (s : Shared) (H : Hp) (C : Addr) (cl : List (Str × Addr)) (fp : List Addr), PI (X.blk s H sc (compEnvC sc cl C X.env) fp) tg1 iter1 wi1)
    (hg1 : ∀ (s : Shared) (H : Hp) (C : Addr) (cl : List (Str × Addr)) (fp : List Addr), PG (X.blk s H sc (compEnvC sc cl C X.env) fp) tg1 g1)
    (hs1 : ∀ env x, foldedSetIterable iter1 env x = pure x) (h : tDc2 wi g wi1 g1 tk tv (own.map (·.2)) vs1 σ H Q)
    (hRR : ∀ D C s' m H', L2.Inv X pins σ H' s' → Q (.ref D) H' → s'.heap.Ns C m → FpOk X pins H' C → compPost (model X.prog X.w) X.A X.xe use Qf (.ref D) C (.ok .next) s') :
    wpAny (model X.prog X.w) X.A (comprehension (dcE kx vx tg iter tg1 iter1 sc pos) sc X.env pos' newDict false (eval iter X.env) use) Qf X.xe s := by
  have clos : ∀ y ∈ sc.names, y.2 = .free → ∃ c, X.env.cells.lookup y.1 = some c := fun y hy e => I.ok.has _ (ok.free y hy e)
  refine wpAny_comprehension_free (use := use) rfl hs (closure_ok clos) ok.kind (fun y hy e => by rw [ok.uniq y hy, e]) (thn (hi.run pins s σ H _ I h) fun xv s1 hx => thn hx fun itv s2 h2 => ?_)
  obtain ⟨it, fp, tn, J, H2, e, I2, T, st2, f2, q⟩ := h2
  subst e
  refine wpAny_newObj_type (newEnv_comp ?_)
  generalize hD : s2.heap.objs.size = D
  obtain ⟨W, ⟨m0, w0⟩, turn⟩ := q D (I2.hok.fresh (Nat.le_of_eq hD))
  generalize hs3 : ({ s2 with heap := s2.heap.push { cls := .type "dict", data := .dict #[] } } : Shared) = s3
  have I3 : L2.Inv X pins σ (upd H2 D (.dK [])) s3 := by
    rw [← hs3]
    refine I2.laid (t' := s2.toks) (fun b o e => Heap.get?_push_of_some _ e) (Nat.le_of_eq hD) ?_
    rw [← hD]
    exact dk_empty s2.heap I2.big
  have h3 : s3.heap = s2.heap.push { cls := .type "dict", data := .dict #[] } := by rw [← hs3]
  have f3 : ∀ b ∈ fp, FpOk X pins (upd H2 D (.dK [])) b ∧ b < s3.heap.objs.size := fun b hb => by
    obtain ⟨o, e, _⟩ := T.obj _ _ st2 b hb
    have hlt := Heap.lt_size e
    refine ⟨⟨?_, (f2 b hb).2⟩, by rw [h3, Heap.size_push]; exact Nat.lt_succ_of_lt hlt⟩
    rw [upd_ne (by rw [← hD]; exact Nat.ne_of_lt hlt)]
    exact (f2 b hb).1
  have st3 : tn 0 s3.heap := T.keep _ _ _ st2 fun b _ o e => by rw [h3]; exact Heap.get?_push_of_some _ e
  have I4 := block_start I3 ok hN f3
  show codeAny _ _ (.compStart (dcE kx vx tg iter tg1 iter1 sc pos) 0 (.ref it) (.ref D) (compEnvC sc (cellsFrom (s3.heap.objs.size + 1) sc.names (cloFrom X.env.cells sc.names [])) s3.heap.objs.size X.env)) (compPost (model X.prog X.w) X.A X.xe use Qf (.ref D) s3.heap.objs.size) { s3 with heap := pushCells (s3.heap.push { cls := .type "dict", data := .dict #[] }) sc.names }
  generalize hcl : cellsFrom (s3.heap.objs.size + 1) sc.names (cloFrom X.env.cells sc.names []) = cl at I4 ⊢
  generalize hH3 : upd H2 D (.dK []) = H3 at I3 I4 w0 f3
  have pg := hg s3 H3 s3.heap.objs.size cl fp
  have pk := hk s3 H3 s3.heap.objs.size cl fp
  have pe := he s3 H3 s3.heap.objs.size cl fp
  have pi1 := hi1 s3 H3 s3.heap.objs.size cl fp
  have pg1 := hg1 s3 H3 s3.heap.objs.size cl fp
  have nfp : ∀ b ∈ fp, H3 b = none := fun b hb => (f3 b hb).1.1
  generalize hce : compEnvC sc cl s3.heap.objs.size X.env = ce at I4 pg pk pe pi1 pg1 ⊢
  have cL : ce.locals = s3.heap.objs.size := by subst hce; rfl
  generalize hs4 : ({ s3 with heap := pushCells (s3.heap.push { cls := .type "dict", data := .dict #[] }) sc.names } : Shared) = s4 at I4 ⊢
  have st4 : tn 0 s4.heap := T.keep _ _ _ st3 fun b _ o e => by rw [← hs4]; exact pushCells_keeps _ _ _ _ (Heap.get?_push_of_some _ e)
  -- the block's context
  obtain ⟨Y, hY⟩ : ∃ Y : Cx, Y = X.blk s3 H3 sc ce fp := ⟨_, rfl⟩
  rw [← hY] at I4 pg pk pe pi1 pg1
  have yA : Y.A = X.A := by rw [hY]
  have yP : Y.prog = X.prog := by rw [hY]
  have stat : ∀ {σ' : L2.St} {H' : Hp} {s' : Shared}, L2.Inv (X.blk s3 H3 sc ce fp) [] σ' H' s' → (∀ b ∈ fp, H' b = none) → ∀ b ∈ fp, FpOk (X.blk s3 H3 sc ce fp) [] H' b := fun {σ' H' s'} J' hn b hb =>
    ⟨hn b hb, (J'.ok.exf b hb).1, J'.ok.exfs b hb, .inl hb, fun x c e => (J'.ok.exf b hb).2 x c e, fun p hp => absurd (show p ∈ ([] : List (Addr × Obj)) ++ [] from hp) (by simp)⟩
  subst hY
  have loop : codeAny (model X.prog X.w) X.A (.compLoop (dcE kx vx tg iter tg1 iter1 sc pos) 0 (.ref it) (.ref D) ce) (compPost (model X.prog X.w) X.A X.xe use Qf (.ref D) s3.heap.objs.size) s4 := by
    refine loopOut (hs1 ce) (fun n s' => ∃ i H', L2.Inv (X.blk s3 H3 sc ce fp) [] (wipe σ (own.map (·.2))) H' s' ∧ tn i s'.heap ∧ (∀ b ∈ fp, H' b = none) ∧ W i n H') ?_ m0 ⟨0, H3, I4, st4, nfp, w0⟩
    rintro n s5 ⟨i, H5, I5, st5, n5, w5⟩
    rcases turn i n H5 w5 with ⟨stop, qq⟩ | ⟨go, Nx, hNx, step⟩
    · refine thnF (T.done (X.blk s3 H3 sc ce fp) rfl rfl rfl hc i [] s5 _ H5 (fun _ _ => False) I5 (stat I5 n5) st5 stop) fun r s6 h6 => ?_
      obtain ⟨hr, I6⟩ := h6
      subst hr
      have I7 : L2.Inv X pins σ H5 s6 := I3.call' (ch := fp) I6.os I6.base I6.hok I6.bare fun b hb => ⟨(f3 b hb).1.2.2.2.1, (f3 b hb).1.2.1, (f3 b hb).1.2.2.2.2.1, (f3 b hb).1.2.2.2.2.2⟩
      have nC : H5 ce.locals = none := I6.free
      obtain ⟨m, hn, _⟩ := I6.loc
      have hn : s6.heap.Ns ce.locals m := hn
      rw [cL] at hn nC
      exact hRR D s3.heap.objs.size s6 m H5 I7 qq hn (I3.fpOk (Nat.le_refl _) nC)
    · refine thnF (T.item (X.blk s3 H3 sc ce fp) rfl rfl rfl hc i [] s5 _ H5 (fun _ _ => False) I5 (stat I5 n5) st5 go) fun r s6 h6 => ?_
      obtain ⟨u, hr, h6⟩ := h6
      subst hr
      refine thnF h6 fun _ s7 h7 => ?_
      obtain ⟨x, H7, I7, r7, y7, st7, n7⟩ := h7
      refine thnF (pg.run _ s7 _ H7 x u _ (I7.pinned (stat I7 n7) (T.obj _ _ st7)) r7 (step x H7 y7)) fun _ s8 h8 => ?_
      obtain ⟨σ8, H8, I8, hw8, q8⟩ := h8
      -- a turn's end
      have fin : ∀ {σ9 : L2.St} {s' : Shared} {H' : Hp}, L2.Inv (X.blk s3 H3 sc ce fp) ([] ++ pinsAt fp s7.heap) σ9 H' s' → (wipe σ (own.map (·.2))).length = σ9.length → (∀ (j : Nat) v, (wipe σ (own.map (·.2)))[j]? = some (some v) → σ9[j]? = some (some v)) → Nx H' →
          ∃ m, m < n ∧ ∃ i H', L2.Inv (X.blk s3 H3 sc ce fp) [] (wipe σ (own.map (·.2))) H' s' ∧ tn i s'.heap ∧ (∀ b ∈ fp, H' b = none) ∧ W i m H' := fun {σ9 s' H'} J' hl hk nx => by
        obtain ⟨m', hm, w'⟩ := hNx H' nx
        have pin : ∀ b ∈ fp, ∀ o, s7.heap.get? b = some o → s'.heap.get? b = some o ∧ H' b = none := fun b hb o e => by
          have z := J'.pin (b, o) (List.mem_append_right _ (List.mem_append_right _ (mem_pinsAt hb e)))
          exact ⟨z.1, z.2.1⟩
        refine ⟨m', hm, i + 1, H', (J'.unpinned (pins := [])).weak hl hk, T.keep _ _ _ st7 fun b hb o e => (pin b hb o e).1, fun b hb => ?_, w'⟩
        obtain ⟨o, e, _⟩ := T.obj _ _ st7 b hb
        exact (pin b hb o e).2
      have hl8 : (wipe σ (own.map (·.2))).length = (wipe σ8 vs1).length := by rw [wipe_length σ8, ← hw8, wipe_length]
      have hk9 : ∀ (j : Nat) v, (wipe σ (own.map (·.2)))[j]? = some (some v) → (wipe σ8 vs1)[j]? = some (some v) := fun j v e => by
        rw [← hw8] at e
        obtain ⟨e1, e2⟩ := wipe_some e
        rw [wipe_out fun z => e2 (hv j z)]
        exact e1
      refine thnF (pi1.run _ s8 σ8 H8 _ I8 q8) fun xv s10 hx => thnF hx fun itv s11 h11 => ?_
      obtain ⟨it1, fp1, tn1, J1, H11, e1, I11, T1, st11, f11, W1, ⟨m1, w1⟩, turn1⟩ := h11
      subst e1
      have stat1 : ∀ {H' : Hp}, (∀ b ∈ fp1, H' b = none) → ∀ b ∈ fp1, FpOk (X.blk s3 H3 sc ce fp) ([] ++ pinsAt fp s7.heap) H' b := fun hn b hb => ⟨hn b hb, (f11 b hb).2⟩
      have loop1 : codeAny (model X.prog X.w) X.A (.compLoop (dcE kx vx tg iter tg1 iter1 sc pos) 1 (.ref it1) (.ref D) ce)
          (fun r s' => match r with
            | .ok _ => ∃ m, m < n ∧ ∃ i H', L2.Inv (X.blk s3 H3 sc ce fp) [] (wipe σ (own.map (·.2))) H' s' ∧ tn i s'.heap ∧ (∀ b ∈ fp, H' b = none) ∧ W i m H'
            | .error _ => False) s11 := by
        refine loopIn (fun k s' => ∃ j H', L2.Inv (X.blk s3 H3 sc ce fp) ([] ++ pinsAt fp s7.heap) (wipe σ8 vs1) H' s' ∧ tn1 j s'.heap ∧ (∀ b ∈ fp1, H' b = none) ∧ W1 j k H') ?_ m1 ⟨0, H11, I11.weak (wipe_length _ _) (fun j v e => (wipe_some e).1), st11, fun b hb => (f11 b hb).1, w1⟩
        rintro k s12 ⟨j, H12, I12, st12, n12, w12⟩
        rcases turn1 j k H12 w12 with ⟨stop1, nx1⟩ | ⟨go1, Nx1, hNx1, step1⟩
        · refine thnF (T1.done (X.blk s3 H3 sc ce fp) rfl rfl rfl hc j _ s12 (wipe σ8 vs1) H12 (fun _ _ => False) I12 (stat1 n12) st12 stop1) fun r s13 h13 => ?_
          obtain ⟨hr, I13⟩ := h13
          subst hr
          exact fin I13 hl8 hk9 nx1
        · refine thnF (T1.item (X.blk s3 H3 sc ce fp) rfl rfl rfl hc j _ s12 (wipe σ8 vs1) H12 (fun _ _ => False) I12 (stat1 n12) st12 go1) fun r s13 h13 => ?_
          obtain ⟨u1, hr, h13⟩ := h13
          subst hr
          refine thnF h13 fun _ s14 h14 => ?_
          obtain ⟨x1, H14, I14, r14, y14, st14, n14⟩ := h14
          refine thnF (pg1.run _ s14 (wipe σ8 vs1) H14 x1 u1 _ (I14.pinned (stat1 n14) (T1.obj _ _ st14)) r14 (step1 x1 H14 y14)) fun _ s15 h15 => ?_
          obtain ⟨σ15, H15, I15, hw15, q15⟩ := h15
          refine thnF (pk.run _ s15 σ15 H15 _ I15 q15) fun z s16 h16 => ?_
          obtain ⟨yk, H16, I16, r16, q16⟩ := h16
          refine thnF (pe.run _ s16 σ15 H16 _ I16 q16) fun z2 s17 h17 => ?_
          obtain ⟨yv, H17, I17, r17, kvs, ky, ek, hD17, hz17, nx⟩ := h17
          subst ek
          refine d_dictSet (X := X.blk s3 H3 sc ce fp) I17 hD17 hz17 r16 r17 fun s18 I18 => ?_
          obtain ⟨m', hm, w'⟩ := hNx1 _ nx
          have pin : ∀ b ∈ fp1, ∀ o, s14.heap.get? b = some o → s18.heap.get? b = some o ∧ (upd H17 D (.dK (putK kvs ky yv))) b = none := fun b hb o e => by
            have z := I18.pin (b, o) (List.mem_append_right _ (List.mem_append_right _ (mem_pinsAt hb e)))
            exact ⟨z.1, z.2.1⟩
          refine ⟨m', hm, j + 1, _, I18.unpinned.weak (by rw [← hw15, wipe_length]) (fun j v e => by rw [← hw15] at e; exact (wipe_some e).1), T1.keep _ _ _ st14 fun b hb o e => (pin b hb o e).1, fun b hb => ?_, w'⟩
          obtain ⟨o, e, _⟩ := T1.obj _ _ st14 b hb
          exact (pin b hb o e).2
      exact startIn loop1 (T1.self X.A 0 _ _ _ st11 loop1)
  exact codeAny_compStart_dict loop (T.self X.A 0 _ _ _ st4 loop)
theorem pe_dc2 {kx vx tg iter tg1 iter1 : Expr} {sc : Scope} {own : List (Str × Nat)} {vs1 : List Nat} {pos : Pos} {wi wi1 : TI} {g g1 : TG} {tk tv : TE} (hc : X.calm = true) (hN : X.N.Nodup) (hi : PI X tg iter wi) (ok : BlkOk X.N X.env.scope sc own) (hv : ∀ i ∈ vs1, i ∈ own.map (·.2))
    (hg : ∀ (s : Shared) (H : Hp) (C : Addr) (cl : List (Str × Addr)) (fp : List Addr), PG (X.blk s H sc (compEnvC sc cl C X.env) fp) tg g)
    (hi1 : ∀ (s : Shared) (H : Hp) (C : Addr) (cl : List (Str × Addr)) (fp : List Addr), PI (X.blk s H sc (compEnvC sc cl C X.env) fp) tg1 iter1 wi1)
    (hg1 : ∀ (s : Shared) (H : Hp) (C : Addr) (cl : List (Str × Addr)) (fp : List Addr), PG (X.blk s H sc (compEnvC sc cl C X.env) fp) tg1 g1)
    (hk : ∀ (s : Shared) (H : Hp) (C : Addr) (cl : List (Str × Addr)) (fp : List Addr), PE (X.blk s H sc (compEnvC sc cl C X.env) fp) kx tk)
    (he : ∀ (s : Shared) (H : Hp) (C : Addr) (cl : List (Str × Addr)) (fp : List Addr), PE (X.blk s H sc (compEnvC sc cl C X.env) fp) vx tv)
    (hs : ∀ x, foldedSetIterable iter X.env x = pure x := by intro _; rfl) (hs1 : ∀ env x, foldedSetIterable iter1 env x = pure x := by intro _ _; rfl) :
    PE X (dcE kx vx tg iter tg1 iter1 sc pos) (tDc2 wi g wi1 g1 tk tv (own.map (·.2)) vs1) := by
  refine ⟨fun pins s σ H Q I h => ?_⟩
  rw [arm_eval_DictComp]
  refine dc2_core hc hN I hi ok hv hg hk he hs hi1 hg1 hs1 h fun D C s' m H' J q hn f => ⟨m, hn, fun h2 sb => ?_⟩
  obtain ⟨f0, f1, f2, f3, f4, f5⟩ := f
  exact ⟨.ref D, H', J.turned (t' := s'.toks) (fun b o hb e => (sb.2 b hb).trans e) f0 f1 f3 f4 f5, rfl, q⟩
end
end PR
/-! text W3 -/
set_option Elab.async false
set_option linter.all false
set_option maxRecDepth 100000
set_option maxHeartbeats 4000000
namespace PR
open PySem PySem.Spec PyProof.Rows L2
section
variable {P : Program} {w : World} {K : PySem.W.Frag} {mg : Str → Option Value} {base : Heap}
theorem ok_is_door (T : Txt K mg) : FnOk P w K mg base CX0 3 T.is_door.a T.is_door.fd ["value", "rooms"] spIsDoor := by
  refine T.is_door.F.ok sc_is_door (fun vs H Q E h => ?_) (fun cdv A outer s H vs Q E hr h => ?_)
  · obtain ⟨a, R, d, rfl, _⟩ := h
    rfl
  · obtain ⟨a, R, d, rfl, ha, ⟨d1, d2, z1, z2⟩, k⟩ := h
    obtain ⟨tG, mG⟩ := T.cGreatest
    refine ⟨_, PSs.nox (pss_cons (ps_if (PW.pt (pw_or (pt_not (pt_val (pe_callB call_isi rfl T.m_isinstance b_isinstance (pa_cons (pv 0) (pa_cons (pe_bltn (v := .ty "tuple") rfl T.m_tuple b_tuple rfl) pa_nil)))))
        (pw_or1 (pt_cmpR op_ne (pe_callB call_len_seq rfl T.m_len boot_len (pa_cons (pv 0) pa_nil)) pe_int (nomark _))))) (pss_one (ps_ret pe_bl)) pss_nil)
      (pss_cons (ps_asg (pv 0) (pg_tup rfl (pgs_cons (pg_name (i := 2) sc_is_door.nd rfl (Or.inl rfl)) (pgs_cons (pg_name (i := 3) sc_is_door.nd rfl (Or.inl rfl)) (pgs_cons (pg_name (i := 4) sc_is_door.nd rfl (Or.inl rfl)) (pgs_cons (pg_name (i := 5) sc_is_door.nd rfl (Or.inl rfl)) pgs_nil))))))
      (pss_cons (ps_if (PW.pt (pw_or (pt_not (pt_val (T.is_below.call (ok_is_below T) hr rfl (pa_cons (pv 2) (pa_cons (pv 1) pa_nil)))))
        (pw_or1 (pt_not (pt_val (T.is_below.call (ok_is_below T) hr rfl (pa_cons (pv 4) (pa_cons (pv 1) pa_nil)))))))) (pss_one (ps_ret pe_bl)) pss_nil)
      (pss_one (ps_ret (pe_callB (cr_all rfl) rfl T.m_all b_all (pa_cons (pe_lc (own := [("item", 6)]) (g := gName 6) (tt := tYes) rfl sc_is_door.nd (pi_tup (pe_tup (pa_cons (pv 3) (pa_cons (pv 5) pa_nil))))
        (blkOk_by (own := [("item", 6)]) (N := ["value", "rooms", "near", "first", "far", "second", "item"]) (sc := defScope s_is_door) (by decide +kernel))
        (fun _ _ _ _ _ => pg_name (i := 6) sc_is_door.nd rfl (Or.inl rfl)) (fun _ _ _ _ _ => pts_nil)
        (fun _ _ _ _ _ => pe_and (T.is_number.call (ok_is_number T) (hr.mono (by decide)) rfl (pa_cons (pv 6) pa_nil)) (pe_and (pe_cmp (pc_neI (pv 6) pe_int) rfl)
          (pe_one (pe_chain op_le op_le (pe_un un_neg (pe_glob (v := .int 999) rfl mG ⟨_, rfl⟩)) (pv 6) (pe_glob (v := .int 999) rfl mG ⟨_, rfl⟩)))))) pa_nil))))))), ?_⟩
    refine ⟨_, rfl, _, _, _, _, true, rfl, .ty _, .base (.tup ha), kit_ty (by decide +kernel), true, rfl, iteF ?_⟩
    refine ⟨_, rfl, _, _, rfl, .inr (SqT.of ha), rfl, _, rfl, iteF ?_⟩
    refine ⟨_, rfl, _, _, rfl, SqT.of ha, rfl, _, _, rfl, _, _, rfl, _, _, rfl, _, _, rfl, rfl, ?_⟩
    refine ⟨_, rfl, _, rfl, _, _, rfl, by omega, by omega, true, rfl, iteF ?_⟩
    refine ⟨_, rfl, _, rfl, _, _, rfl, by omega, by omega, true, rfl, iteF ?_⟩
    refine ⟨_, rfl, _, rfl, (by show 2 ≤ sizeLine; decide), fun t ht => ⟨t, rfl, ⟨_, SqT.of upd_same⟩, fun D hD => lct (xs := [.int d.f, .int d.s]) (List.replicate 2 (V.bl true)) (SqT.of upd_same) hD rfl (by decide) (fun i x y H' Nx No hx hy s1 hn => ?_) (fun H' s1 hH => ?_)⟩⟩
    · rw [rep_at hy] at hn
      have hz : ∃ z, x = .int z ∧ SzOk z := by
        match i, hx with
        | 0, hx => exact ⟨d.f, (Option.some.inj hx).symm, z1⟩
        | 1, hx => exact ⟨d.s, (Option.some.inj hx).symm, z2⟩
      obtain ⟨z, rfl, hz⟩ := hz
      have nz := hz.nz
      have lz := hz.le
      refine ⟨rfl, _, rfl, z, rfl, true, rfl, iteT ?_⟩
      refine ⟨_, rfl, _, _, rfl, rfl, true, ?_, iteT ?_⟩
      · show V.bl (!decide (z = 0)) = _
        rw [decide_eq_false nz]
        rfl
      refine ⟨_, rfl, _, rfl, _, _, rfl, rfl, true, bl_t (show (-999 : Int) ≤ z by omega), iteT ?_⟩
      refine ⟨_, _, rfl, rfl, ?_⟩
      dsimp only
      rw [decide_eq_true (show z ≤ 999 by omega)]
      exact hn _ (Same.refl _)
    · rw [rep_map] at hH
      refine ⟨D, _, rfl, SqL.of hH, ?_⟩
      rw [all_true (by simp)]
      exact k _ ((upd_S ht).trans s1)
theorem ok_are_doors (T : Txt K mg) : FnOk P w K mg base CX0 4 T.are_doors.a T.are_doors.fd ["value", "rooms"] spAreDoors := by
  refine T.are_doors.F.ok sc_are_doors (fun vs H Q E h => ?_) (fun cdv A outer s H vs Q E hr h => ?_)
  · obtain ⟨a, R, ds, rfl, _⟩ := h
    rfl
  · obtain ⟨a, R, ds, rfl, ⟨as, ha⟩, hds, hz, k⟩ := h
    obtain ⟨tG, mG⟩ := T.cDoors
    refine ⟨_, PSs.nox (pss_cons (ps_if (PW.pt (pw_or (pt_not (pt_val (pe_callB call_isi rfl T.m_isinstance b_isinstance (pa_cons (pv 0) (pa_cons (pe_bltn (v := .ty "tuple") rfl T.m_tuple b_tuple rfl) pa_nil)))))
        (pw_or1 (pt_cmpR op_gt (pe_callB call_len_seq rfl T.m_len boot_len (pa_cons (pv 0) pa_nil)) (pe_glob (v := .int 20) rfl mG ⟨_, rfl⟩) (nomark _))))) (pss_one (ps_ret pe_bl)) pss_nil)
      (pss_one (ps_ret (pe_callB (cr_all rfl) rfl T.m_all b_all (pa_cons (pe_lc (own := [("door", 2)]) (g := gName 2) (tt := tYes) rfl sc_are_doors.nd (pi_tup (pv 0))
        (blkOk_by (own := [("door", 2)]) (N := ["value", "rooms", "door"]) (sc := defScope s_are_doors) (by decide +kernel))
        (fun _ _ _ _ _ => pg_name (i := 2) sc_are_doors.nd rfl (Or.inl rfl)) (fun _ _ _ _ _ => pts_nil)
        (fun _ _ _ _ _ => T.is_door.call (ok_is_door T) hr rfl (pa_cons (pv 2) (pa_cons (pv 1) pa_nil)))) pa_nil))))), ?_⟩
    have hl : as.length = ds.length := by rw [ha.2.1, List.length_map]
    refine ⟨_, rfl, _, _, _, _, true, rfl, .ty _, .base (.tup ha.1), kit_ty (by decide +kernel), true, rfl, iteF ?_⟩
    refine ⟨_, rfl, _, _, rfl, .inr (SqT.of ha.1), _, _, rfl, rfl, false, bl_f (by rw [List.length_map]; omega), iteF ?_⟩
    refine ⟨_, rfl, _, rfl, ⟨_, SqT.of ha.1⟩, fun D hD => lct (List.replicate ds.length (V.bl true)) (SqT.of ha.1) hD (by simp [hl]) (by rw [List.length_replicate]; exact len_line (by omega)) (fun i x y H' Nx No hx hy s1 hn => ?_) (fun H' s1 hH => ?_)⟩
    · rw [rep_at hy] at hn
      obtain ⟨p, vs, rfl, h1, h2, h3⟩ := ha.item hx
      rw [List.getElem?_map] at h2
      cases e : ds[i]? with
      | none => rw [e] at h2; cases h2
      | some d =>
        rw [e] at h2
        cases h2
        exact ⟨rfl, _, rfl, _, rfl, p, R, d, rfl, s1 _ _ h3, hds d (List.mem_of_getElem? e), fun H4 s4 => hn _ s4⟩
    · rw [rep_map] at hH
      refine ⟨D, _, rfl, SqL.of hH, ?_⟩
      rw [all_true (by simp)]
      exact k _ s1
end
end PR
/-! text Wk -/
set_option Elab.async false
set_option linter.all false
set_option maxRecDepth 100000
set_option maxHeartbeats 4000000
/-! dicts with whole numbers from 0 as keys -/
namespace PR
open PySem PySem.Spec PyProof.Rows L2
abbrev ik (r : Nat) : Key := .inl (r : Int)
theorem ik_inj {r s : Nat} (h : ik r = ik s) : r = s := by
  have := Sum.inl.inj h
  omega
def mp (f : Nat → V) (ks : List Nat) : List (Key × V) := ks.map fun r => (ik r, f r)
theorem mp_len (f : Nat → V) (ks : List Nat) : (mp f ks).length = ks.length := List.length_map _
theorem mp_val (f : Nat → V) (r : Nat) : ∀ ks : List Nat, valV (mp f ks) (ik r) = if r ∈ ks then some (f r) else none
  | [] => rfl
  | s :: ks => by
    show valV ((ik s, f s) :: mp f ks) (ik r) = _
    by_cases e : s = r
    · subst e
      rw [valV_pos rfl, if_pos (by simp)]
    · rw [valV_neg (fun z => e (ik_inj z)), mp_val f r ks]
      by_cases h : r ∈ ks
      · rw [if_pos h, if_pos (by simp [h])]
      · rw [if_neg h, if_neg (by simp [h]; exact fun z => e z.symm)]
theorem mp_in {f : Nat → V} {r : Nat} {ks : List Nat} (h : r ∈ ks) : valV (mp f ks) (ik r) = some (f r) := by rw [mp_val, if_pos h]
theorem mp_out {f : Nat → V} {r : Nat} {ks : List Nat} (h : r ∉ ks) : valV (mp f ks) (ik r) = none := by rw [mp_val, if_neg h]
theorem mp_put {f : Nat → V} {r : Nat} {ks : List Nat} (h : r ∉ ks) : putK (mp f ks) (ik r) (f r) = mp f (ks ++ [r]) := by
  rw [putK_new _ (mp_out h)]
  unfold mp
  rw [List.map_append]
  rfl
theorem mp_cong {f g : Nat → V} {ks : List Nat} (h : ∀ r ∈ ks, f r = g r) : mp f ks = mp g ks :=
  List.map_congr_left fun r hr => by rw [h r hr]
theorem nd_len {ks : List Nat} {R : Nat} (hn : ks.Nodup) (hl : ∀ x ∈ ks, x < R) : ks.length ≤ R := by
  have := hn.length_le_of_subset (l₂ := List.range R) fun x hx => List.mem_range.mpr (hl x hx)
  simpa using this
theorem nd_snoc {ks : List Nat} {r : Nat} (hn : ks.Nodup) (h : r ∉ ks) : (ks ++ [r]).Nodup := by
  rw [List.nodup_append]
  refine ⟨hn, by simp, ?_⟩
  intro a ha b hb
  rw [List.mem_singleton] at hb
  subst hb
  exact fun e => h (e ▸ ha)
end PR
/-! text Ws1 -/
set_option Elab.async false
set_option linter.all false
set_option maxRecDepth 100000
set_option maxHeartbeats 1000000
/-! the table of a set of 1, 2, .., i: each key sits at its own place -/
namespace PR
open PySem PySem.Spec PyProof.Rows L2
abbrev seg (i : Nat) : List Nat := List.range' 1 i
theorem mem_seg {i x : Nat} : x ∈ seg i ↔ 1 ≤ x ∧ x ≤ i := by
  rw [List.mem_range'_1]
  omega
theorem seg_succ (i : Nat) : seg (i + 1) = seg i ++ [i + 1] := by
  show List.range' 1 (i + 1) = _
  rw [← List.range'_append_1 (s := 1) (m := i) (n := 1), Nat.add_comm 1 i]
  rfl
theorem ris_seg (i : Nat) : Ris (seg i) := List.pairwise_lt_range'
theorem seg_get {i k : Nat} (h : k < i) : (seg i)[k]? = some (k + 1) := by
  rw [List.getElem?_range' h]
  congr 1
  omega
theorem bits_nat {k : Nat} (h : k < 2 ^ 64) : SetTable.bits (k : Int) = k := by
  unfold SetTable.bits
  omega
theorem probe_free {t : SetTable} (f : Nat → Int) (h : Int) (hd : t.dummies = #[]) (hj : SetTable.bits h % (t.mask + 1) ∉ t.place.toList) :
    t.probe f h (t.probeStart h) = some (.empty (SetTable.bits h % (t.mask + 1)) none) := by
  unfold SetTable.probe
  obtain ⟨n, en⟩ : ∃ n, 10 * SetTable.turns t.mask = n + 1 := ⟨10 * t.mask + 149, by unfold SetTable.turns; omega⟩
  rw [en]
  show (match t.slot (SetTable.bits h % (t.mask + 1)) with
      | .empty => some (SetTable.Met.empty (SetTable.bits h % (t.mask + 1)) none)
      | .dummy => _
      | .live i => _) = _
  rw [slot_empty hd hj]
theorem below_seg {xs : Array Nat} {i : Nat} (h : xs.toList = seg i) : SetTable.below xs (i + 1) = i := by
  have r : Ris xs.toList := by rw [h]; exact ris_seg i
  obtain ⟨c1, c2, c3⟩ := below_cut r (i + 1)
  have hs : xs.size = i := by rw [← Array.length_toList, h, List.length_range']
  generalize SetTable.below xs (i + 1) = p at c1 c2 c3
  by_cases c : p < i
  · have := c3 p (p + 1) (by rw [h]; exact seg_get c) (Nat.le_refl _)
    omega
  · omega
theorem below_seg0 {xs : Array Nat} {i : Nat} (h : xs.toList = seg i) : SetTable.below xs 0 = 0 := below_zero (by rw [h]; exact ris_seg i)
/-- the mask when i keys are in -/
def mk (i : Nat) : Nat := if i < 5 then 7 else if i < 19 then 31 else if i < 77 then 127 else if i < 307 then 511 else if i < 1229 then 2047 else if i < 4915 then 8191 else 32767
theorem mk_le (i : Nat) (h : i < 5000) : i + 1 ≤ mk i ∧ mk i % 2 = 1 ∧ mk i ≤ 32767 := by
  unfold mk
  repeat' split
  all_goals omega
theorem mk_next : ∀ i ∈ List.range 4999, (if (i + 1) * 5 ≥ mk i * 3 then SetTable.sizeAbove (SetTable.grown (i + 1)) - 1 = mk (i + 1) ∧ SetTable.sizeAbove (SetTable.grown (i + 1)) ≤ 32768 else mk (i + 1) = mk i) := by decide +kernel
/-- the table when 1 .. i are in -/
structure GT (t : SetTable) (i m : Nat) : Prop where
  pl : t.place.toList = seg i
  dm : t.dummies = #[]
  ms : t.mask = m
  pn : t.plain = true
theorem GT.size {t : SetTable} {i m : Nat} (g : GT t i m) : t.place.size = i := by rw [← Array.length_toList, g.pl, List.length_range']
theorem GT.fill {t : SetTable} {i m : Nat} (g : GT t i m) : t.fill = i := by
  unfold SetTable.fill
  rw [g.dm, g.size]
  rfl
theorem GT.fits {t : SetTable} {i m : Nat} (g : GT t i m) (h : i ≤ m) : t.fits i = true := by
  unfold SetTable.fits
  rw [g.size, g.fill, g.ms, beq_self_eq_true, Bool.true_and]
  exact decide_eq_true h
theorem GT.put {t : SetTable} {i m : Nat} (g : GT t i m) : (t.put (i + 1)).2 = i ∧ GT (t.put (i + 1)).1 (i + 1) m ∧ (t.put (i + 1)).1.led = t.led := by
  have hb : SetTable.below t.place (i + 1) = i := below_seg g.pl
  refine ⟨hb, ⟨?_, put_dm g.dm _, g.ms, g.pn⟩, rfl⟩
  rw [put_place, hb, g.pl, seg_succ, List.take_of_length_le (by rw [List.length_range']; omega), List.drop_of_length_le (by rw [List.length_range']; omega)]
/-! ### laid anew -/
structure OwG (m k : Nat) (owner : Array (Option Nat)) : Prop where
  sz : owner.size = m + 1
  at_ : ∀ j, j ≤ m → oAt owner j = if 1 ≤ j ∧ j ≤ k then some (j - 1) else none
theorem OwG.init (m : Nat) : OwG m 0 (Array.replicate (m + 1) none) := ⟨by simp, fun j hj => by rw [oAt_init hj, if_neg (by omega)]⟩
theorem free_now {m : Nat} {owner : Array (Option Nat)} {i b : Nat} (h : oAt owner i = none) : SetTable.layClean.free m owner (SetTable.turns m) i b = some i := by
  have := free_spec m owner (SetTable.turns m) 0 i b 0 (by unfold SetTable.turns; omega) (Nat.le_refl _) (fun k hk => absurd hk (Nat.not_lt_zero _)) (by show (oAt owner i).isNone = true; rw [h]; rfl)
  exact this
theorem OwG.step {m k : Nat} {owner : Array (Option Nat)} (W : OwG m k owner) (hk : k + 1 ≤ m) (hm : m < 2 ^ 32) : stepF m (some (owner, k)) ((k + 1 : Nat) : Int) = some (owner.setIfInBounds (k + 1) (some k), k + 1) ∧ OwG m (k + 1) (owner.setIfInBounds (k + 1) (some k)) := by
  have eb : SetTable.bits ((k + 1 : Nat) : Int) % (m + 1) = k + 1 := by
    rw [bits_nat (by omega), Nat.mod_eq_of_lt (by omega)]
  refine ⟨?_, by rw [Array.size_setIfInBounds]; exact W.sz, fun j hj => ?_⟩
  · refine stepF_some ?_
    rw [eb]
    refine free_now ?_
    rw [W.at_ _ hk, if_neg (by omega)]
  · by_cases c : j = k + 1
    · subst c
      rw [oAt_set_self _ (by rw [W.sz]; omega), if_pos (by omega)]
      rfl
    · rw [oAt_set_ne _ c, W.at_ j hj]
      by_cases c2 : 1 ≤ j ∧ j ≤ k
      · rw [if_pos c2, if_pos (by omega)]
      · rw [if_neg c2, if_neg (by omega)]
theorem fold_seg {m : Nat} (hm : m < 2 ^ 32) : ∀ n, n ≤ m → ∃ owner, ((seg n).map fun (x : Nat) => (x : Int)).foldl (stepF m) (some (Array.replicate (m + 1) none, 0)) = some (owner, n) ∧ OwG m n owner
  | 0, _ => ⟨_, rfl, OwG.init m⟩
  | n + 1, h => by
    obtain ⟨owner, e, W⟩ := fold_seg hm n (by omega)
    obtain ⟨e2, W2⟩ := W.step h hm
    refine ⟨_, ?_, W2⟩
    rw [seg_succ, List.map_append, List.foldl_append, e]
    exact e2
theorem fm_congr {α β : Type} {f g : α → Option β} : ∀ {l : List α}, (∀ x ∈ l, f x = g x) → l.filterMap f = l.filterMap g
  | [], _ => rfl
  | x :: l, h => by
    have e := h x List.mem_cons_self
    have ih := fm_congr (f := f) (g := g) (l := l) fun y hy => h y (List.mem_cons_of_mem _ hy)
    simp only [List.filterMap_cons, e, ih]
theorem live_seg {m n : Nat} {owner : Array (Option Nat)} (W : OwG m n owner) (h : n ≤ m) : liveOf m owner = (seg n).map fun j => (j, j - 1) := by
  have e0 : liveOf m owner = (List.range (m + 1)).filterMap fun j => if 1 ≤ j ∧ j ≤ n then some (j, j - 1) else none := by
    unfold liveOf
    refine fm_congr fun j hj => ?_
    have hj : j < m + 1 := List.mem_range.mp hj
    rw [oAt_none (by rw [W.sz]; exact hj), W.at_ j (by omega)]
    by_cases c : 1 ≤ j ∧ j ≤ n
    · rw [if_pos c, if_pos c]
      rfl
    · rw [if_neg c, if_neg c]
      rfl
  rw [e0, List.range_eq_range', show m + 1 = 1 + (n + (m - n)) by omega, ← List.range'_append_1, ← List.range'_append_1, List.filterMap_append, List.filterMap_append]
  have a1 : (List.range' 0 1).filterMap (fun j => if 1 ≤ j ∧ j ≤ n then some (j, j - 1) else none) = [] := List.filterMap_eq_nil_iff.mpr fun j hj => by
    rw [List.mem_range'_1] at hj
    rw [if_neg (by omega)]
  have a2 : (List.range' (0 + 1) n).filterMap (fun j => if 1 ≤ j ∧ j ≤ n then some (j, j - 1) else none) = (seg n).map fun j => (j, j - 1) := by
    rw [← List.filterMap_eq_map]
    refine fm_congr fun j hj => ?_
    rw [List.mem_range'_1] at hj
    rw [if_pos (by omega)]
    rfl
  have a3 : (List.range' (0 + 1 + n) (m - n)).filterMap (fun j => if 1 ≤ j ∧ j ≤ n then some (j, j - 1) else none) = [] := List.filterMap_eq_nil_iff.mpr fun j hj => by
    rw [List.mem_range'_1] at hj
    rw [if_neg (by omega)]
  rw [a1, a2, a3, List.nil_append, List.append_nil]
theorem relaid_seg (t : SetTable) {hs : Array Int} {wanted m n : Nat} (hw : SetTable.sizeAbove wanted - 1 = m) (hm : m < 2 ^ 32) (hn : n ≤ m) (hh : hs.toList = (seg n).map fun (x : Nat) => (x : Int)) (hp : t.plain = true) :
    ∃ t' order, t.relaid hs wanted = some (t', order) ∧ order.toList = List.range n ∧ GT t' n m ∧ t'.led = t.led := by
  obtain ⟨owner, e, W⟩ := fold_seg hm n hn
  have e1 : SetTable.layClean m hs = some owner := by
    rw [layClean_eq, hh, e]
    rfl
  refine ⟨tabOf t m owner, ((liveOf m owner).map (·.2)).toArray, by rw [relaid_eq, hw, e1]; rfl, ?_, ⟨?_, rfl, rfl, hp⟩, rfl⟩
  · show (liveOf m owner).map (·.2) = _
    rw [live_seg W hn, List.map_map, seg, List.range'_eq_map_range, List.map_map]
    refine (List.map_congr_left fun j _ => ?_).trans (List.map_id _)
    show 1 + j - 1 = j
    omega
  · show (liveOf m owner).map (·.1) = _
    rw [live_seg W hn, List.map_map]
    exact List.map_id _
end PR
/-! text Ws2 -/
set_option Elab.async false
set_option linter.all false
set_option maxRecDepth 100000
set_option maxHeartbeats 1000000
/-! the keys 1, 2, .. added one by one -/
namespace PR
open PySem PySem.Spec PyProof.Rows L2
theorem hash_all : ∀ k ∈ List.range 5000, hashInt ((k : Nat) : Int) = (k : Int) := by decide +kernel
theorem hash_nat {k : Nat} (h : k < 5000) : hashInt (k : Int) = k := hash_all k (List.mem_range.mpr h)
abbrev segI (i : Nat) : List Int := (seg i).map fun (x : Nat) => (x : Int)
theorem keys_hash {l : List (Int × Value)} {i : Nat} (g : ∀ e ∈ l, GoodE e) (hk : l.map keyOf = segI i) (hi : i < 5000) : l.map (·.1) = segI i := by
  rw [← hk]
  refine List.map_congr_left fun e he => ?_
  obtain ⟨k, tk, h1, h2⟩ := g e he
  have hm : keyOf e ∈ segI i := by
    rw [← hk]
    exact List.mem_map.mpr ⟨e, he, rfl⟩
  have ek : keyOf e = k := by
    unfold keyOf
    rw [h1]
  obtain ⟨n, hn, en⟩ := List.mem_map.mp hm
  have := mem_seg.mp hn
  rw [h2, ← ek, ← en]
  exact hash_nat (by omega)
theorem slot_new {t : SetTable} {i m : Nat} (g : GT t i m) (hm : i + 1 ≤ m) (h32 : m < 2 ^ 32) : SetTable.bits ((i + 1 : Nat) : Int) % (t.mask + 1) = i + 1 := by
  rw [bits_nat (by omega), g.ms, Nat.mod_eq_of_lt (by omega)]
theorem probe_new {t : SetTable} {i m : Nat} (g : GT t i m) (hm : i + 1 ≤ m) (h32 : m < 2 ^ 32) (f : Nat → Int) : t.probe f ((i + 1 : Nat) : Int) (t.probeStart ((i + 1 : Nat) : Int)) = some (.empty (i + 1) none) := by
  have e := slot_new g hm h32
  have := probe_free (t := t) f ((i + 1 : Nat) : Int) g.dm (by rw [e, g.pl, mem_seg]; omega)
  rw [e] at this
  exact this
theorem layNew_seg {t : SetTable} {i m : Nat} {es : Array (Int × Value)} {x : Value} (g : GT t i m) (hm : i + 1 ≤ m) (h32 : m < 2 ^ 32) (hs : es.size = i) :
    layNew t es ((i + 1 : Nat) : Int) x = (SetTable.insertAt es i (((i + 1 : Nat) : Int), x), (t.put (i + 1)).1, false, false) := by
  have e1 : t.freeSlot ((i + 1 : Nat) : Int) = some (i + 1, false) := by
    unfold SetTable.freeSlot
    rw [probe_new g hm h32]
    rfl
  obtain ⟨p1, p2, _⟩ := g.put
  have hz : (SetTable.insertAt es i (((i + 1 : Nat) : Int), x)).size = i + 1 := by
    rw [← Array.length_toList, SetTable.toList_insertAt, List.length_append, List.length_cons, List.length_take, List.length_drop, Array.length_toList]
    omega
  have hf : (t.put (i + 1)).1.fits (i + 1) = true := p2.fits hm
  unfold layNew
  rw [e1]
  show (SetTable.insertAt es (t.put (i + 1)).2 _, (t.put (i + 1)).1.orStandIn (SetTable.insertAt es (t.put (i + 1)).2 _).size, false, !(t.put (i + 1)).1.fits (SetTable.insertAt es (t.put (i + 1)).2 _).size) = _
  rw [p1, hz, hf]
  unfold SetTable.orStandIn
  rw [if_pos hf]
  rfl
theorem ins_keys {es : Array (Int × Value)} {i : Nat} {x : Int × Value} (hs : es.size = i) : (SetTable.insertAt es i x).toList = es.toList ++ [x] := by
  rw [SetTable.toList_insertAt, List.take_of_length_le (by rw [Array.length_toList]; omega), List.drop_of_length_le (by rw [Array.length_toList]; omega)]
theorem order_id {es : Array (Int × Value)} {order : Array Nat} {n : Nat} (hs : es.size = n) (ho : order.toList = List.range n) : order.filterMap (es[·]?) = es := by
  apply Array.ext'
  rw [Array.toList_filterMap, ho, ← hs]
  exact filterMap_getElem?_range es
theorem relayAll_seg {t : SetTable} {n m m' : Nat} {es : Array (Int × Value)} {wanted : Nat} (g : GT t n m) (hs : es.size = n) (hk : es.toList.map (·.1) = segI n) (hw : SetTable.sizeAbove wanted - 1 = m') (hm : m' < 2 ^ 32) (hn : n ≤ m') :
    ∃ t', relayAll t es wanted = (es, t', false) ∧ GT t' n m' ∧ t'.led = t.led := by
  obtain ⟨t', order, e, ho, g', hl⟩ := relaid_seg t (hs := es.map (·.1)) hw hm hn (by rw [Array.toList_map]; exact hk) g.pn
  refine ⟨t', ?_, g', hl⟩
  have hc : coversAll order es.size = true := by
    unfold coversAll
    rw [ho, hs]
    exact List.isPerm_iff.mpr (List.Perm.refl _)
  have hf : t'.fits es.size = true := by
    rw [hs]
    exact g'.fits hn
  unfold relayAll
  rw [e]
  show (if (coversAll order es.size && t'.fits (order.filterMap (es[·]?)).size) = true then _ else _) = _
  rw [order_id hs ho, hc, hf]
  rfl
/-- the set of 1 .. i at a -/
def SetG (h : Heap) (a : Addr) (i : Nat) : Prop :=
  ∃ o es ep t, h.get? a = some o ∧ o.ExactSet ∧ o.data = .set es ep t ∧ (∀ e ∈ es.toList, GoodE e) ∧ es.toList.map keyOf = segI i ∧ GT t i (mk i)
theorem SetG.at {h h' : Heap} {a : Addr} {i : Nat} (R : SetG h a i) (k : ∀ o, h.get? a = some o → h'.get? a = some o) : SetG h' a i := by
  obtain ⟨o, es, ep, t, ho, r⟩ := R
  exact ⟨o, es, ep, t, k _ ho, r⟩
section
variable {P : Program} {w : World} {A : Around} {E : Value → Shared → Prop} {s : Shared} {a : Addr}
theorem addG_tail {g : Bool → Sem Unit} {i : Nat} {o : Obj} {es es1 : Array (Int × Value)} {ep : Nat} {t t1 : SetTable} (hg : ∀ (s₁ : Shared) (Q' : Unit → Shared → Prop), Q' () s₁ → wpAny (model P w) A (g false) Q' E s₁)
    (ho : s.heap.get? a = some o) (hex : o.ExactSet) (hd : o.data = .set es ep t) (hi : i < 4999) (g1 : ∀ e ∈ es1.toList, GoodE e) (hk : es1.toList.map keyOf = segI (i + 1)) (hs : es1.size = i + 1) (gt : GT t1 (i + 1) (mk i)) {R : Option Bool → Shared → Prop}
    (hR : ∀ h', Heap.SameBut a s.heap h' → SetG h' a (i + 1) → R (some true) { s with heap := h' }) :
    wpAny (model P w) A (do
        storeSet a es1 t1
        if (!false && t1.tooFull) = true then do
            g (relayAll t1 es1 (SetTable.grown es1.size)).2.2
            storeSet a (relayAll t1 es1 (SetTable.grown es1.size)).1 (relayAll t1 es1 (SetTable.grown es1.size)).2.1
            pure (some true)
          else pure (some true)) R E s := by
  have hsz := sizeLine_eq
  have nx := mk_next i (List.mem_range.mpr hi)
  refine wpAny_bind (wpAny_storeSet_of ho hd ?_ (by omega))
  have ho1 := store_at (es' := es1) (t' := t1) ho hd
  have sb1 := Heap.SameBut.update s.heap a (Obj.putSet es1 t1)
  have hf : t1.tooFull = decide ((i + 1) * 5 ≥ mk i * 3) := by
    unfold SetTable.tooFull
    rw [gt.fill, gt.ms]
  by_cases c : (i + 1) * 5 ≥ mk i * 3
  · rw [if_pos c] at nx
    have hml := mk_le (i + 1) (by omega)
    obtain ⟨t', e, g', _⟩ := relayAll_seg (wanted := SetTable.grown (i + 1)) gt hs (keys_hash g1 hk (by omega)) nx.1 (by omega) (by omega)
    rw [← hs] at e
    rw [hf, decide_eq_true c, e, if_pos (by rfl)]
    refine wpAny_bind (hg _ _ ?_)
    refine wpAny_bind (wpAny_storeSet_of ho1 rfl ?_ (by show es1.size ≤ sizeLine; omega))
    have ho2 := store_at (es' := es1) (t' := t') ho1 rfl
    exact wpAny_pure (hR _ (sb1.trans (Heap.SameBut.update _ a _)) ⟨_, es1, _, t', ho2, hex, rfl, g1, hk, g'⟩)
  · rw [if_neg c] at nx
    rw [hf, decide_eq_false c, if_neg (by simp)]
    rw [← nx] at gt
    exact wpAny_pure (hR _ sb1 ⟨_, es1, _, t1, ho1, hex, rfl, g1, hk, gt⟩)
theorem addG_scan {i : Nat} {tk : Tok} {Q : Bool → Shared → Prop} (R : SetG s.heap a i) (hi : i < 4096) (hQ : ∀ h', Heap.SameBut a s.heap h' → SetG h' a (i + 1) → Q true { s with heap := h' }) :
    wpAny (model P w) A (setAddHashed a (.int ((i + 1 : Nat) : Int) tk) ((intKind P w).hash ((i + 1 : Nat) : Int))) Q E s := by
  obtain ⟨o, es, ep, t, ho, hex, hd, g, hk, gt⟩ := R
  have hml := mk_le i (by omega)
  have hs : es.size = i := by
    have := congrArg List.length hk
    rw [List.length_map, List.length_map, List.length_range', Array.length_toList] at this
    exact this
  have hf : t.fits es.size = true := by
    rw [hs]
    exact gt.fits (by omega)
  have hkey : (intKind P w).is ((i + 1 : Nat) : Int) (.int ((i + 1 : Nat) : Int) tk) = true := intKind_is P w _ tk
  have hsc : (Value.int ((i + 1 : Nat) : Int) tk).scannable = true := rfl
  have hel : ElemsOf (intKind P w) es.toList := good_elems g
  have hb : es.size < scanBound := by
    rw [hs]
    exact hi
  have eh : (intKind P w).hash ((i + 1 : Nat) : Int) = ((i + 1 : Nat) : Int) := hash_nat (by omega)
  unfold setAddHashed setAddHashedIn
  refine wpAny_holding (wpAny_bind (wpAny_setState_of ho hd hf ?_))
  dsimp only
  rw [byScan_of hsc hb hel]
  simp only [↓reduceIte]
  unfold setAddByScan
  refine wpAny_bind ?_
  refine wpAny_bind (wpAny_rule ?_)
  refine wpAny_bind (wpAny_setScan_of hkey ho hd hf hel ?_)
  cases hfi : List.findIdx? (fun e => (intKind P w).is ((i + 1 : Nat) : Int) e.2) es.toList with
  | some j =>
    exfalso
    obtain ⟨hj, pj, _⟩ := List.findIdx?_eq_some_iff_getElem.mp hfi
    have hm := (good_mem (P := P) (w := w) g _).2 ⟨es.toList[j], List.getElem_mem hj, pj⟩
    rw [hk] at hm
    obtain ⟨n, hn, en⟩ := List.mem_map.mp hm
    have := mem_seg.mp hn
    omega
  | none =>
    dsimp only
    have hgw : ∀ (b : Bool) {s₁ : Shared} {Q' : Unit → Shared → Prop}, Q' () s₁ → wpAny (model P w) A (match b with | true => rule "set.scan.the-table-gave-way" | false => pure ()) Q' E s₁ :=
      fun b s₁ Q' q => by cases b <;> first | exact wpAny_pure q | exact wpAny_rule q
    rw [eh, layNew_seg gt hml.1 (by omega) hs]
    dsimp only
    obtain ⟨_, gp, _⟩ := gt.put
    have il := ins_keys (x := (((i + 1 : Nat) : Int), Value.int ((i + 1 : Nat) : Int) tk)) hs
    generalize SetTable.insertAt es i (((i + 1 : Nat) : Int), Value.int ((i + 1 : Nat) : Int) tk) = es1 at il
    generalize (t.put (i + 1)).1 = t1 at gp
    refine wpAny_bind (wpAny_pure ?_)
    rw [if_pos gp.pn]
    refine wpAny_bind ?_
    rw [hashByValue_scannable 8 hsc]
    refine wpAny_pure ?_
    refine addG_tail (i := i) ?_ ho hex hd (by omega) ?_ ?_ ?_ gp ?_
    · intro s₁ Q' q
      exact wpAny_pure q
    · intro e he
      rw [il] at he
      rcases List.mem_append.mp he with z | z
      · exact g e z
      · rw [List.mem_singleton.mp z]
        exact ⟨_, tk, rfl, (hash_nat (by omega)).symm⟩
    · rw [il, List.map_append, hk, segI, segI, seg_succ, List.map_append]
      rfl
    · rw [← Array.length_toList, il, List.length_append, Array.length_toList, hs]
      rfl
    · intro h' sb r
      dsimp only
      exact wpAny_pure (hQ h' sb r)
end
end PR
/-! text Ws3 -/
set_option Elab.async false
set_option linter.all false
set_option maxRecDepth 100000
set_option maxHeartbeats 1000000
/-! keys added to a set of 4096 and more -/
namespace PR
open PySem PySem.Spec PyProof.Rows L2
section
variable {P : Program} {w : World} {A : Around} {E : Value → Shared → Prop} {s : Shared} {a : Addr}
theorem search_new {o : Obj} {es : Array (Int × Value)} {ep : Nat} {t : SetTable} {x : Value} {z : Int} {Q : SetFound → Shared → Prop} (ho : s.heap.get? a = some o) (hd : o.data = .set es ep t) (hf : t.fits es.size = true) (odd : t.mask % 2 = 1) (dm : t.dummies = #[])
    (hj : SetTable.bits z % (t.mask + 1) ∉ t.place.toList) (hQ : Q (.free (SetTable.bits z % (t.mask + 1)) false) s) : wpAny (model P w) A (setSearch a x z true) Q E s := by
  have hgw : ¬ t.gaveWay = true := by
    unfold SetTable.gaveWay
    rw [odd]
    decide
  unfold setSearch
  rw [show (100000 : Nat) = 99999 + 1 from rfl, setSearchFrom_succ]
  refine wpAny_bind (wpAny_setState_of ho hd hf ?_)
  dsimp only
  refine wp_if_neg hgw ?_
  try refine wpAny_bind (wpAny_pure ?_)
  rw [show (none : Option SetTable.Probe).getD (t.probeStart z) = t.probeStart z from rfl, probe_free _ z dm hj]
  dsimp only
  exact wpAny_pure hQ
theorem add_search {o : Obj} {es : Array (Int × Value)} {ep : Nat} {t : SetTable} {k z : Int} {tk : Tok} {Q : Bool → Shared → Prop} (ho : s.heap.get? a = some o) (hd : o.data = .set es ep t) (hs : 4096 ≤ es.size) (hz : es.size + 1 ≤ sizeLine) (hf : t.fits es.size = true) (odd : t.mask % 2 = 1) (dm : t.dummies = #[])
    (pn : t.plain = true) (hj : SetTable.bits z % (t.mask + 1) ∉ t.place.toList)
    (hQ : wpAny (model P w) A (do
      if (!false && (t.put (SetTable.bits z % (t.mask + 1))).1.tooFull) = true then setRelay a (SetTable.grown (es.size + 1))
      return true) Q E { s with heap := s.heap.update a (Obj.putSet (SetTable.insertAt es (t.put (SetTable.bits z % (t.mask + 1))).2 (z, .int k tk)) (t.put (SetTable.bits z % (t.mask + 1))).1) }) :
    wpAny (model P w) A (setAddHashed a (.int k tk) z) Q E s := by
  unfold setAddHashed
  refine wpAny_holding ?_
  rw [show (100000 : Nat) = 99999 + 1 from rfl, setAddHashedIn_succ]
  refine wpAny_bind (wpAny_setState_of ho hd hf ?_)
  dsimp only
  have nb : ¬ byScan (.int k tk) es = true := by
    unfold byScan scanBound
    rw [decide_eq_false (by omega)]
    simp
  refine wp_if_neg nb ?_
  try refine wpAny_bind (wpAny_pure ?_)
  refine wpAny_bind (search_new ho hd hf odd dm hj ?_)
  dsimp only
  refine wpAny_bind (wpAny_setState_of ho hd hf ?_)
  dsimp only
  generalize SetTable.bits z % (t.mask + 1) = j at hQ ⊢
  have hp1 : (t.put j).1.plain = true := pn
  generalize hpt : t.put j = pt at hQ hp1 ⊢
  obtain ⟨t1, p⟩ := pt
  dsimp only at hQ hp1 ⊢
  have hsz : (SetTable.insertAt es p (z, Value.int k tk)).size = es.size + 1 := by
    have := (SetTable.insertAt_perm es p (z, Value.int k tk)).length_eq
    rw [Array.length_toList, Array.length_toList, Array.size_push] at this
    exact this
  refine wp_if_pos hp1 ?_
  rw [hashBy_int]
  refine wpAny_bind (wpAny_pure ?_)
  simp only [if_true]
  refine wpAny_bind (wpAny_storeSet_of ho hd ?_ (by rw [hsz]; exact hz))
  exact hQ
theorem relayG {i m m' : Nat} {wanted : Nat} {o : Obj} {es : Array (Int × Value)} {ep : Nat} {t : SetTable} {Q : Unit → Shared → Prop} (ho : s.heap.get? a = some o) (hd : o.data = .set es ep t) (gt : GT t i m) (him : i ≤ m) (hs : es.size = i) (hk : es.toList.map (·.1) = segI i)
    (hw : SetTable.sizeAbove wanted - 1 = m') (hw2 : SetTable.sizeAbove wanted ≤ 32768) (hn : i ≤ m') (hQ : ∀ t', GT t' i m' → Q () { s with heap := s.heap.update a (Obj.putSet es t') }) : wpAny (model P w) A (setRelay a wanted) Q E s := by
  have hsz := sizeLine_eq
  obtain ⟨t', order, e, hor, g', hl⟩ := relaid_seg t (hs := es.map (·.1)) hw (by omega) hn (by rw [Array.toList_map]; exact hk) gt.pn
  have hes := order_id hs hor
  rw [setRelay_eq]
  refine wpAny_bind (wpAny_setState_of ho hd (by rw [hs]; exact gt.fits him) ?_)
  dsimp only
  refine wp_if_neg (by omega) ?_
  try refine wpAny_bind (wpAny_pure ?_)
  rw [e]
  dsimp only
  refine wpAny_bind ?_
  refine wp_if_neg (by rw [hes]; simp) ?_
  try refine wpAny_bind (wpAny_pure ?_)
  refine wpAny_pure ?_
  dsimp only
  rw [hes]
  refine wpAny_storeSet_of ho hd (hQ t' g') (by omega)
theorem addG_search {i : Nat} {tk : Tok} {Q : Bool → Shared → Prop} (R : SetG s.heap a i) (h0 : 4096 ≤ i) (hi : i < 4999) (hQ : ∀ h', Heap.SameBut a s.heap h' → SetG h' a (i + 1) → Q true { s with heap := h' }) :
    wpAny (model P w) A (setAddHashed a (.int ((i + 1 : Nat) : Int) tk) ((intKind P w).hash ((i + 1 : Nat) : Int))) Q E s := by
  obtain ⟨o, es, ep, t, ho, hex, hd, g, hk, gt⟩ := R
  have hsz := sizeLine_eq
  have hml := mk_le i (by omega)
  have nx := mk_next i (List.mem_range.mpr hi)
  have hs : es.size = i := by
    have := congrArg List.length hk
    rw [List.length_map, List.length_map, List.length_range', Array.length_toList] at this
    exact this
  have eh : (intKind P w).hash ((i + 1 : Nat) : Int) = ((i + 1 : Nat) : Int) := hash_nat (by omega)
  have esl := slot_new gt hml.1 (by omega)
  obtain ⟨pp, gp, _⟩ := gt.put
  rw [eh]
  refine add_search ho hd (by omega) (by omega) (by rw [hs]; exact gt.fits (by omega)) (by rw [gt.ms]; exact hml.2.1) gt.dm gt.pn (by rw [esl, gt.pl, mem_seg]; omega) ?_
  rw [esl]
  have il := ins_keys (x := (((i + 1 : Nat) : Int), Value.int ((i + 1 : Nat) : Int) tk)) hs
  rw [pp, hs]
  generalize SetTable.insertAt es i (((i + 1 : Nat) : Int), Value.int ((i + 1 : Nat) : Int) tk) = es1 at il
  generalize (t.put (i + 1)).1 = t1 at gp
  have g1 : ∀ e ∈ es1.toList, GoodE e := by
    intro e he
    rw [il] at he
    rcases List.mem_append.mp he with z | z
    · exact g e z
    · rw [List.mem_singleton.mp z]
      exact ⟨_, tk, rfl, (hash_nat (by omega)).symm⟩
  have hk1 : es1.toList.map keyOf = segI (i + 1) := by
    rw [il, List.map_append, hk, segI, segI, seg_succ, List.map_append]
    rfl
  have hs1 : es1.size = i + 1 := by
    rw [← Array.length_toList, il, List.length_append, Array.length_toList, hs]
    rfl
  have ho1 := store_at (es' := es1) (t' := t1) ho hd
  have sb1 := Heap.SameBut.update s.heap a (Obj.putSet es1 t1)
  have hf : t1.tooFull = decide ((i + 1) * 5 ≥ mk i * 3) := by
    unfold SetTable.tooFull
    rw [gp.fill, gp.ms]
  by_cases c : (i + 1) * 5 ≥ mk i * 3
  · rw [if_pos c] at nx
    rw [hf, decide_eq_true c, if_pos (by rfl)]
    have hml1 := mk_le (i + 1) (by omega)
    refine wpAny_bind (relayG (s := { s with heap := s.heap.update a (Obj.putSet es1 t1) }) ho1 rfl gp hml.1 hs1 (keys_hash g1 hk1 (by omega)) nx.1 nx.2 (by omega) fun t' g' => ?_)
    have ho2 := store_at (es' := es1) (t' := t') ho1 rfl
    exact wpAny_pure (hQ _ (sb1.trans (Heap.SameBut.update _ a _)) ⟨_, es1, _, t', ho2, hex, rfl, g1, hk1, g'⟩)
  · rw [if_neg c] at nx
    rw [hf, decide_eq_false c, if_neg (by simp)]
    rw [← nx] at gp
    exact wpAny_pure (hQ _ sb1 ⟨_, es1, _, t1, ho1, hex, rfl, g1, hk1, gp⟩)
theorem addG {i : Nat} {tk : Tok} {Q : Bool → Shared → Prop} (R : SetG s.heap a i) (hi : i < 4999) (hQ : ∀ h', Heap.SameBut a s.heap h' → SetG h' a (i + 1) → Q true { s with heap := h' }) :
    wpAny (model P w) A (setAddHashed a (.int ((i + 1 : Nat) : Int) tk) ((intKind P w).hash ((i + 1 : Nat) : Int))) Q E s := by
  by_cases c : i < 4096
  · exact addG_scan R c hQ
  · exact addG_search R (by omega) hi hQ
/-- what is left of a made set -/
def SetLeft (h' : Heap) (a : Addr) (n : Nat) : Prop := ∃ o es ep t, h'.get? a = some o ∧ o.ExactSet ∧ o.data = .set es ep t ∧ t.fits es.size = true ∧ es.size = n
theorem addG_last {tk : Tok} {Q : Bool → Shared → Prop} (R : SetG s.heap a 4999) (hQ : ∀ h', Heap.SameBut a s.heap h' → SetLeft h' a 5000 → Q true { s with heap := h' }) :
    wpAny (model P w) A (setAddHashed a (.int 0 tk) ((intKind P w).hash 0)) Q E s := by
  obtain ⟨o, es, ep, t, ho, hex, hd, g, hk, gt⟩ := R
  have hsz := sizeLine_eq
  have hmk : mk 4999 = 32767 := by decide
  rw [hmk] at gt
  have hs : es.size = 4999 := by
    have := congrArg List.length hk
    rw [List.length_map, List.length_map, List.length_range', Array.length_toList] at this
    exact this
  have eh : (intKind P w).hash 0 = 0 := hash_nat (k := 0) (by decide)
  have esl : SetTable.bits 0 % (t.mask + 1) = 0 := by
    rw [show SetTable.bits 0 = 0 by decide, Nat.zero_mod]
  rw [eh]
  refine add_search ho hd (by omega) (by omega) (by rw [hs]; exact gt.fits (by decide)) (by rw [gt.ms]) gt.dm gt.pn (by rw [esl, gt.pl, mem_seg]; omega) ?_
  rw [esl]
  have hes : (SetTable.insertAt es (t.put 0).2 ((0 : Int), Value.int 0 tk)).size = 5000 := by
    have := (SetTable.insertAt_perm es (t.put 0).2 ((0 : Int), Value.int 0 tk)).length_eq
    rw [Array.length_toList, Array.length_toList, Array.size_push, hs] at this
    exact this
  have hp0 : (t.put 0).1.place.size = 5000 := by
    have := (SetTable.insertAt_perm t.place (SetTable.below t.place 0) 0).length_eq
    rw [Array.length_toList, Array.length_toList, Array.size_push, gt.size] at this
    exact this
  have hd0 : (t.put 0).1.dummies = #[] := put_dm gt.dm 0
  have hm0 : (t.put 0).1.mask = 32767 := gt.ms
  have hfl : (t.put 0).1.fill = 5000 := by
    unfold SetTable.fill
    rw [hp0, hd0]
    rfl
  have hf : (t.put 0).1.tooFull = false := by
    unfold SetTable.tooFull
    rw [hfl, hm0]
    decide
  generalize SetTable.insertAt es (t.put 0).2 ((0 : Int), Value.int 0 tk) = es1 at hes ⊢
  generalize (t.put 0).1 = t1 at hp0 hd0 hm0 hfl hf ⊢
  have ho1 := store_at (es' := es1) (t' := t1) ho hd
  have sb1 := Heap.SameBut.update s.heap a (Obj.putSet es1 t1)
  rw [hf, if_neg (by simp)]
  refine wpAny_pure (hQ _ sb1 ⟨_, es1, _, t1, ho1, hex, rfl, ?_, hes⟩)
  unfold SetTable.fits
  rw [hp0, hes, hfl, hm0]
  decide
end
end PR
/-! text Ws4 -/
set_option Elab.async false
set_option linter.all false
set_option maxRecDepth 100000
set_option maxHeartbeats 4000000
/-! set(t), t the one rope of 5000 seats -/
namespace PR
open PySem PySem.Spec PyProof.Rows L2
abbrev grope : List Nat := RK.ropeL 5000 5000
theorem grope_at {i : Nat} (h : i < 5000) : grope[i]? = some (if i < 4999 then i + 1 else 0) := by
  have e : grope[i]? = some (RK.rp 5000 i) := by
    show ((List.range 5000).map (RK.rp 5000))[i]? = _
    rw [List.getElem?_map, List.getElem?_range h]
    rfl
  rw [e]
  unfold RK.rp
  by_cases c : i < 4999
  · rw [if_pos c, if_neg (by rw [Nat.mod_eq_of_lt (by omega)]; omega)]
  · have : i = 4999 := by omega
    subst this
    rfl
/-- what stands when i keys are in -/
def GrG (h : Heap) (a : Addr) (i : Nat) : Prop := if i < 5000 then SetG h a i else SetLeft h a 5000
theorem GrG.at {h h' : Heap} {a : Addr} {i : Nat} (R : GrG h a i) (k : ∀ o, h.get? a = some o → h'.get? a = some o) : GrG h' a i := by
  unfold GrG at R ⊢
  by_cases c : i < 5000
  · rw [if_pos c] at R ⊢
    exact R.at k
  · rw [if_neg c] at R ⊢
    obtain ⟨o, es, ep, t, ho, r⟩ := R
    exact ⟨o, es, ep, t, k _ ho, r⟩
theorem setG_new {h : Heap} {a : Addr} {l : Bool} (ho : h.get? a = some { cls := .type "set", dict := none, data := .set #[] 0 (.fresh 0 0 l) }) : SetG h a 0 :=
  ⟨_, #[], 0, _, ho, ⟨rfl, rfl, rfl⟩, rfl, (fun e he => by simp at he), rfl, ⟨rfl, rfl, rfl, rfl⟩⟩
section
variable {P : Program} {w : World} {A : Around} {E : Value → Shared → Prop} {s : Shared}
theorem addGr {a : Addr} {i : Nat} {k : Nat} {tk : Tok} {Q : Bool → Shared → Prop} (R : GrG s.heap a i) (hi : i < 5000) (hk : grope[i]? = some k) (hQ : ∀ h', Heap.SameBut a s.heap h' → GrG h' a (i + 1) → Q true { s with heap := h' }) :
    wpAny (model P w) A (setAddHashed a (.int (k : Int) tk) ((intKind P w).hash (k : Int))) Q E s := by
  unfold GrG at R
  rw [if_pos hi] at R
  rw [grope_at hi] at hk
  by_cases c : i < 4999
  · rw [if_pos c] at hk
    obtain rfl := Option.some.inj hk
    refine addG R c fun h' sb r => hQ h' sb ?_
    unfold GrG
    rw [if_pos (by omega)]
    exact r
  · rw [if_neg c] at hk
    obtain rfl := Option.some.inj hk
    have e : i = 4999 := by omega
    subst e
    refine addG_last R fun h' sb r => hQ h' sb ?_
    unfold GrG
    rw [if_neg (by omega)]
    exact r
theorem set_update_gr {I : Addr} {fp wr : List Addr} {G : Array GenState → Array GenState → Prop} {Pv : Nat → Value → Prop} {St : Nat → Shared → Prop} {R : Result → Shared → Prop}
    (W : WalksS P w A.in1 I fp wr G 5000 Pv St) (S : Addr) (hSf : S ∉ fp) (hval : ∀ i v, Pv i v → ∃ (k : Nat) (t : Tok), grope[i]? = some k ∧ v = .int (k : Int) t) :
    ∀ (k i : Nat) (s : Shared), 5000 - i = k → i ≤ 5000 → St i s → GrG s.heap S i →
      (∀ s', Moved (S :: wr) G s s' → SetLeft s'.heap S 5000 → R (.ok (.ret .none)) s') →
      codeAny (model P w) A (.builtin "set.update.loop" ⟨[.ref S, .ref I], []⟩) R s := by
  have hSw : S ∉ wr := fun h => hSf (W.sub _ h)
  have hsub : ∀ b ∈ wr, b ∈ S :: wr := fun b hb => List.mem_cons_of_mem _ hb
  intro k
  induction k with
  | zero =>
    intro i s hk' hi hst hS hR
    have hin : i = 5000 := by omega
    subst hin
    refine codeAny_builtin F.entry_set_update_loop ?_
    rw [Around.under_plainId F.plain_set_update_loop _]
    show wpAny _ A.in1 (pyNext (.ref I) >>= _) _ _ s
    refine wpAny_bind (W.done s _ _ hst fun s' hm => ?_)
    show wpAny _ A.in1 (ret Value.none) _ _ s'
    have h2 : GrG s'.heap S 5000 := hS.at fun o e => hm.heap S o hSw e
    exact wpAny_pure (hR s' (hm.mono hsub) h2)
  | succ k ih =>
    intro i s hk' hi hst hS hR
    have hlt : i < 5000 := by omega
    refine codeAny_builtin F.entry_set_update_loop ?_
    rw [Around.under_plainId F.plain_set_update_loop _]
    show wpAny _ A.in1 (pyNext (.ref I) >>= _) _ _ s
    refine wpAny_bind (W.item i s _ _ hlt hst fun v s' hP hst' hm => ?_)
    obtain ⟨z, t, hz, rfl⟩ := hval i v hP
    have hS' : GrG s'.heap S i := hS.at fun o e => hm.heap S o hSw e
    show wpAny _ A.in1 (holding [Value.int z t] (setAdd S (.int z t)) >>= _) _ _ s'
    refine wpAny_bind (wpAny_holding ?_)
    unfold setAdd
    refine wpAny_holding ?_
    refine wpAny_bind ((intKind P w).pyHash (k := (z : Int)) (intKind_is _ _ _ _) ?_)
    refine addGr (s := { s' with toks := s'.toks + 1 }) hS' hlt hz fun h' hsb hS2 => ?_
    refine wpAny_pure ⟨plainId_quiet F.plain_set_update_loop _, ih (i + 1) _ (by omega) hlt (W.frame _ s' _ _ hst' (Nat.le_succ _) fun b hb o e => ?_) hS2 fun s'' hm'' hS'' => ?_⟩
    · rw [hsb.2 b (fun h : b = S => hSf (by rw [← h]; exact hb))]; exact e
    · refine hR s'' (Moved.trans W.gtrans ((hm.mono hsub).then_heap (Nat.le_succ _) fun b o hb e => ?_) hm'') hS''
      rw [hsb.2 b (fun h : b = S => hb (by rw [h]; exact List.mem_cons_self))]; exact e
theorem call_set_gr {l : Addr} {items : Array Value} {Q : Value → Shared → Prop} (hh : A.handled = none) (hl : s.heap.IsTuple l items) (hit : IntsAre items.toList (grope.map fun (n : Nat) => (n : Int)))
    (h : ∀ (h' : Heap) (tk : Nat), SetLeft h' s.heap.objs.size 5000 → (∀ b o, s.heap.get? b = some o → h'.get? b = some o) → Q (.ref s.heap.objs.size) { s with heap := h', toks := tk }) :
    wpAny (model P w) A (call (.type "set") [.ref l]) Q E s := by
  have hisz : items.size = 5000 := by
    have q := IntsAre.length hit
    rw [Array.length_toList, List.length_map, RK.ropeL_len] at q
    exact q
  obtain ⟨c, tl, hmro⟩ := F.called_set.mro
  have hmade := F.called_set.made
  have hsub := F.called_set.sub
  refine wpAny_call (codeAny_of_tree ?_)
  show wpAny _ _ (callAny (.type "set") _) _ _ _
  refine wpAny_pure ⟨Code.quiet_builtin _ (by decide +kernel), codeAny_builtin F.entry_type_call ?_⟩
  rw [Around.under_plain (weight_type_call_type "set" [.ref l] []) rfl]
  have h1 := F.called_set.notType
  have h2 := F.called_set.canCreate
  have hct := F.typeCall_set_1 (.ref l)
  repeat (any_goals (first | assumption | wp_step))

  refine codeAny_mono (code_set_led1 (.ref l) (E := E) (Q₁ := fun obj s₁ => obj = .ref s.heap.objs.size ∧ s₁ = { s with heap := s.heap.push { cls := .type "set", dict := none, data := .set #[] 0 (.fresh 0 0 (!w.params.followText "set-order")) } }) ⟨rfl, rfl⟩) fun r s₁ hr => ?_
  cases r with
  | error e => exact hr
  | ok fl =>
    cases fl with
    | ret obj =>
      obtain ⟨rfl, rfl⟩ := hr
      have hS : (s.heap.push { cls := .type "set", dict := none, data := .set #[] 0 (.fresh 0 0 (!w.params.followText "set-order")) }).get? s.heap.objs.size = some { cls := .type "set", dict := none, data := .set #[] 0 (.fresh 0 0 (!w.params.followText "set-order")) } := Heap.get?_push_size _ rfl
      have hT : Shared.TypeIs { s with heap := s.heap.push { cls := .type "set", dict := none, data := .set #[] 0 (.fresh 0 0 (!w.params.followText "set-order")) } } (.ref s.heap.objs.size) "set" := ⟨_, hS, rfl⟩
      have hli := F.called_set.init.lookup
      have hbi := F.called_set.init.bind (.ref s.heap.objs.size)
      repeat (any_goals (first | assumption | wp_step))

      refine codeAny_mono (codeAny_call_builtin (R := wants (fun r s₂ => r = .none ∧ ∃ h' tk, s₂ = { s with heap := h', toks := tk } ∧ SetLeft h' s.heap.objs.size 5000 ∧
          (∀ b o, s.heap.get? b = some o → h'.get? b = some o)) E) F.called_set.init.plain F.entry_set_init (check_set_init_1 hT ?_)) fun r₂ s₂ hr₂ => ?_
      · obtain ⟨ol, hol, hcl, nl, hdl⟩ := hl
        obtain ⟨ocls, odict, odata, oslots⟩ := ol
        simp only at hcl hdl
        subst hcl; subst hdl
        have hol' : (s.heap.push { cls := .type "set", dict := none, data := .set #[] 0 (.fresh 0 0 (!w.params.followText "set-order")) }).get? l = some { cls := .type "tuple", dict := odict, data := .seq items nl, slots := oslots } := Heap.get?_push_of_some _ hol
        have hsls := F.sub_tuple_set
        have hslf := F.sub_tuple_frozenset
        have hne : (Value.type "tuple" == Value.type "dict") = false := by decide
        have hl1 : (s.heap.push { cls := .type "set", dict := none, data := .set #[] 0 (.fresh 0 0 (!w.params.followText "set-order")) }).IsTuple l items := ⟨_, hol', rfl, nl, rfl⟩
        unfold Builtin.«set.__init__» noKeywords Builtin.Frozenset.updateFrom
        generalize hPI : pyIter = PI
        wp_walk
        subst hPI

        refine wpAny_pyIter_tuple hl1 ?_
        refine wpAny_bind (wpAny_runValue ?_)
        have hlS : l < s.heap.objs.size := Heap.lt_size hol
        have hh3 : A.in1.in1.in1.handled = none := by simp [hh]
        have hz1 : (s.heap.push { cls := .type "set", dict := none, data := .set #[] 0 (.fresh 0 0 (!w.params.followText "set-order")) }).objs.size = s.heap.objs.size + 1 := Heap.size_push ..
        have hneI : l ≠ (s.heap.push { cls := .type "set", dict := none, data := .set #[] 0 (.fresh 0 0 (!w.params.followText "set-order")) }).objs.size := by
          rw [Heap.size_push]; exact Nat.ne_of_lt (Nat.lt_succ_of_lt hlS)
        have hSf : s.heap.objs.size ∉ [(s.heap.push { cls := .type "set", dict := none, data := .set #[] 0 (.fresh 0 0 (!w.params.followText "set-order")) }).objs.size, l] := by
          rw [Heap.size_push]; simp only [List.mem_cons, List.mem_singleton, List.not_mem_nil, or_false, not_or]
          exact ⟨Nat.ne_of_lt (Nat.lt_succ_self _), Nat.ne_of_gt hlS⟩
        have hval : ∀ (i : Nat) (v : Value), items[i]? = some v → ∃ (k : Nat) (t : Tok), grope[i]? = some k ∧ v = .int (k : Int) t := fun i v hv => by
          have hi : i < 5000 := by rw [← hisz]; exact (Array.getElem?_eq_some_iff.mp hv).1
          have hg := grope_at hi
          obtain ⟨t, e⟩ := PyProof.Rows.IntsAre.int_at hit i v (by rw [Array.getElem?_toList]; exact hv)
          refine ⟨_, t, hg, ?_⟩
          rw [e, List.getD_eq_getElem?_getD, List.getElem?_map, hg] <;> rfl
        have WW := (Walks.tuple (prog := P) (w := w) hh3 _ l hneI items).toS
        rw [hisz] at WW
        refine set_update_gr WW s.heap.objs.size
          hSf hval (5000 - 0) 0 _ (by omega) (Nat.zero_le _)
          ⟨⟨_, Heap.get?_push_size _ rfl, rfl, rfl⟩, (hl1.push _)⟩ ?hS0 ?hR
        case hS0 =>
          have hget : ((s.heap.push { cls := .type "set", dict := none, data := .set #[] 0 (.fresh 0 0 (!w.params.followText "set-order")) }).push { cls := .type "tuple_iterator", data := .fields #[.ref l, .int 0 0] }).get? s.heap.objs.size
              = some { cls := .type "set", dict := none, data := .set #[] 0 (.fresh 0 0 (!w.params.followText "set-order")) } := Heap.get?_push_of_some _ hS
          unfold GrG
          rw [if_pos (by decide)]
          exact setG_new hget
        case hR =>
          intro s' hm hS'
          obtain ⟨h', g2, d', tk', os'⟩ := s'
          have eg : g2 = s.gens := hm.gens
          have ed : d' = s.drawn := hm.drawn
          have eo : os' = s.os := hm.os
          subst eg; subst ed; subst eo
          show wpAny _ _ _ _ _ _
          refine wpAny_pure ?_
          show wpAny _ _ (ret Value.none) _ _ _
          refine wpAny_pure ⟨rfl, h', tk', rfl, hS', fun b o e => ?_⟩
          have hb0 : b < s.heap.objs.size := Heap.lt_size e
          have hb1 : b ≠ s.heap.objs.size := Nat.ne_of_lt hb0
          have hb2 : b ≠ (s.heap.push { cls := .type "set", dict := none, data := .set #[] 0 (.fresh 0 0 (!w.params.followText "set-order")) }).objs.size := by
            rw [Heap.size_push]; exact Nat.ne_of_lt (Nat.lt_succ_of_lt hb0)
          exact hm.heap b o (by simp only [List.mem_cons, List.mem_singleton, List.not_mem_nil, or_false, not_or]; exact ⟨hb1, hb2⟩) (Heap.get?_push_of_some _ (Heap.get?_push_of_some _ e))

      · cases r₂ with
        | error e => exact hr₂
        | ok fl₂ =>
          cases fl₂ with
          | ret r =>
            obtain ⟨rfl, h', tk, rfl, hS', hk'⟩ := hr₂
            repeat (any_goals (first | assumption | wp_step))
            exact h _ _ hS' hk'
          | _ => exact hr₂.elim
    | _ => exact hr.elim


end
end PR
/-! text Mjoin -/
set_option linter.all false
/-! a search through the doors: plain lists -/
namespace JN
/-- the newly found ones stand behind, in both -/
def Grow (ks ls ks' ls' : List Nat) : Prop := ∃ zs, ks' = ks ++ zs ∧ ls' = ls ++ zs
theorem Grow.refl (ks ls : List Nat) : Grow ks ls ks ls := ⟨[], by simp, by simp⟩
theorem Grow.trans {a b a' b' a2 b2 : List Nat} (h : Grow a b a' b') (g : Grow a' b' a2 b2) : Grow a b a2 b2 := by
  obtain ⟨z, e1, e2⟩ := h
  obtain ⟨y, e3, e4⟩ := g
  exact ⟨z ++ y, by rw [e3, e1, List.append_assoc], by rw [e4, e2, List.append_assoc]⟩
theorem Grow.snoc (ks ls : List Nat) (r : Nat) : Grow ks ls (ks ++ [r]) (ls ++ [r]) := ⟨[r], rfl, rfl⟩
theorem Grow.mem {ks ls ks' ls' : List Nat} (h : Grow ks ls ks' ls') {x : Nat} (hx : x ∈ ks) : x ∈ ks' := by
  obtain ⟨z, e1, e2⟩ := h
  rw [e1]
  exact List.mem_append_left _ hx
theorem Grow.old {ks ls ks' ls' : List Nat} (h : Grow ks ls ks' ls') {x : Nat} (hx : x ∈ ks') (hn : x ∉ ls') : x ∈ ks ∧ x ∉ ls := by
  obtain ⟨z, e1, e2⟩ := h
  rw [e1] at hx
  rw [e2] at hn
  refine ⟨?_, fun q => hn (List.mem_append_left _ q)⟩
  rcases List.mem_append.mp hx with q | q
  · exact q
  · exact absurd (List.mem_append_right _ q) hn
theorem Grow.len {ks ls ks' ls' : List Nat} (h : Grow ks ls ks' ls') : ks'.length + ls.length = ks.length + ls'.length := by
  obtain ⟨z, e1, e2⟩ := h
  rw [e1, e2, List.length_append, List.length_append]
  omega
theorem Grow.le {ks ls ks' ls' : List Nat} (h : Grow ks ls ks' ls') : ks.length ≤ ks'.length := by
  obtain ⟨z, e1, e2⟩ := h
  rw [e1, List.length_append]
  omega
end JN
/-! text W4 -/
set_option Elab.async false
set_option linter.all false
set_option maxRecDepth 100000
set_option maxHeartbeats 4000000
namespace PR
open PySem PySem.Spec PyProof.Rows L2
/-- what is known and not in the line has its neighbours known -/
def Cl (ds : List Dr) (ks ls : List Nat) : Prop := ∀ d ∈ ds, (d.n ∈ ks → d.n ∉ ls → d.m ∈ ks) ∧ (d.m ∈ ks → d.m ∉ ls → d.n ∈ ks)
theorem cl_all {R : Nat} {ds : List Dr} {ks : List Nat} (h : Cl ds ks []) (c : Conn R ds) (h0 : 0 ∈ ks) : ∀ r, r < R → r ∈ ks := by
  intro r
  induction r using Nat.strongRecOn with
  | ind r ih =>
    intro hr
    rcases Nat.eq_zero_or_pos r with e | e
    · exact e ▸ h0
    · obtain ⟨d, hd, q⟩ := c r e hr
      rcases q with ⟨q1, q2⟩ | ⟨q1, q2⟩
      · have := (h d hd).2 (ih d.m q2 (by omega)) (by simp)
        exact q1 ▸ this
      · have := (h d hd).1 (ih d.n q2 (by omega)) (by simp)
        exact q1 ▸ this
abbrev bt : Nat → V := fun _ => .bl true
/-- the heap in the search -/
structure JH (H : Hp) (A L : Addr) (R : Nat) (H' : Hp) (ks ls : List Nat) : Prop where
  s : Same H H'
  k : H' A = some (.dK (mp bt ks))
  l : H' L = some (.lst (ivs ls))
  nd : ks.Nodup
  lt : ∀ x ∈ ks, x < R
  z : 0 ∈ ks
  sub : ∀ x ∈ ls, x ∈ ks
  ll : ls.length ≤ ks.length
theorem JH.new {H : Hp} {A L : Addr} {R : Nat} {H' : Hp} {ks ls : List Nat} (j : JH H A L R H' ks ls) {p : Addr} {o : HO} (hp : H' p = none) : JH H A L R (upd H' p o) ks ls :=
  ⟨j.s.trans (upd_S hp), upd_S hp _ _ j.k, upd_S hp _ _ j.l, j.nd, j.lt, j.z, j.sub, j.ll⟩
theorem ivs_snoc (l : List Nat) (n : Nat) : ivs l ++ [iv n] = ivs (l ++ [n]) := by simp
theorem JH.add {H : Hp} {A L : Addr} {R : Nat} {H' : Hp} {ks ls : List Nat} (j : JH H A L R H' ks ls) (nA : H A = none) (nL : H L = none) (ne : A ≠ L) {y : Nat} (hy : y < R) (hk : y ∉ ks) :
    JH H A L R (upd (upd H' A (.dK (putK (mp bt ks) (ik y) (.bl true)))) L (.lst (ivs ls ++ [iv y]))) (ks ++ [y]) (ls ++ [y]) :=
  ⟨same_updN (same_updN j.s nA) nL, by rw [upd_ne ne, upd_same, show V.bl true = bt y from rfl, mp_put hk], by rw [upd_same, ivs_snoc], nd_snoc j.nd hk, fun x hx => by
    rcases List.mem_append.mp hx with h | h
    · exact j.lt x h
    · rw [List.mem_singleton] at h
      exact h ▸ hy, List.mem_append_left _ j.z, fun x hx => by
    rcases List.mem_append.mp hx with h | h
    · exact List.mem_append_left _ (j.sub x h)
    · exact List.mem_append_right _ h, by simpa using j.ll⟩
section
variable {P : Program} {w : World} {K : PySem.W.Frag} {mg : Str → Option Value} {base : Heap}
theorem ok_joined_rooms (T : Txt K mg) : FnOk P w K mg base CX0 1 T.joined_rooms.a T.joined_rooms.fd ["doors"] spJoined := by
  refine T.joined_rooms.F.ok sc_joined_rooms (fun vs H Q E h => ?_) (fun cdv A0 outer s H vs Q E hr h => ?_)
  · obtain ⟨a, R, ds, rfl, _⟩ := h
    rfl
  · obtain ⟨a, R, ds, rfl, ⟨as, ha⟩, hds, hR, hR2, hc, k⟩ := h
    have hu := hu_of hr
    have huu := Nat.lt_of_succ_lt hu
    refine ⟨_, PSs.nox (pss_cons (ps_par (i := 1) (j := 2) rfl sc_joined_rooms.nd rfl rfl (by decide) rfl rfl (pa_cons (pe_disp (pps_cons pe_int pe_bl pps_nil) rfl rfl (fun z => by cases z) (by decide)) (pa_cons (pe_lst (pa_cons pe_int pa_nil)) pa_nil)) rfl)
      (pss_cons (ps_while PassesOwn.never (pt_cmpR (op_ne_nil huu) (pv 2) (pe_lst pa_nil) (nomark _)) (pss_cons (ps_set (i := 3) sc_joined_rooms.nd rfl (Or.inl rfl) (pe_bm0 PySem.F.plainAttrs_list PySem.F.slot_list_pop PySem.F.type_list_pop mt_pop (pv 2)))
      (pss_one (ps_for PassesOwn.never rfl (pi_tup (pv 0)) (pg_tup rfl (pgs_cons (pg_name (i := 4) sc_joined_rooms.nd rfl (Or.inl rfl)) (pgs_cons (pg_name (i := 5) sc_joined_rooms.nd rfl (Or.inl rfl)) (pgs_cons (pg_name (i := 6) sc_joined_rooms.nd rfl (Or.inl rfl)) (pgs_cons (pg_name (i := 7) sc_joined_rooms.nd rfl (Or.inl rfl)) pgs_nil))))) (pss_one (ps_for PassesOwn.never rfl (pi_tup (pe_tup (pa_cons (pe_tup (pa_cons (pv 4) (pa_cons (pv 6) pa_nil))) (pa_cons (pe_tup (pa_cons (pv 6) (pa_cons (pv 4) pa_nil))) pa_nil)))) (pg_tup rfl (pgs_cons (pg_name (i := 8) sc_joined_rooms.nd rfl (Or.inl rfl)) (pgs_cons (pg_name (i := 9) sc_joined_rooms.nd rfl (Or.inl rfl)) pgs_nil))) (pss_one (ps_if (PW.pt (pw_and (pt_cmpR op_eq (pv 8) (pv 3) (nomark _)) (pw_and1 (pt_cmp (pc_dnotin hu (pv 9) (pv 1)))))) (pss_cons (ps_dput hu (pv 1) (pv 9) pe_bl rfl)
      (pss_one (ps_expr (pe_bm PySem.F.plainAttrs_list PySem.F.slot_list_append PySem.F.type_list_append mt_append (pv 2) (pa_cons (pv 9) pa_nil))))) pss_nil))))))))
      (pss_one (ps_ret (pv 1))))), ?_⟩
    intro A nA
    refine ⟨upd_same, [(ik 0, V.bl true)], rfl, by decide, ?_⟩
    refine ⟨by decide, fun L nL => ?_⟩
    have nA1 : H A = none := nA
    have hne : A ≠ L := by
      intro e
      subst e
      rw [upd_same] at nL
      cases nL
    have nL1 : H L = none := by
      rw [upd_ne (Ne.symm hne), upd_ne (Ne.symm hne)] at nL
      exact nL
    refine ⟨_, _, rfl, fun m σ H' => ∃ ks ls v3 v4 v5 v6 v7 v8 v9, σ = [some (.ref a), some (.ref A), some (.ref L), v3, v4, v5, v6, v7, v8, v9] ∧ JH H A L R H' ks ls ∧ Cl ds ks ls ∧ m = 2 * (R - ks.length) + ls.length, ⟨_, [0], [0], none, none, none, none, none, none, none, rfl, ⟨?_, ?_, ?_, by simp, ?_, by simp, by simp, by simp⟩, ?_, rfl⟩, ?_⟩
    · exact same_updN (same_updN (upd_S nA) nA) nL1
    · rw [upd_ne hne, upd_same]
      rfl
    · rw [upd_same]
      rfl
    · intro x hx
      rw [List.mem_singleton] at hx
      omega
    · intro d hd
      exact ⟨fun h1 h2 => absurd h1 h2, fun h1 h2 => absurd h1 h2⟩
    rintro m σ H' ⟨ks, ls, v3, v4, v5, v6, v7, v8, v9, rfl, J, C, rfl⟩
    refine ⟨_, rfl, by decide, fun E0 nE => ?_⟩
    have J1 := J.new (o := .lst []) nE
    refine ⟨_, _, _, rfl, rfl, SqL.of J1.l, upd_same, _, rfl, ?_⟩
    rcases List.eq_nil_or_concat ls with e | ⟨ls0, h, e⟩
    · subst e
      refine iteF ⟨_, rfl, ?_⟩
      exact k _ A _ J1.s nA1 J1.k fun r hr => mp_in (cl_all C hc J.z r hr)
    · rw [List.concat_eq_append] at e
      subst e
      have e1 : (!(ivs (ls0 ++ [h])).isEmpty) = true := by simp
      rw [e1]
      refine iteT ⟨_, fun σ' H' q => q, ?_⟩
      refine ⟨_, rfl, .inl ⟨rfl, _, SqL.of J1.l⟩, _, _, iv h, rfl, rfl, J1.l, by simp, ?_⟩
      have hh : h ∈ ks := J.sub h (by simp)
      have J2 : JH H A L R (upd (upd H' E0 (.lst [])) L (.lst (ivs (ls0 ++ [h])).dropLast)) ks ls0 := by
        refine ⟨same_updN J1.s nL1, by rw [upd_ne hne]; exact J1.k, by rw [upd_same]; simp, J.nd, J.lt, J.z, fun x hx => J.sub x (List.mem_append_left _ hx), by have := J.ll; rw [List.length_append] at this; omega⟩
      generalize upd (upd H' E0 (.lst [])) L (.lst (ivs (ls0 ++ [h])).dropLast) = H2 at J2
      have hC0 : ∀ x y, (∃ d ∈ ds, (d.n = x ∧ d.m = y) ∨ (d.m = x ∧ d.n = y)) → x ∈ ks → x ≠ h → x ∉ ls0 → y ∈ ks := by
        rintro x y ⟨d, hd, q⟩ hx hxh hxl
        have hn : x ∉ ls0 ++ [h] := by simp [hxh, hxl]
        rcases q with ⟨rfl, rfl⟩ | ⟨rfl, rfl⟩
        · exact (C d hd).1 hx hn
        · exact (C d hd).2 hx hn
      refine ⟨_, rfl, a, rfl, ⟨_, SqT.of (J2.s _ _ ha.1)⟩, for_tup (K := K) (a := a) (xs := as.map V.ref) (fun i σ H' => ∃ ks' ls' v4 v5 v6 v7 v8 v9, σ = [some (.ref a), some (.ref A), some (.ref L), some (iv h), v4, v5, v6, v7, v8, v9] ∧ JH H A L R H' ks' ls' ∧ JN.Grow ks ls0 ks' ls' ∧
        ∀ j d, j < i → ds[j]? = some d → (d.n = h → d.m ∈ ks') ∧ (d.m = h → d.n ∈ ks'))
        ⟨ks, ls0, _, _, _, _, _, _, rfl, J2, .refl _ _, fun j d hj => absurd hj (by omega)⟩ (fun i σ H' _ p => ?_) ?_ ?_⟩
      · obtain ⟨ks', ls', v4, v5, v6, v7, v8, v9, _, J', _⟩ := p
        exact SqT.of (J'.s _ _ ha.1)
      · rintro i x σ H' hx ⟨ks', ls', v4, v5, v6, v7, v8, v9, rfl, J', G, D⟩
        obtain ⟨p, vs, rfl, h1, h2, h3⟩ := ha.item hx
        rw [List.getElem?_map] at h2
        cases ed : ds[i]? with
        | none => rw [ed] at h2; cases h2
        | some d =>
          rw [ed] at h2
          cases h2
          obtain ⟨dn, dm, _, _⟩ := hds d (List.mem_of_getElem? ed)
          refine ⟨_, _, rfl, SqT.of (J'.s _ _ h3), rfl, _, _, rfl, _, _, rfl, _, _, rfl, _, _, rfl, rfl, ?_⟩
          refine ⟨_, rfl, _, rfl, (show 2 ≤ sizeLine by decide), fun t1 n1 => ⟨_, rfl, _, rfl, (show 2 ≤ sizeLine by decide), fun t2 n2 => ⟨(show 2 ≤ sizeLine by decide), fun t3 n3 => ⟨t3, rfl, ⟨_, SqT.of upd_same⟩, ?_⟩⟩⟩⟩
          have J3 := ((J'.new (o := .tup [iv d.n, iv d.m]) n1).new (o := .tup [iv d.m, iv d.n]) n2).new (o := .tup [.ref t1, .ref t2]) n3
          have e3 : upd (upd (upd H' t1 (.tup [iv d.n, iv d.m])) t2 (.tup [iv d.m, iv d.n])) t3 (.tup [.ref t1, .ref t2]) t3 = some (.tup [.ref t1, .ref t2]) := upd_same
          have e2 : upd (upd (upd H' t1 (.tup [iv d.n, iv d.m])) t2 (.tup [iv d.m, iv d.n])) t3 (.tup [.ref t1, .ref t2]) t2 = some (.tup [iv d.m, iv d.n]) := upd_S n3 _ _ upd_same
          have e1 : upd (upd (upd H' t1 (.tup [iv d.n, iv d.m])) t2 (.tup [iv d.m, iv d.n])) t3 (.tup [.ref t1, .ref t2]) t1 = some (.tup [iv d.n, iv d.m]) := upd_S n3 _ _ (upd_S n2 _ _ upd_same)
          generalize upd (upd (upd H' t1 (.tup [iv d.n, iv d.m])) t2 (.tup [iv d.m, iv d.n])) t3 (.tup [.ref t1, .ref t2]) = H3 at J3 e1 e2 e3
          refine for_tup (K := K) (a := t3) (xs := [.ref t1, .ref t2]) (fun q σ H' => ∃ ks2 ls2 v8 v9, σ = [some (.ref a), some (.ref A), some (.ref L), some (iv h), some (iv d.n), some (.int d.f), some (iv d.m), some (.int d.s), v8, v9] ∧ JH H A L R H' ks2 ls2 ∧ (H' t1 = some (.tup [iv d.n, iv d.m]) ∧ H' t2 = some (.tup [iv d.m, iv d.n]) ∧ H' t3 = some (.tup [.ref t1, .ref t2])) ∧ JN.Grow ks' ls' ks2 ls2 ∧
            (0 < q → d.n = h → d.m ∈ ks2) ∧ (1 < q → d.m = h → d.n ∈ ks2)) ⟨ks', ls', _, _, rfl, J3, ⟨e1, e2, e3⟩, .refl _ _, fun z => absurd z (by omega), fun z => absurd z (by omega)⟩ (fun q σ H' _ p => ?_) ?_ ?_
          · obtain ⟨_, _, _, _, _, _, ⟨_, _, z⟩, _⟩ := p
            exact SqT.of z
          · rintro q x σ H4 hx ⟨ks2, ls2, v8, v9, rfl, J4, ⟨f1, f2, f3⟩, G4, D0, D1⟩
            obtain ⟨t, u, v, rfl, ft, hu2, hv2, hq⟩ : ∃ (t : Addr) (u v : Nat), x = .ref t ∧ H4 t = some (.tup [iv u, iv v]) ∧ u < R ∧ v < R ∧ (q = 0 ∧ u = d.n ∧ v = d.m ∨ q = 1 ∧ u = d.m ∧ v = d.n) := by
              match q, hx with
              | 0, hx => exact ⟨t1, d.n, d.m, (Option.some.inj hx).symm, f1, dn, dm, .inl ⟨rfl, rfl, rfl⟩⟩
              | 1, hx => exact ⟨t2, d.m, d.n, (Option.some.inj hx).symm, f2, dm, dn, .inr ⟨rfl, rfl, rfl⟩⟩
            -- the turn's end
            have fin : ∀ (H5 : Hp) (ks3 ls3 : List Nat), JH H A L R H5 ks3 ls3 → (H5 t1 = some (.tup [iv d.n, iv d.m]) ∧ H5 t2 = some (.tup [iv d.m, iv d.n]) ∧ H5 t3 = some (.tup [.ref t1, .ref t2])) → JN.Grow ks2 ls2 ks3 ls3 → (u = h → v ∈ ks3) →
                ∃ ks2 ls2 v8 v9, [some (V.ref a), some (.ref A), some (.ref L), some (iv h), some (iv d.n), some (.int d.f), some (iv d.m), some (.int d.s), some (iv u), some (iv v)] = [some (V.ref a), some (.ref A), some (.ref L), some (iv h), some (iv d.n), some (.int d.f), some (iv d.m), some (.int d.s), v8, v9] ∧ JH H A L R H5 ks2 ls2 ∧ (H5 t1 = some (.tup [iv d.n, iv d.m]) ∧ H5 t2 = some (.tup [iv d.m, iv d.n]) ∧ H5 t3 = some (.tup [.ref t1, .ref t2])) ∧ JN.Grow ks' ls' ks2 ls2 ∧
                (0 < q + 1 → d.n = h → d.m ∈ ks2) ∧ (1 < q + 1 → d.m = h → d.n ∈ ks2) := by
              intro H5 ks3 ls3 J5 F5 G5 hv
              refine ⟨ks3, ls3, _, _, rfl, J5, F5, G4.trans G5, fun _ e => ?_, fun l e => ?_⟩
              · rcases hq with ⟨rfl, rfl, rfl⟩ | ⟨rfl, rfl, rfl⟩
                · exact hv e
                · exact G5.mem (D0 (by omega) e)
              · rcases hq with ⟨rfl, rfl, rfl⟩ | ⟨rfl, rfl, rfl⟩
                · omega
                · exact hv e
            refine ⟨_, _, rfl, SqT.of ft, rfl, _, _, rfl, _, _, rfl, rfl, ?_⟩
            refine ⟨_, rfl, _, rfl, rfl, _, rfl, ?_⟩
            by_cases e : u = h
            · subst e
              rw [decide_eq_true rfl]
              refine iteT ⟨_, rfl, _, rfl, _, _, rfl, DGet.k (k := ik v) J4.k, _, rfl, ?_⟩
              by_cases hk : v ∈ ks2
              · rw [mp_in hk]
                exact iteF (fin _ _ _ J4 ⟨f1, f2, f3⟩ (.refl _ _) fun _ => hk)
              · rw [mp_out hk]
                refine iteT ⟨_, rfl, _, rfl, _, _, rfl, DPut.k (k := ik v) J4.k (by rw [mp_len]; have := nd_len J4.nd J4.lt; have := sizeLine_eq; omega), ?_⟩
                have hA : ∀ {t : Addr} {xs : List V}, H4 t = some (.tup xs) → upd (upd H4 A (.dK (putK (mp bt ks2) (ik v) (.bl true)))) L (.lst (ivs ls2 ++ [iv v])) t = some (.tup xs) := fun {t xs} e => by
                  rw [upd_ne (ne_of e J4.l (by intro z; cases z)), upd_ne (ne_of e J4.k (by intro z; cases z))]
                  exact e
                have hL : upd H4 A (.dK (putK (mp bt ks2) (ik v) (.bl true))) L = some (.lst (ivs ls2)) := by
                  rw [upd_ne (Ne.symm hne)]
                  exact J4.l
                refine ⟨_, rfl, .inl ⟨rfl, _, SqL.of hL⟩, _, rfl, _, _, _, rfl, rfl, hL, ?_, fin _ _ _ (J4.add nA1 nL1 hne hv2 hk) ⟨hA f1, hA f2, hA f3⟩ (.snoc _ _ _) fun _ => by simp⟩
                have := nd_len J4.nd J4.lt
                have := J4.ll
                have := sizeLine_eq
                rw [List.length_map]
                omega
            · rw [decide_eq_false (fun z => e (by have := V.int.inj z; omega))]
              exact iteF (fin _ _ _ J4 ⟨f1, f2, f3⟩ (.refl _ _) fun z => absurd z e)
          · rintro σ H4 ⟨ks2, ls2, v8, v9, rfl, J4, _, G4, D0, D1⟩
            refine ⟨ks2, ls2, _, _, _, _, _, _, rfl, J4, G.trans G4, fun j d' hj hd' => ?_⟩
            by_cases ej : j = i
            · subst ej
              rw [ed] at hd'
              cases hd'
              exact ⟨D0 Nat.two_pos, D1 (Nat.lt_succ_self 1)⟩
            · obtain ⟨q1, q2⟩ := D j d' (by omega) hd'
              exact ⟨fun z => G4.mem (q1 z), fun z => G4.mem (q2 z)⟩
      · rintro σ H4 ⟨ks', ls', v4, v5, v6, v7, v8, v9, rfl, J', G, D⟩
        have hl1 := nd_len J'.nd J'.lt
        have hl2 := G.len
        have hl3 := G.le
        refine ⟨_, ?_, ks', ls', _, _, _, _, _, _, _, rfl, J', ?_, rfl⟩
        · rw [List.length_append, List.length_singleton]
          omega
        · intro d hd
          obtain ⟨j, hj⟩ := List.mem_iff_getElem?.mp hd
          have hjl : j < (as.map V.ref).length := by
            have := (List.getElem?_eq_some_iff.mp hj).1
            rw [List.length_map, ha.2.1, List.length_map]
            exact this
          obtain ⟨D0, D1⟩ := D j d hjl hj
          refine ⟨fun x1 x2 => ?_, fun x1 x2 => ?_⟩
          · by_cases e : d.n = h
            · exact D0 e
            · obtain ⟨o1, o2⟩ := G.old x1 x2
              exact G.mem (hC0 d.n d.m ⟨d, hd, .inl ⟨rfl, rfl⟩⟩ o1 e o2)
          · by_cases e : d.m = h
            · exact D1 e
            · obtain ⟨o1, o2⟩ := G.old x1 x2
              exact G.mem (hC0 d.m d.n ⟨d, hd, .inr ⟨rfl, rfl⟩⟩ o1 e o2)
end
end PR
/-! text Wr5 -/
set_option Elab.async false
set_option linter.all false
set_option maxRecDepth 100000
set_option maxHeartbeats 4000000
namespace PR
open PySem PySem.Spec PyProof.Rows L2
section
variable {X : Cx}
/-- t == t, a tuple of objects -/
def rEqSame (K : PySem.W.Frag) : R2 := fun x y H Q => ∃ (a : Addr) (as : List Addr), x = .ref a ∧ y = .ref a ∧ SqT K H a (as.map V.ref) ∧ Q (.bl true) H
theorem refs_at : ∀ {as : List Addr} {us : List Value}, Vals (as.map V.ref) us → ∀ (j : Nat) (h : j < us.length), ∃ p, us[j] = .ref p
  | [], _, .nil, j, h => absurd h (by simp)
  | a :: as, _, .cons r t, 0, h => ⟨a, r⟩
  | a :: as, _, .cons r t, j + 1, h => refs_at t j (Nat.lt_of_succ_lt_succ h)
theorem op_eq_same (hu : X.A.units < cLine) : OpR X (compareOp .Eq) (rEqSame X.K) := by
  intro pins s σ H x y v u Q I rx ry h
  obtain ⟨a, as, rfl, rfl, ha, q⟩ := h
  cases rx
  cases ry
  obtain ⟨its, rv, p, _⟩ := I.tuple ha
  refine SeqAt.RcAt.tuples (e := fun _ => true) p p hu (fun j h1 h2 => ?_) X.prog X.w X.xe _ ⟨.bl true, H, I, ?_, q⟩
  · obtain ⟨b, hb⟩ := refs_at rv j (by simpa using h1)
    have : its.toArray[j] = Value.ref b := by simpa using hb
    rw [this]
    exact SeqAt.EqAt.same _
  · show Value.bool _ = Value.bool _
    simp
end
end PR
/-! text W5 -/
set_option Elab.async false
set_option linter.all false
set_option maxRecDepth 100000
set_option maxHeartbeats 4000000
namespace PR
open PySem PySem.Spec PyProof.Rows L2
section
variable {P : Program} {w : World} {K : PySem.W.Frag} {mg : Str → Option Value} {base : Heap}
theorem ok_House_init (T : Txt K mg) : FnOk P w K mg base CX0 5 T.House_init.a T.House_init.fd ["self", "rooms", "doors"] (spHouse T.cHouse) := by
  refine T.House_init.F.ok sc_House_init (fun vs H Q E h => ?_) (fun cdv A0 outer s H vs Q E hr h => ?_)
  · obtain ⟨x, dx, a, R, ds, rfl, _⟩ := h
    rfl
  · obtain ⟨x, dx, a, R, ds, rfl, hx, hd, hds, hz, hR, hR2, hc, k⟩ := h
    have hu := hu_of hr
    obtain ⟨tR, mRooms⟩ := T.cRooms
    refine ⟨_, PSs.nox (pss_cons (ps_if (PW.pt (pw_or (pt_not (pt_val (T.is_number.call (ok_is_number T) (hr.mono (by decide)) rfl (pa_cons (pv 1) pa_nil)))) (pw_or1 (pt_not (pt_chain op_le op_le pe_int (pv 1) (pe_glob (v := .int 12) rfl mRooms ⟨_, rfl⟩)))))) (pss_one ps_never) pss_nil)
      (pss_cons (ps_if (pt_not (pt_val (T.are_doors.call (ok_are_doors T) (hr.mono (by decide)) rfl (pa_cons (pv 2) (pa_cons (pv 1) pa_nil))))) (pss_one ps_never) pss_nil)
      (pss_cons (ps_set (i := 3) sc_House_init.nd rfl (Or.inl rfl) (T.joined_rooms.call (ok_joined_rooms T) (hr.mono (by decide)) rfl (pa_cons (pv 2) pa_nil)))
      (pss_cons (ps_for PassesOwn.never rfl (pi_range1 rfl T.m_range (pa_cons (pv 1) pa_nil)) (pg_name (i := 4) sc_House_init.nd rfl (Or.inl rfl)) (pss_one (ps_if (pt_cmp (pc_dnotin hu (pv 4) (pv 3))) (pss_one ps_never) pss_nil)))
      (pss_cons (ps_fld (pv 0) (pv 1) rfl)
      (pss_one (ps_fld (pv 0) (pv 2) rfl))))))), ?_⟩
    refine ⟨_, rfl, _, rfl, true, rfl, iteF ?_⟩
    refine ⟨_, rfl, _, _, rfl, rfl, true, bl_t (show (1 : Int) ≤ (R : Int) by omega), iteT ⟨_, _, rfl, rfl, true, bl_t (show (R : Int) ≤ 12 by omega), iteF ?_⟩⟩
    refine ⟨_, rfl, _, rfl, a, R, ds, rfl, hd, hds, hz, fun H1 s1 => ⟨true, rfl, iteF ?_⟩⟩
    refine ⟨_, rfl, a, R, ds, rfl, hd.same s1, hds, hR, hR2, hc, fun H2 p kvs s2 np hp hk => ?_⟩
    refine ⟨_, rfl, R, rfl, by omega, by omega, for_range (lo := 0) (n := R) (fun i σ H' => H' = H2 ∧ ∃ v, σ = [some (.ref x), some (iv R), some (.ref a), some (.ref p), v]) ⟨rfl, _, rfl⟩ ?_ ?_⟩
    · rintro i σ H' hi ⟨rfl, v, rfl⟩
      refine ⟨_, rfl, _, rfl, _, _, rfl, DGet.k (k := .inl (0 + (i : Int))) hp, _, rfl, ?_⟩
      rw [show (0 : Int) + (i : Int) = (i : Int) by omega, hk i hi]
      exact iteF ⟨rfl, _, rfl⟩
    · rintro σ H' ⟨rfl, v, rfl⟩
      have e := s2 _ _ (s1 _ _ hx)
      refine ⟨_, rfl, _, rfl, x, T.cHouse, dx, [], rfl, e, T.dHouse.cl, T.nRooms, by decide, ?_⟩
      refine ⟨_, rfl, _, rfl, x, T.cHouse, dx, _, rfl, upd_same, T.dHouse.cl, T.nDoors, (by show 1 < 1000; decide), ?_⟩
      refine k _ upd_same fun b o hb hn => ?_
      rw [upd_ne hn, upd_ne hn]
      exact s2 _ _ (s1 _ _ hb)
theorem ok_House_eq (T : Txt K mg) : FnOk P w K mg base CX0 1 T.House_eq.a T.House_eq.fd ["self", "other"] (spEq (rHouse T.cHouse)) := by
  refine T.House_eq.F.ok sc_House_eq (fun vs H Q E h => ?_) (fun cdv A0 outer s H vs Q E hr h => ?_)
  · obtain ⟨a, b, rfl, _⟩ := h
    rfl
  · obtain ⟨x, y, rfl, ⟨rfl, R, a, ds, ⟨dx, hx⟩, as, hd⟩, k⟩ := h
    have hu := hu_of hr
    have huu := Nat.lt_of_succ_lt hu
    refine ⟨_, PSs.nox (pss_one (ps_ret (pe_and (pe_callB call_isi rfl T.m_isinstance b_isinstance (pa_cons (pv 1) (pa_cons (pe_glob (v := .ref T.cHouse) rfl T.dHouse.g rfl) pa_nil))) (pe_and (pe_cmp (pc_eqI (pe_fld (pv 0) rfl) (pe_fld (pv 1) rfl)) rfl) (pe_one (pe_cmpR (op_eq_same huu) (pe_fld (pv 0) rfl) (pe_fld (pv 1) rfl) (nomark _))))))), ?_⟩
    refine ⟨_, rfl, _, _, _, _, true, rfl, .own _, .base (.ins hx T.dHouse.cl T.dHouse.ha T.hn T.htk T.dHouse.hm), T.dHouse.ki, true, rfl, iteT ?_⟩
    refine ⟨_, rfl, x, T.cHouse, dx, _, _, rfl, hx, T.dHouse.cl, T.nRooms, lk_rooms R a, ?_⟩
    refine ⟨_, rfl, x, T.cHouse, dx, _, _, rfl, hx, T.dHouse.cl, T.nRooms, lk_rooms R a, ?_⟩
    refine ⟨_, _, rfl, rfl, true, bl_t rfl, iteT ?_⟩
    refine ⟨_, rfl, x, T.cHouse, dx, _, _, rfl, hx, T.dHouse.cl, T.nDoors, lk_doors R a, ?_⟩
    refine ⟨_, rfl, x, T.cHouse, dx, _, _, rfl, hx, T.dHouse.cl, T.nDoors, lk_doors R a, ?_⟩
    exact ⟨a, as, rfl, rfl, SqT.of hd.1, k _ fun _ _ h => h⟩
end
end PR
/-! text Wr6 -/
set_option Elab.async false
set_option linter.all false
set_option maxRecDepth 100000
set_option maxHeartbeats 4000000
/-! len(set(t)), t a tuple of the numbers from 0 in some order -/
namespace PR
open PySem PySem.Spec PyProof.Rows L2
abbrev rLenQ (K : PySem.W.Frag) : List V → Hp → VK → Prop := fun xs H Q => ∃ p ys, xs = [.ref p] ∧ (SqL K H p ys ∨ SqT K H p ys) ∧ Q (.int ys.length) H
abbrev i2 (l : List Nat) : List Int := l.map fun (n : Nat) => (n : Int)
theorem i2_ivs (l : List Nat) : ivs l = (i2 l).map V.int := by simp [ivs, i2]
theorem i2_nodup {l : List Nat} (h : l.Nodup) : (i2 l).Nodup := RK.nodup_map h fun a _ b _ e => by omega
section
variable {P : Program} {w : World} {A : Around} {E : Value → Shared → Prop} {s : Shared}
theorem set_small {l : Addr} {items : Array Value} (ns : List Int) {Q : Value → Shared → Prop} (hh : A.handled = none) (hl : s.heap.IsTuple l items) (hit : IntsAre items.toList ns) (hnd : ns.Nodup) (hb : ns.length ≤ 4000)
    (h : ∀ (h' : Heap) (tk : Nat), SetLeft h' s.heap.objs.size ns.length → (∀ b o, s.heap.get? b = some o → h'.get? b = some o) → Q (.ref s.heap.objs.size) { s with heap := h', toks := tk }) :
    wpAny (model P w) A (call (.type "set") [.ref l]) Q E s := by
  refine call_set_tupI ns hh hl hit (by unfold scanBound; omega) fun h' tk c hS hc hk => h h' tk ?_ hk
  obtain ⟨o, es, ep, t, ho, hex, hd, _, h1, h2, _, hf, hn, _⟩ := hS
  refine ⟨o, es, ep, t, ho, hex, hd, hf, ?_⟩
  have p : (es.toList.map keyOf).Perm ns := (List.perm_ext_iff_of_nodup h1 hnd).mpr fun k => by rw [← h2 k, decide_eq_true_eq]
  have := p.length_eq
  rw [List.length_map, Array.length_toList] at this
  exact this
theorem set_great {l : Addr} {items : Array Value} {Q : Value → Shared → Prop} (hh : A.handled = none) (hl : s.heap.IsTuple l items) (hit : IntsAre items.toList (i2 (RK.ropeL 5000 5000)))
    (h : ∀ (h' : Heap) (tk : Nat), SetLeft h' s.heap.objs.size 5000 → (∀ b o, s.heap.get? b = some o → h'.get? b = some o) → Q (.ref s.heap.objs.size) { s with heap := h', toks := tk }) :
    wpAny (model P w) A (call (.type "set") [.ref l]) Q E s := call_set_gr hh hl hit h
theorem set_good {l : Addr} {items : Array Value} {ns : List Nat} {Q : Value → Shared → Prop} (hh : A.handled = none) (hl : s.heap.IsTuple l items) (hit : IntsAre items.toList (i2 ns)) (hp : ns.Perm (List.range ns.length)) (hg : SetGood ns)
    (h : ∀ (h' : Heap) (tk : Nat), SetLeft h' s.heap.objs.size ns.length → (∀ b o, s.heap.get? b = some o → h'.get? b = some o) → Q (.ref s.heap.objs.size) { s with heap := h', toks := tk }) :
    wpAny (model P w) A (call (.type "set") [.ref l]) Q E s := by
  rcases hg with hg | hg
  · refine set_small (i2 ns) hh hl hit (i2_nodup (hp.nodup_iff.mpr List.nodup_range)) (by rw [List.length_map]; exact hg) ?_
    rw [List.length_map]
    exact h
  · subst hg
    refine set_great hh hl hit ?_
    rw [RK.ropeL_len] at h
    exact h
end
section
variable {X : Cx}
def tLenSetT (K : PySem.W.Frag) (ta : TE) : TE := fun σ H Q => ta σ H fun x H1 => ∃ (l : Addr) (ns : List Nat), x = .ref l ∧ SqT K H1 l (ivs ns) ∧ ns.Perm (List.range ns.length) ∧ SetGood ns ∧ Q (iv ns.length) H1
theorem pe_lenSetT {a : Expr} {ta : TE} {p p2 q pos : Pos} (hg : Gl X "len") (hm : X.mg "len" = none) (hg2 : Gl X "set") (hm2 : X.mg "set" = none) (ha : PE X a ta) (hc : X.calm = true := by rfl)
    (na : starEach [a] X.env = (false, eval a X.env) :: starEach [] X.env := by rfl) : PE X (.Call (.Name "len" p) [.Call (.Name "set" p2) [a] [] q] [] pos) (tLenSetT X.K ta) := by
  refine ⟨fun pins s σ H Q I h => ?_⟩
  refine Call_ (ld_blt I hg hm boot_len ?_)
  refine PyProof.Rows.callWith_builtin1 (PyProof.Rows.args_cons ?_ rfl) rfl rfl
  refine Call_ (ld_blt I hg2 hm2 boot_set ?_)
  refine PyProof.Rows.callWith_type1 (PyProof.Rows.args_cons (thn (ha.run pins s σ H _ I h) fun v s1 ⟨x, H1, I1, r1, q1⟩ => PyProof.Rows.args_nil ?_) na) na rfl
  obtain ⟨l, ns, rfl, hq, hp, hgd, q1⟩ := q1
  cases r1
  obtain ⟨its, r, pl, hz⟩ := I1.tuple hq
  have hz2 : ns.length ≤ 5000 := by
    rcases hgd with z | z
    · omega
    · rw [z, RK.ropeL_len]
      omega
  rw [i2_ivs] at r
  refine set_good (ns := ns) (I1.ok.hd hc) pl (by simpa using ints_of_vals r) hp hgd fun h' tk hS hk => ?_
  refine PyProof.Rows.args_nil ?_
  obtain ⟨o, es, ep, t, ho, hex, hd, hf, hn⟩ := hS
  have I2 : Inv X pins σ H1 { s1 with heap := h', toks := tk } := I1.kept hk
  exact call_len_set ho hex hd hf (by rw [hn]; omega) ⟨.int ns.length, H1, I2.tok _, ⟨_, by rw [hn]⟩, q1⟩
end
end PR
/-! text W6 -/
set_option Elab.async false
set_option linter.all false
set_option maxRecDepth 100000
set_option maxHeartbeats 4000000
namespace PR
open PySem PySem.Spec PyProof.Rows L2
theorem perm_lt {l : List Nat} {N : Nat} (h : l.Perm (List.range N)) : ∀ n ∈ l, n < N := fun n hn => List.mem_range.mp (h.mem_iff.mp hn)
theorem perm_len {l : List Nat} {N : Nat} (h : l.Perm (List.range N)) : l.length = N := by
  have := h.length_eq
  simpa using this
theorem good_le {l : List Nat} (h : SetGood l) : l.length ≤ 5000 := by
  rcases h with z | z
  · omega
  · rw [z, RK.ropeL_len]
    omega
section
variable {P : Program} {w : World} {K : PySem.W.Frag} {mg : Str → Option Value} {base : Heap}
theorem ok_is_arrangement (T : Txt K mg) : FnOk P w K mg base CX0 3 T.is_arrangement.a T.is_arrangement.fd ["value"] spIsArr := by
  refine T.is_arrangement.F.ok sc_is_arrangement (fun vs H Q E h => ?_) (fun cdv A0 outer s H vs Q E hr h => ?_)
  · obtain ⟨a, l, rfl, _⟩ := h
    rfl
  · obtain ⟨a, l, rfl, ha, hp, hl, hg, k⟩ := h
    have hu := hu_of hr
    have huu := Nat.lt_of_succ_lt hu
    refine ⟨_, PSs.nox (pss_cons (ps_if (PW.pt (pw_or (pt_not (pt_val (pe_callB call_isi rfl T.m_isinstance b_isinstance (pa_cons (pv 0) (pa_cons (pe_bltn (v := .ty "tuple") rfl T.m_tuple b_tuple rfl) pa_nil))))) (pw_or (pt_cmpR (op_eq_nilT huu) (pv 0) (pe_tup pa_nil) (nomark _)) (pw_or1 (pt_not (pt_val (pe_callB (cr_all rfl) rfl T.m_all b_all (pa_cons (pe_lc (own := [("item", 1)]) (g := gName 1) (tt := tYes) rfl sc_is_arrangement.nd (pi_tup (pv 0)) (blkOk_by (own := [("item", 1)]) (N := ["value", "item"]) (sc := defScope s_is_arrangement) (by decide +kernel)) (fun _ _ _ _ _ => (pg_name (i := 1) sc_is_arrangement.nd rfl (Or.inl rfl))) (fun _ _ _ _ _ => pts_nil) (fun _ _ _ _ _ => (T.is_below.call (ok_is_below T) (hr.mono (by decide)) rfl (pa_cons (pv 1) (pa_cons (pe_callB (r := rLenQ K) call_len_seq rfl T.m_len boot_len (pa_cons (pv 0) pa_nil)) pa_nil))))) pa_nil)))))))) (pss_one (ps_ret pe_bl)) pss_nil)
      (pss_one (ps_ret (pe_cmp (pc_eqI (pe_lenSetT rfl T.m_len rfl T.m_set (pv 0)) (pe_callB call_len_seq rfl T.m_len boot_len (pa_cons (pv 0) pa_nil))) rfl)))), ?_⟩
    refine ⟨_, rfl, _, _, _, _, true, rfl, .ty _, .base (.tup ha), kit_ty (by decide +kernel), true, rfl, iteF ?_⟩
    refine ⟨_, rfl, (show 0 ≤ sizeLine by decide), fun e he => ⟨a, e, ivs l, rfl, rfl, SqT.of (upd_S he _ _ ha), upd_same, false, ?_, iteF ?_⟩⟩
    · cases l with
      | nil => exact absurd hl (by simp)
      | cons x l => rfl
    have ha1 := upd_S (o := .tup []) he _ _ ha
    have s0 := upd_S (o := .tup []) he
    generalize upd H e (.tup []) = H0 at ha1 s0
    refine ⟨_, rfl, a, rfl, ⟨_, SqT.of ha1⟩, fun D hD => lct (List.replicate l.length (V.bl true)) (SqT.of ha1) hD (by simp) (by rw [List.length_replicate]; exact len_line (by have := good_le hg; omega)) (fun i x y H' Nx No hx hy s1 hn => ?_) (fun H' s1 hH => ?_)⟩
    · obtain ⟨n, hi, rfl⟩ := ivs_at hx
      rw [rep_at hy] at hn
      refine ⟨rfl, _, rfl, _, rfl, _, _, rfl, .inr (SqT.of (s1 _ _ ha1)), n, _, rfl, by omega, ?_, hn _ (Same.refl _)⟩
      rw [List.length_map]
      have := perm_lt hp n (List.mem_of_getElem? hi)
      omega
    · rw [rep_map] at hH
      refine ⟨D, _, rfl, SqL.of hH, ?_⟩
      rw [all_true (by simp)]
      refine ⟨true, rfl, iteF ?_⟩
      have ha2 := s1 _ _ ha1
      refine ⟨_, rfl, a, l, rfl, SqT.of ha2, hp, hg, _, rfl, _, _, rfl, .inr (SqT.of ha2), _, _, rfl, rfl, ?_⟩
      dsimp only
      rw [List.length_map, decide_eq_true rfl]
      exact k _ (s0.trans s1)
theorem ok_are_arrangements (T : Txt K mg) : FnOk P w K mg base CX0 4 T.are_arrangements.a T.are_arrangements.fd ["value", "many", "seats"] spAreArrs := by
  refine T.are_arrangements.F.ok sc_are_arrangements (fun vs H Q E h => ?_) (fun cdv A0 outer s H vs Q E hr h => ?_)
  · obtain ⟨a, N, ls, rfl, _⟩ := h
    rfl
  · obtain ⟨a, N, ls, rfl, ⟨as, ha⟩, hl, hN, hz, k⟩ := h
    have hu := hu_of hr
    have hlen : as.length = ls.length := by rw [ha.2.1, List.length_map]
    refine ⟨_, PSs.nox (pss_cons (ps_if (PW.pt (pw_or (pt_not (pt_val (pe_callB call_isi rfl T.m_isinstance b_isinstance (pa_cons (pv 0) (pa_cons (pe_bltn (v := .ty "tuple") rfl T.m_tuple b_tuple rfl) pa_nil))))) (pw_or1 (pt_cmpR op_ne (pe_callB call_len_seq rfl T.m_len boot_len (pa_cons (pv 0) pa_nil)) (pv 1) (nomark _))))) (pss_one (ps_ret pe_bl)) pss_nil)
      (pss_one (ps_ret (pe_callB (cr_all rfl) rfl T.m_all b_all (pa_cons (pe_lc (own := [("item", 3)]) (g := gName 3) (tt := tYes) rfl sc_are_arrangements.nd (pi_tup (pv 0)) (blkOk_by (own := [("item", 3)]) (N := ["value", "many", "seats", "item"]) (sc := defScope s_are_arrangements) (by decide +kernel)) (fun _ _ _ _ _ => (pg_name (i := 3) sc_are_arrangements.nd rfl (Or.inl rfl))) (fun _ _ _ _ _ => pts_nil) (fun _ _ _ _ _ => (pe_and (T.is_arrangement.call (ok_is_arrangement T) (hr.mono (by decide)) rfl (pa_cons (pv 3) pa_nil)) (pe_one (pe_cmp (pc_eqI (pe_callB (r := rLenQ K) call_len_seq rfl T.m_len boot_len (pa_cons (pv 3) pa_nil)) (pv 2)) rfl))))) pa_nil))))), ?_⟩
    refine ⟨_, rfl, _, _, _, _, true, rfl, .ty _, .base (.tup ha.1), kit_ty (by decide +kernel), true, rfl, iteF ?_⟩
    refine ⟨_, rfl, _, _, rfl, .inr (SqT.of ha.1), _, rfl, rfl, false, ?_, iteF ?_⟩
    · rw [List.length_map, hlen, decide_eq_true rfl]
      rfl
    refine ⟨_, rfl, a, rfl, ⟨_, SqT.of ha.1⟩, fun D hD => lct (List.replicate ls.length (V.bl true)) (SqT.of ha.1) hD (by simp [hlen]) (by rw [List.length_replicate]; exact len_line (by omega)) (fun i x y H' Nx No hx hy s1 hn => ?_) (fun H' s1 hH => ?_)⟩
    · rw [rep_at hy] at hn
      obtain ⟨p, vs, rfl, h1, h2, h3⟩ := ha.item hx
      rw [List.getElem?_map] at h2
      cases e : ls[i]? with
      | none => rw [e] at h2; cases h2
      | some l =>
        rw [e] at h2
        cases h2
        obtain ⟨q1, q2⟩ := hl l (List.mem_of_getElem? e)
        have hll := perm_len q1
        refine ⟨rfl, _, rfl, p, l, rfl, s1 _ _ h3, by rw [hll]; exact q1, by omega, q2, fun H4 s4 => ⟨true, rfl, iteT ?_⟩⟩
        refine ⟨_, rfl, _, _, rfl, .inr (SqT.of (s4 _ _ (s1 _ _ h3))), _, rfl, _, _, rfl, rfl, ?_⟩
        dsimp only
        rw [List.length_map, hll, decide_eq_true rfl]
        exact hn _ s4
    · rw [rep_map] at hH
      refine ⟨D, _, rfl, SqL.of hH, ?_⟩
      rw [all_true (by simp)]
      exact k _ s1
theorem tup0 {o i : List V → HO} {H : Hp} {a : Addr} {as : List Addr} {vss : List (List V)} (m : Mat o i H a as vss) (h : 0 < vss.length) : ∃ p vs, (as.map V.ref)[0]? = some (.ref p) ∧ vss[0]? = some vs ∧ H p = some (i vs) := by
  obtain ⟨p, e1, e2⟩ := m.2.2 0 _ (List.getElem?_eq_getElem h)
  exact ⟨p, _, by rw [List.getElem?_map, e1]; rfl, List.getElem?_eq_getElem h, e2⟩
theorem ok_seats_of (T : Txt K mg) : FnOk P w K mg base CX0 4 T.seats_of.a T.seats_of.fd ["ropes"] spSeatsOf := by
  refine T.seats_of.F.ok sc_seats_of (fun vs H Q E h => ?_) (fun cdv A0 outer s H vs Q E hr h => ?_)
  · obtain ⟨a, N, ls, rfl, _⟩ := h
    rfl
  · obtain ⟨a, N, ls, rfl, ⟨as, ha⟩, hl, hN, hz, k⟩ := h
    have hu := hu_of hr
    have huu := Nat.lt_of_succ_lt hu
    have hlen : as.length = ls.length := by rw [ha.2.1, List.length_map]
    obtain ⟨p, vs, h1, h2, h3⟩ := tup0 ha (by rw [List.length_map]; exact hz)
    have h1 : atI (as.map V.ref) 0 = some (.ref p) := atI_nat (j := 0) h1
    rw [List.getElem?_map] at h2
    cases e : ls[0]? with
    | none => rw [e] at h2; cases h2
    | some l =>
      rw [e] at h2
      cases h2
      obtain ⟨q1, q2⟩ := hl l (List.mem_of_getElem? e)
      have hll := perm_len q1
      refine ⟨_, PSs.nox (pss_cons (ps_if (PW.pt (pw_or (pt_not (pt_val (pe_callB call_isi rfl T.m_isinstance b_isinstance (pa_cons (pv 0) (pa_cons (pe_bltn (v := .ty "tuple") rfl T.m_tuple b_tuple rfl) pa_nil))))) (pw_or (pt_cmpR (op_eq_nilT huu) (pv 0) (pe_tup pa_nil) (nomark _)) (pw_or1 (pt_not (pt_val (T.is_arrangement.call (ok_is_arrangement T) (hr.mono (by decide)) rfl (pa_cons (pe_ix ix_tup (pv 0) pe_int (fun _ _ => rfl)) pa_nil)))))))) (pss_one (ps_ret pe_int)) pss_nil)
      (pss_one (ps_ret (pe_callB call_len_seq rfl T.m_len boot_len (pa_cons (pe_ix ix_tup (pv 0) pe_int (fun _ _ => rfl)) pa_nil))))), ?_⟩
      refine ⟨_, rfl, _, _, _, _, true, rfl, .ty _, .base (.tup ha.1), kit_ty (by decide +kernel), true, rfl, iteF ?_⟩
      refine ⟨_, rfl, (show 0 ≤ sizeLine by decide), fun n hn => ⟨a, n, _, rfl, rfl, SqT.of (upd_S hn _ _ ha.1), upd_same, false, ?_, iteF ?_⟩⟩
      · cases as with
        | nil => exact absurd hlen (by simp; omega)
        | cons x l => rfl
      have s0 := upd_S (o := .tup []) hn
      generalize upd H n (.tup []) = H0 at s0
      refine ⟨_, rfl, a, _, _, _, rfl, rfl, SqT.of (s0 _ _ ha.1), h1, p, l, rfl, s0 _ _ h3, by rw [hll]; exact q1, by omega, q2, fun H1 s1 => ⟨true, rfl, iteF ?_⟩⟩
      refine ⟨_, rfl, a, _, _, _, rfl, rfl, SqT.of (s1 _ _ (s0 _ _ ha.1)), h1, _, _, rfl, .inr (SqT.of (s1 _ _ (s0 _ _ h3))), ?_⟩
      rw [List.length_map, hll]
      exact k _ (s0.trans s1)
end
end PR
/-! text Wk2 -/
set_option Elab.async false
set_option linter.all false
set_option maxRecDepth 100000
set_option maxHeartbeats 4000000
/-! dict comprehensions over whole numbers; updates; rounds as lists -/
namespace PR
open PySem PySem.Spec PyProof.Rows L2
section
variable {K : PySem.W.Frag} {a : Addr} {g : TG} {tt : TT} {tk tv : TE} {vs : List Nat} {σ : L2.St} {H1 : Hp} {D : Addr} {Qd : Hp → Prop}
theorem take_nd {l : List Nat} (h : l.Nodup) {i n : Nat} (e : l[i]? = some n) : n ∉ l.take i := by
  intro hm
  obtain ⟨j, hj, ej⟩ := List.mem_iff_getElem.mp hm
  rw [List.length_take] at hj
  obtain ⟨hi, ei⟩ := List.getElem?_eq_some_iff.mp e
  rw [List.getElem_take] at ej
  have := (List.pairwise_iff_getElem.mp h) j i (by omega) hi (by omega)
  exact this (ej.trans ei.symm)
def dct (l : List Nat) (f : Nat → V) (hx : SqT K H1 a (ivs l)) (hD : H1 D = none) (hn : l.Nodup) (hz : l.length ≤ 1000000)
    (hs : ∀ (i n : Nat) (H : Hp) (Nx : V → V → Hp → Prop) (No : Hp → Prop), l[i]? = some n → Same H1 H → Nx (iv n) (f n) H →
      g (iv n) (wipe σ vs) H fun σ2 H2 => wipe σ2 vs = wipe σ vs ∧ tt σ2 H2 fun b H3 => if b = true then tk σ2 H3 fun y H4 => tv σ2 H4 fun z H5 => Nx y z H5 else No H3)
    (hd : ∀ H, Same H1 H → H D = some (.dK (mp f l)) → Qd H) :=
  dc_tup (K := K) (a := a) (xs := ivs l) (g := g) (tt := tt) (tk := tk) (tv := tv) (vs := vs) (σ := σ) (H1 := H1) (D := D) (Qd := Qd) (fun i H => Same H1 H ∧ H D = some (.dK (mp f (l.take i))))
    ⟨upd_S hD, by rw [upd_same]; rfl⟩ (fun i H _ p => SqT.ext hx p.1)
    (fun i x H h p => by
      obtain ⟨n, hi, rfl⟩ := ivs_at h
      refine hs i n H _ _ hi p.1 ⟨mp f (l.take i), ik n, rfl, p.2, ?_, same_updN p.1 hD, by rw [upd_same, mp_put (take_nd hn hi), ← take_snoc hi]⟩
      rw [mp_len, List.length_take, sizeLine_eq]
      omega)
    (fun H p => hd H p.1 (by rw [p.2, List.take_of_length_le (by simp)]))
theorem dc_range {lo : Int} {n : Nat} (Pv : Nat → Hp → Prop) (h0 : Pv 0 (upd H1 D (.dK [])))
    (hs : ∀ i H, i < n → Pv i H → g (.int (lo + i)) (wipe σ vs) H fun σ2 H2 => wipe σ2 vs = wipe σ vs ∧ tt σ2 H2 fun b H3 =>
      if b = true then tk σ2 H3 fun y H4 => tv σ2 H4 fun z H5 => ∃ kvs k, y = kV k ∧ H5 D = some (.dK kvs) ∧ kvs.length < sizeLine ∧ Pv (i + 1) (upd H5 D (.dK (putK kvs k z))) else Pv (i + 1) H3) (hd : ∀ H, Pv n H → Qd H) :
    ∃ W : Nat → Nat → Hp → Prop, (∃ m, W 0 m (upd H1 D (.dK []))) ∧ ∀ i m H, W i m H →
      ((Itr lo n).stop i H ∧ Qd H) ∨ ((Itr lo n).go i H ∧ ∃ Nx : Hp → Prop, (∀ H', Nx H' → ∃ m', m' < m ∧ W (i + 1) m' H') ∧ ∀ x H', (Itr lo n).yld i H x H' → g x (wipe σ vs) H' fun σ2 H2 => wipe σ2 vs = wipe σ vs ∧ tt σ2 H2 fun b H3 =>
        if b = true then tk σ2 H3 fun y H4 => tv σ2 H4 fun z H5 => ∃ kvs k, y = kV k ∧ H5 D = some (.dK kvs) ∧ kvs.length < sizeLine ∧ Nx (upd H5 D (.dK (putK kvs k z))) else Nx H3) := by
  refine ⟨fun i m H => m = n - i ∧ i ≤ n ∧ Pv i H, ⟨n, rfl, Nat.zero_le _, h0⟩, ?_⟩
  rintro i m H ⟨rfl, hi, p⟩
  rcases Nat.lt_or_ge i n with hlt | hge
  · refine .inr ⟨hlt, Pv (i + 1), fun H' p' => ⟨n - (i + 1), by omega, rfl, hlt, p'⟩, ?_⟩
    rintro x H' ⟨rfl, rfl⟩
    exact hs i _ hlt p
  · obtain rfl : i = n := Nat.le_antisymm hi hge
    exact .inl ⟨hge, hd H p⟩
def dcr {n : Nat} (f : Nat → V) (hD : H1 D = none) (hz : n ≤ 1000000)
    (hs : ∀ (i : Nat) (H : Hp) (Nx : V → V → Hp → Prop) (No : Hp → Prop), i < n → Same H1 H → Nx (iv i) (f i) H →
      g (.int (0 + (i : Int))) (wipe σ vs) H fun σ2 H2 => wipe σ2 vs = wipe σ vs ∧ tt σ2 H2 fun b H3 => if b = true then tk σ2 H3 fun y H4 => tv σ2 H4 fun z H5 => Nx y z H5 else No H3)
    (hd : ∀ H, Same H1 H → H D = some (.dK (mp f (List.range n))) → Qd H) :=
  dc_range (lo := 0) (n := n) (g := g) (tt := tt) (tk := tk) (tv := tv) (vs := vs) (σ := σ) (H1 := H1) (D := D) (Qd := Qd) (fun i H => Same H1 H ∧ H D = some (.dK (mp f (List.range i))))
    ⟨upd_S hD, by rw [upd_same]; rfl⟩
    (fun i H h p => by
      refine hs i H _ _ h p.1 ⟨mp f (List.range i), ik i, rfl, p.2, ?_, same_updN p.1 hD, by rw [upd_same, mp_put (by simp), ← List.range_succ]⟩
      rw [mp_len, List.length_range, sizeLine_eq]
      omega)
    (fun H p => hd H p.1 p.2)
end
theorem mp_merge (f : Nat → V) : ∀ (l ks : List Nat), (∀ x ∈ l, x ∉ ks) → l.Nodup → mergeK (mp f ks) (mp f l) = mp f (ks ++ l)
  | [], ks, _, _ => by
    rw [List.append_nil]
    rfl
  | x :: l, ks, h, hn => by
    show mergeK (putK (mp f ks) (ik x) (f x)) (mp f l) = _
    rw [mp_put (h x (by simp)), mp_merge f l (ks ++ [x]) (fun y hy => ?_) hn.of_cons, List.append_assoc]
    · rfl
    · intro hm
      rcases List.mem_append.mp hm with q | q
      · exact h y (.tail _ hy) q
      · rw [List.mem_singleton] at q
        subst q
        exact (List.nodup_cons.mp hn).1 hy
/-! ### rounds of a rope, plainly -/
/-- the first j seats of a round from its first -/
def bk (L b j : Nat) : List Nat := (List.range j).map (b * L + ·)
theorem bk_succ (L b j : Nat) : bk L b (j + 1) = bk L b j ++ [b * L + j] := by
  unfold bk
  rw [List.range_succ, List.map_append]
  rfl
theorem blk_eq (L b : Nat) : blk L b = ivs (bk L b L) := rfl
theorem bk_len (L b j : Nat) : (bk L b j).length = j := by simp [bk]
theorem bk_at {L b j i : Nat} (h : i < j) : (bk L b j)[i]? = some (b * L + i) := by simp [bk, h]
theorem bk_nd (L b j : Nat) : (bk L b j).Nodup := RK.nodup_map List.nodup_range fun x _ y _ e => by omega
theorem bk_mem {L b j x : Nat} : x ∈ bk L b j ↔ b * L ≤ x ∧ x < b * L + j := by
  unfold bk
  rw [List.mem_map]
  constructor
  · rintro ⟨i, hi, rfl⟩
    rw [List.mem_range] at hi
    omega
  · rintro ⟨h1, h2⟩
    exact ⟨x - b * L, List.mem_range.mpr (by omega), by omega⟩
theorem rng_bk (L q : Nat) : List.range (q * L) ++ bk L q L = List.range ((q + 1) * L) := by
  refine List.ext_getElem? fun i => ?_
  rw [Nat.succ_mul]
  by_cases h : i < q * L
  · rw [List.getElem?_append_left (by rw [List.length_range]; exact h), List.getElem?_range h, List.getElem?_range (by omega)]
  · rw [List.getElem?_append_right (by rw [List.length_range]; omega), List.length_range]
    by_cases h2 : i < q * L + L
    · rw [bk_at (by omega), List.getElem?_range h2]
      congr 1
      omega
    · rw [List.getElem?_eq_none (by rw [bk_len]; omega), List.getElem?_eq_none (by rw [List.length_range]; omega)]
theorem rp_blk {L b j : Nat} (hj : j < L) : RK.rp L (b * L + j) = b * L + (j + 1) % L := by
  rw [RK.rp_eq (by omega), RK.blk_div hj, RK.blk_mod hj]
theorem bl_le {L b N : Nat} (hd : L ∣ N) (hb : b < N / L) : b * L + L ≤ N := by
  have h1 : N / L * L = N := Nat.div_mul_cancel hd
  have h2 : (b + 1) * L ≤ N / L * L := Nat.mul_le_mul_right L hb
  rw [Nat.succ_mul] at h2
  omega
theorem rope_at {N L s : Nat} (h : s < N) : (rope N L)[s]? = some (iv (RK.rp L s)) := by
  rw [List.getElem?_map, RK.ropeL_at h]
  rfl
theorem rope_len (N L : Nat) : (rope N L).length = N := by rw [List.length_map, RK.ropeL_len]
end PR
/-! text W7 -/
set_option Elab.async false
set_option linter.all false
set_option maxRecDepth 100000
set_option maxHeartbeats 4000000
namespace PR
open PySem PySem.Spec PyProof.Rows L2
section
variable {P : Program} {w : World} {K : PySem.W.Frag} {mg : Str → Option Value} {base : Heap}
theorem ok_round_from (T : Txt K mg) : FnOk P w K mg base CX0 1 T.round_from.a T.round_from.fd ["arrangement", "seat"] spRoundFrom := by
  refine T.round_from.F.ok sc_round_from (fun vs H Q E h => ?_) (fun cdv A0 outer s H vs Q E hr h => ?_)
  · obtain ⟨a, N, L, b, rfl, _⟩ := h
    rfl
  · obtain ⟨a, N, L, b, rfl, ha, hL, hd, hb, hN, k⟩ := h
    have hle := bl_le hd hb
    refine ⟨_, PSs.nox (pss_cons (ps_set (i := 2) sc_round_from.nd rfl (Or.inl rfl) (pe_lst (pa_cons (pv 1) pa_nil)))
      (pss_cons (ps_while PassesOwn.never (pt_cmpR op_ne (pe_ix ix_tup (pv 0) (pe_ix ix_list (pv 2) (pe_un un_neg pe_int) (fun _ _ => rfl)) (fun _ _ => rfl)) (pv 1) (nomark _)) (pss_one (ps_expr (pe_bm PySem.F.plainAttrs_list PySem.F.slot_list_append PySem.F.type_list_append mt_append (pv 2) (pa_cons (pe_ix ix_tup (pv 0) (pe_ix ix_list (pv 2) (pe_un un_neg pe_int) (fun _ _ => rfl)) (fun _ _ => rfl)) pa_nil)))))
      (pss_one (ps_ret (pe_callTy call_tuple_of rfl T.m_tuple b_tuple (pa_cons (pv 2) pa_nil)))))), ?_⟩
    refine ⟨_, rfl, (show 1 ≤ sizeLine by decide), fun F nF => ⟨fun m σ H' => ∃ j, j < L ∧ m = L - j ∧ σ = [some (.ref a), some (.int ((b * L : Nat) : Int)), some (.ref F)] ∧ Same H H' ∧ H' F = some (.lst (ivs (bk L b (j + 1)))), ⟨_, 0, hL, rfl, rfl, upd_S nF, by rw [upd_same]; rfl⟩, ?_⟩⟩
    rintro m σ H' ⟨j, hj, rfl, rfl, s1, hF⟩
    have e0 : ivs (bk L b (j + 1)) = ivs (bk L b j) ++ [iv (b * L + j)] := by rw [bk_succ, ivs, List.map_append]; rfl
    have hat : (rope N L)[b * L + j]? = some (iv (b * L + (j + 1) % L)) := by rw [rope_at (by omega), rp_blk hj]
    refine ⟨_, rfl, _, rfl, _, rfl, _, _, _, _, rfl, rfl, SqL.of hF, ?_, _, _, _, _, rfl, rfl, SqT.of (s1 _ _ ha), atI_nat hat, _, rfl, rfl, _, rfl, ?_⟩
    · rw [e0]
      exact atI_last _ _
    · by_cases h : j + 1 = L
      · have e1 : (iv (b * L + (j + 1) % L) = V.int ((b * L : Nat) : Int)) := by rw [h, Nat.mod_self]; rfl
        rw [decide_eq_true e1]
        refine iteF ⟨_, rfl, F, _, rfl, .inl ⟨SqL.of hF, fun p hp => k _ p (s1.trans (upd_S hp)) (s1.free hp) ?_⟩⟩
        rw [upd_same, h]
        rfl
      · have e1 : ¬ (iv (b * L + (j + 1) % L) = V.int ((b * L : Nat) : Int)) := by
          rw [Nat.mod_eq_of_lt (show j + 1 < L by omega)]
          intro e
          have := V.int.inj e
          omega
        rw [decide_eq_false e1]
        refine iteT ⟨_, fun σ' H' q => q, ?_⟩
        refine ⟨_, rfl, .inl ⟨rfl, _, SqL.of hF⟩, _, rfl, _, rfl, _, rfl, _, _, _, _, rfl, rfl, SqL.of hF, ?_, _, _, _, _, rfl, rfl, SqT.of (s1 _ _ ha), atI_nat hat, F, _, _, rfl, rfl, hF, ?_, L - (j + 1), by omega, j + 1, by omega, rfl, rfl, same_updN s1 nF, ?_⟩
        · rw [e0]
          exact atI_last _ _
        · rw [List.length_map, bk_len, sizeLine_eq]
          omega
        · rw [upd_same, bk_succ L b (j + 1), Nat.mod_eq_of_lt (show j + 1 < L by omega)]
          simp
theorem ok_rounds_in (T : Txt K mg) : FnOk P w K mg base CX0 2 T.rounds_in.a T.rounds_in.fd ["arrangement"] spRoundsIn := by
  refine T.rounds_in.F.ok sc_rounds_in (fun vs H Q E h => ?_) (fun cdv A0 outer s H vs Q E hr h => ?_)
  · obtain ⟨a, N, L, rfl, _⟩ := h
    rfl
  · obtain ⟨a, N, L, rfl, ha, hL, hd, hN, k⟩ := h
    have hu := hu_of hr
    have hNL : N / L * L = N := Nat.div_mul_cancel hd
    refine ⟨_, PSs.nox (pss_cons (ps_par (i := 1) (j := 2) rfl sc_rounds_in.nd rfl rfl (by decide) rfl rfl (pa_cons (pe_lst pa_nil) (pa_cons pe_dnewK pa_nil)) rfl)
      (pss_cons (ps_for PassesOwn.never rfl (pi_range1 rfl T.m_range (pa_cons (pe_callB call_len_seq rfl T.m_len boot_len (pa_cons (pv 0) pa_nil)) pa_nil)) (pg_name (i := 3) sc_rounds_in.nd rfl (Or.inl rfl)) (pss_one (ps_if (pt_cmp (pc_dnotin hu (pv 3) (pv 2))) (pss_cons (ps_expr (pe_bm PySem.F.plainAttrs_list PySem.F.slot_list_append PySem.F.type_list_append mt_append (pv 1) (pa_cons (T.round_from.call (ok_round_from T) (hr.mono (by decide)) rfl (pa_cons (pv 0) (pa_cons (pv 3) pa_nil))) pa_nil)))
      (pss_one (ps_expr (pe_bm PySem.F.plainAttrs_dict PySem.F.slot_dict_update PySem.F.type_dict_update mt_update (pv 2) (pa_cons (pe_dc (own := [("other", 4)]) (g := gName 4) (tt := tYes) rfl sc_rounds_in.nd (pi_tup (pe_ix ix_list (pv 1) (pe_un un_neg pe_int) (fun _ _ => rfl))) (blkOk_by (own := [("other", 4)]) (N := ["arrangement", "found", "known", "seat", "other"]) (sc := defScope s_rounds_in) (by decide +kernel)) (fun _ _ _ _ _ => (pg_name (i := 4) sc_rounds_in.nd rfl (Or.inl rfl))) (fun _ _ _ _ _ => pts_nil) (fun _ _ _ _ _ => (pv 4)) (fun _ _ _ _ _ => pe_bl)) pa_nil))))) pss_nil)))
      (pss_one (ps_ret (pv 1))))), ?_⟩
    refine ⟨by decide, fun F nF M nM => ?_⟩
    have hne : F ≠ M := by
      intro e
      subst e
      rw [upd_same] at nM
      cases nM
    have nM1 : H M = none := by
      rw [upd_ne (Ne.symm hne)] at nM
      exact nM
    have s0 : Same H (upd (upd H F (.lst [])) M (.dK [])) := same_updN (upd_S nF) nM1
    refine ⟨_, _, rfl, _, rfl, a, _, rfl, .inr (SqT.of (s0 _ _ ha)), _, rfl, by rw [rope_len]; omega, by rw [rope_len]; omega, ?_⟩
    rw [rope_len, Int.toNat_natCast]
    refine for_range (lo := 0) (n := N) (fun i σ H' => ∃ q as v3 v4, q ≤ N / L ∧ i ≤ q * L ∧ q * L < i + L ∧ σ = [some (.ref a), some (.ref F), some (.ref M), v3, v4] ∧ Same H H' ∧ Mat .lst .tup H' F as ((List.range q).map (blk L)) ∧ H' M = some (.dK (mp bt (List.range (q * L)))))
      ⟨0, [], _, _, Nat.zero_le _, by omega, by omega, rfl, s0, ⟨by rw [upd_ne hne, upd_same]; rfl, rfl, fun j vs h => nomatch h⟩, by rw [upd_same, Nat.zero_mul]; rfl⟩ ?_ ?_
    · rintro i σ H1 hi ⟨q, as, v3, v4, q0, q1, q2, rfl, s1, hF, hM⟩
      refine ⟨_, rfl, _, rfl, _, _, rfl, DGet.k (k := .inl (0 + (i : Int))) hM, _, rfl, ?_⟩
      have ei : (0 : Int) + (i : Int) = (i : Int) := by omega
      rw [ei]
      by_cases h : i < q * L
      · rw [mp_in (List.mem_range.mpr h)]
        exact iteF ⟨q, as, _, _, q0, by omega, by omega, rfl, s1, hF, hM⟩
      · rw [mp_out (fun z => h (List.mem_range.mp z))]
        have ei : i = q * L := by omega
        have hq : q < N / L := by
          refine Nat.lt_of_not_le fun z => ?_
          have := Nat.mul_le_mul_right L z
          omega
        refine iteT ⟨_, rfl, .inl ⟨rfl, _, SqL.of hF.1⟩, _, rfl, _, rfl, a, N, L, q, by rw [ei]; rfl, s1 _ _ ha, hL, hd, hq, hN, fun H2 p s2 np hp => ?_⟩
        have hF2 := hF.same s2
        have hM2 := s2 _ _ hM
        have hlen : as.length = q := by rw [hF.2.1]; simp
        refine ⟨F, _, _, rfl, rfl, hF2.1, by rw [List.length_map, hlen, sizeLine_eq]; have := Nat.div_le_self N L; omega, ?_⟩
        -- the heap with the round's place in the list
        have sF : ∀ {b o}, H2 b = some o → b ≠ F → upd H2 F (.lst (as.map V.ref ++ [.ref p])) b = some o := fun e n => by rw [upd_ne n]; exact e
        have hpF : p ≠ F := ne_of hp hF2.1 (by intro z; cases z)
        have hMF : M ≠ F := Ne.symm hne
        have hF3 : Mat .lst .tup (upd H2 F (.lst (as.map V.ref ++ [.ref p]))) F (as ++ [p]) ((List.range (q + 1)).map (blk L)) := by
          refine ⟨by rw [upd_same, List.map_append]; rfl, by simp [hlen], fun j vs hj => ?_⟩
          rw [List.range_succ, List.map_append] at hj
          by_cases c : j < q
          · rw [List.getElem?_append_left (by simp [c])] at hj
            obtain ⟨r, r1, r2⟩ := hF2.2.2 j vs hj
            exact ⟨r, by rw [List.getElem?_append_left (by omega)]; exact r1, sF r2 (ne_of r2 hF2.1 (by intro z; cases z))⟩
          · rw [List.getElem?_append_right (by simp; omega)] at hj
            have ej : j = q := by
              have := (List.getElem?_eq_some_iff.mp hj).1
              simp at this
              omega
            subst ej
            simp at hj
            subst hj
            exact ⟨p, by rw [List.getElem?_append_right (by omega), hlen, Nat.sub_self]; rfl, sF hp hpF⟩
        have hM3 := sF hM2 hMF
        have hp3 := sF hp hpF
        have s3 : Same H (upd H2 F (.lst (as.map V.ref ++ [.ref p]))) := same_updN (s1.trans s2) nF
        generalize upd H2 F (.lst (as.map V.ref ++ [.ref p])) = H3 at hF3 hM3 hp3 s3
        have hl : atI ((as ++ [p]).map V.ref) (-1) = some (V.ref p) := by
          rw [List.map_append]
          exact atI_last _ _
        refine ⟨_, rfl, .inr (.inr (.inl ⟨rfl, .inl ⟨_, hM3⟩⟩)), _, rfl, _, rfl, _, _, _, _, rfl, rfl, SqL.of hF3.1, hl, p, rfl, ⟨_, SqT.of hp3⟩, fun D hD => dct (bk L q L) bt (SqT.of hp3) hD (bk_nd L q L) (by rw [bk_len]; have := Nat.le_of_dvd (by omega) hd; omega) (fun i n H' Nx No hi s4 hn => ?_) (fun H4 s4 hD4 => ?_)⟩
        · exact ⟨rfl, _, rfl, hn⟩
        · have hM4 := s4 _ _ hM3
          have hL2 := bl_le hd hq
          have em : mergeK (mp bt (List.range (q * L))) (mp bt (bk L q L)) = mp bt (List.range ((q + 1) * L)) := by
            rw [mp_merge bt _ _ (fun x hx hm => by rw [bk_mem] at hx; rw [List.mem_range] at hm; omega) (bk_nd L q L), rng_bk]
          have hz := sizeLine_eq
          refine ⟨M, D, _, _, rfl, rfl, ne_of_none hM3 hD, hM4, hD4, by rw [mp_len, mp_len, bk_len, List.length_range]; omega, by rw [em, mp_len, List.length_range, Nat.succ_mul]; omega, ?_⟩
          rw [em]
          refine ⟨q + 1, as ++ [p], _, _, hq, by rw [Nat.succ_mul]; omega, by rw [Nat.succ_mul]; omega, rfl, same_updN (s3.trans s4) nM1, ⟨by rw [upd_ne hne]; exact s4 _ _ hF3.1, hF3.2.1, fun j vs hj => ?_⟩, upd_same⟩
          obtain ⟨r, r1, r2⟩ := hF3.2.2 j vs hj
          refine ⟨r, r1, ?_⟩
          have r3 := s4 _ _ r2
          rw [upd_ne (ne_of r3 hM4 (by intro z; cases z))]
          exact r3
    · rintro σ H1 ⟨q, as, v3, v4, q0, q1, q2, rfl, s1, hF, hM⟩
      have eq : q = N / L := by
        refine Nat.le_antisymm q0 (Nat.le_of_not_lt fun z => ?_)
        have := Nat.mul_le_mul_right L (show q + 1 ≤ N / L by omega)
        rw [Nat.succ_mul] at this
        omega
      subst eq
      exact ⟨_, rfl, k _ F s1 nF ⟨as, hF⟩⟩
end
end PR
/-! text W8 -/
set_option Elab.async false
set_option linter.all false
set_option maxRecDepth 100000
set_option maxHeartbeats 4000000
namespace PR
open PySem PySem.Spec PyProof.Rows L2
theorem pl_blk {L b j : Nat} {t : Int} (hj : j < L) : RK.pl L t (b * L + j) = b * L + (((j : Int) + t) % (L : Int)).toNat := by
  unfold RK.pl
  rw [RK.blk_div hj, RK.blk_mod hj]
/-- there - there // n * n -/
theorem wrap {L : Nat} (hL : 0 < L) (z : Int) : z - z / (L : Int) * (L : Int) = (((z % (L : Int)).toNat : Nat) : Int) := by
  rw [RK.mcst hL, Int.emod_def, Int.mul_comm]
section
variable {P : Program} {w : World} {K : PySem.W.Frag} {mg : Str → Option Value} {base : Heap}
theorem ok_pulled (T : Txt K mg) : FnOk P w K mg base CX0 3 T.pulled.a T.pulled.fd ["arrangement", "times"] spPulled := by
  refine T.pulled.F.ok sc_pulled (fun vs H Q E h => ?_) (fun cdv A0 outer s H vs Q E hr h => ?_)
  · obtain ⟨a, N, L, t, rfl, _⟩ := h
    rfl
  · obtain ⟨a, N, L, t, rfl, ha, hL, hd, hN, k⟩ := h
    have hu := hu_of hr
    have hNL : N / L * L = N := Nat.div_mul_cancel hd
    have hz := sizeLine_eq
    refine ⟨_, PSs.nox (pss_cons (ps_set (i := 2) sc_pulled.nd rfl (Or.inr rfl) pe_dnewK)
      (pss_cons (ps_for PassesOwn.never rfl (pi_list (T.rounds_in.call (ok_rounds_in T) (hr.mono (by decide)) rfl (pa_cons (pv 0) pa_nil))) (pg_name (i := 3) sc_pulled.nd rfl (Or.inl rfl)) (pss_one (ps_for PassesOwn.never rfl (pi_enumT rfl T.m_enumerate (pa_cons (pv 3) pa_nil)) (pg_tup rfl (pgs_cons (pg_name (i := 4) sc_pulled.nd rfl (Or.inl rfl)) (pgs_cons (pg_name (i := 5) sc_pulled.nd rfl (Or.inl rfl)) pgs_nil))) (pss_cons (ps_set (i := 6) sc_pulled.nd rfl (Or.inl rfl) (pe_op op_add (pv 4) (pv 1)))
      (pss_one (ps_dput hu (pv 2) (pv 5) (pe_ix ix_tup (pv 3) (pe_op op_sub (pv 6) (pe_op op_mul (pe_op op_fdiv (pv 6) (pe_callB call_len_seq rfl T.m_len boot_len (pa_cons (pv 3) pa_nil))) (pe_callB call_len_seq rfl T.m_len boot_len (pa_cons (pv 3) pa_nil)))) (fun _ _ => rfl)) rfl))))))
      (pss_one (ps_ret (pe_callTy call_tuple_of rfl T.m_tuple b_tuple (pa_cons (pe_lc (own := [("seat", 5)]) (g := gName 5) (tt := tYes) rfl sc_pulled.nd (pi_range1 rfl T.m_range (pa_cons (pe_callB call_len_seq rfl T.m_len boot_len (pa_cons (pv 0) pa_nil)) pa_nil)) (blkOk_by (own := [("seat", 5)]) (N := ["arrangement", "times", "found", "line", "spot", "seat", "there"]) (sc := defScope s_pulled) (by decide +kernel)) (fun _ _ _ _ _ => (pg_name (i := 5) sc_pulled.nd rfl (Or.inl rfl))) (fun _ _ _ _ _ => pts_nil) (fun _ _ _ _ _ => (pe_dget hu (pv 2) (pv 5) (fun _ _ => rfl)))) pa_nil)))))), ?_⟩
    intro F nF
    have s0 : Same H (upd H F (.dK [])) := upd_S nF
    refine ⟨_, rfl, a, N, L, rfl, s0 _ _ ha, hL, hd, hN, fun H1 r s1 nr hR => ?_⟩
    have hF1 : H1 F = some (.dK []) := s1 _ _ upd_same
    have s01 := s0.trans s1
    obtain ⟨as, hR⟩ := hR
    have hrF : r ≠ F := Ne.symm (ne_of_none upd_same nr)
    refine ⟨r, rfl, ⟨_, SqL.of hR.1⟩, for_list (K := K) (a := r) (xs := as.map V.ref) (fun i σ H' => ∃ v3 v4 v5 v6, σ = [some (.ref a), some (.int t), some (.ref F), v3, v4, v5, v6] ∧ Same H H' ∧ Mat .lst .tup H' r as ((List.range (N / L)).map (blk L)) ∧ H' F = some (.dK (mp (fun s => iv (RK.pl L t s)) (List.range (i * L)))))
      ⟨_, _, _, _, rfl, s01, hR, by rw [Nat.zero_mul]; exact hF1⟩ (fun i σ H' _ p => ?_) ?_ ?_⟩
    · obtain ⟨_, _, _, _, _, _, z, _⟩ := p
      exact SqL.of z.1
    · rintro i x σ H2 hx ⟨v3, v4, v5, v6, rfl, s2, hR2, hF2⟩
      obtain ⟨q, vs, rfl, h1, h2, h3⟩ := hR2.item hx
      have hi : i < N / L := by
        have := (List.getElem?_eq_some_iff.mp h2).1
        simpa using this
      rw [List.getElem?_map, List.getElem?_range hi] at h2
      cases h2
      have hle := bl_le hd hi
      have hlen : (blk L i).length = L := by rw [blk_eq, List.length_map, bk_len]
      refine ⟨_, rfl, q, _, rfl, SqT.of h3, for_enT (K := K) (a := q) (xs := blk L i) (fun j σ H' => ∃ v4 v5 v6, σ = [some (.ref a), some (.int t), some (.ref F), some (.ref q), v4, v5, v6] ∧ Same H H' ∧ Mat .lst .tup H' r as ((List.range (N / L)).map (blk L)) ∧ H' q = some (.tup (blk L i)) ∧ H' F = some (.dK (mp (fun s => iv (RK.pl L t s)) (List.range (i * L + j)))))
        ⟨_, _, _, rfl, s2, hR2, h3, hF2⟩ (fun j σ H' _ p => ?_) ?_ ?_⟩
      · obtain ⟨_, _, _, _, _, _, z, _⟩ := p
        exact SqT.of z
      · rintro j x Tp σ H3 hx ⟨v4, v5, v6, rfl, s3, hR3, hq3, hF3⟩ nT
        have hj : j < L := by
          have := (List.getElem?_eq_some_iff.mp hx).1
          omega
        obtain ⟨n, hn, rfl⟩ := ivs_at (l := bk L i L) hx
        rw [bk_at hj] at hn
        cases hn
        refine ⟨Tp, _, rfl, SqT.of upd_same, rfl, _, _, rfl, _, _, rfl, rfl, ?_⟩
        have s4 : Same H3 (upd H3 Tp (.tup [iv j, iv (i * L + j)])) := upd_S nT
        generalize upd H3 Tp (.tup [iv j, iv (i * L + j)]) = H4 at s4
        have hq4 := s4 _ _ hq3
        have hF4 := s4 _ _ hF3
        refine ⟨_, rfl, _, rfl, _, _, rfl, rfl, ?_⟩
        have hcd : CDiv ((j : Int) + t) (L : Int) := ⟨by omega, by omega⟩
        have hbk : (blk L i)[((((j : Int) + t) % (L : Int)).toNat)]? = some (iv (RK.pl L t (i * L + j))) := by
          rw [blk_eq, List.getElem?_map, bk_at (RK.mod_lt hL _), pl_blk hj]
          rfl
        refine ⟨_, rfl, _, rfl, _, rfl, _, rfl, q, _, rfl, .inr (SqT.of hq4), _, _, rfl, rfl, by rw [hlen]; exact hcd, _, rfl, q, _, rfl, .inr (SqT.of hq4), _, _, rfl, rfl, by rw [hlen]; exact cmul_r (by omega), _, _, rfl, rfl, q, _, _, _, rfl, rfl, SqT.of hq4, at_of (by rw [hlen]; exact wrap hL _) hbk, ?_⟩
        refine ⟨_, rfl, _, rfl, F, _, rfl, DPut.k (k := ik (i * L + j)) hF4 (by rw [mp_len, List.length_range]; omega), _, _, _, rfl, same_updN (s3.trans s4) nF, ?_, ?_, ?_⟩
        · exact ⟨by rw [upd_ne hrF]; exact s4 _ _ hR3.1, hR3.2.1, fun j vs hj => by
            obtain ⟨p, p1, p2⟩ := hR3.2.2 j vs hj
            exact ⟨p, p1, by rw [upd_ne (ne_of (s4 _ _ p2) hF4 (by intro z; cases z))]; exact s4 _ _ p2⟩⟩
        · rw [upd_ne (ne_of hq4 hF4 (by intro z; cases z))]
          exact hq4
        · rw [upd_same, show i * L + (j + 1) = (i * L + j) + 1 by omega, List.range_succ, ← mp_put (by simp)]
      · rintro σ H3 ⟨v4, v5, v6, rfl, s3, hR3, hq3, hF3⟩
        rw [hlen] at hF3
        exact ⟨_, _, _, _, rfl, s3, hR3, by rw [Nat.succ_mul]; exact hF3⟩
    · rintro σ H2 ⟨v3, v4, v5, v6, rfl, s2, hR2, hF2⟩
      have e : (as.map V.ref).length = N / L := by rw [List.length_map, hR2.2.1]; simp
      rw [e, hNL] at hF2
      refine ⟨_, rfl, a, _, rfl, .inr (SqT.of (s2 _ _ ha)), _, rfl, by rw [rope_len]; omega, by rw [rope_len]; omega, ?_⟩
      rw [rope_len, Int.toNat_natCast]
      refine fun D hD => lcr (lo := 0) N (ivs ((List.range N).map (RK.pl L t))) hD (by simp) (by rw [List.length_map, List.length_map, List.length_range]; omega) (fun i y H3 Nx No hi hy s3 hn => ?_) (fun H3 s3 hD3 => ?_)
      · have ei : (0 : Int) + (i : Int) = (i : Int) := by omega
        rw [ei]
        refine ⟨rfl, _, rfl, _, rfl, F, _, rfl, (mp_in (f := fun s => iv (RK.pl L t s)) (List.mem_range.mpr hi)) ▸ DGet.k (k := ik i) (s3 _ _ hF2), ?_⟩
        rw [List.getElem?_map, List.getElem?_map, List.getElem?_range hi] at hy
        cases hy
        exact hn _ (Same.refl _)
      · refine ⟨D, _, rfl, .inl ⟨SqL.of hD3, fun l hl => ?_⟩⟩
        exact k _ l ((s2.trans s3).trans (upd_S hl)) (s2.free (s3.free hl)) upd_same
end
end PR
/-! text W9 -/
set_option Elab.async false
set_option linter.all false
set_option maxRecDepth 100000
set_option maxHeartbeats 4000000
namespace PR
open PySem PySem.Spec PyProof.Rows L2
theorem mat_at {o i : List V → HO} {H : Hp} {a : Addr} {as : List Addr} {α : Type} {f : α → List V} {ys : List α} (m : Mat o i H a as (ys.map f)) {j : Nat} {y : α} (h : ys[j]? = some y) :
    ∃ p, as[j]? = some p ∧ (as.map V.ref)[j]? = some (.ref p) ∧ H p = some (i (f y)) := by
  obtain ⟨p, e1, e2⟩ := m.2.2 j (f y) (by rw [List.getElem?_map, h]; rfl)
  exact ⟨p, e1, by rw [List.getElem?_map, e1]; rfl, e2⟩
theorem mat_len {o i : List V → HO} {H : Hp} {a : Addr} {as : List Addr} {α : Type} {f : α → List V} {ys : List α} (m : Mat o i H a as (ys.map f)) : as.length = ys.length := by
  rw [m.2.1, List.length_map]
theorem mat_in {o i : List V → HO} {H : Hp} {a : Addr} {as : List Addr} {α : Type} {f : α → List V} {ys : List α} (m : Mat o i H a as (ys.map f)) {j : Nat} {x : V} (h : (as.map V.ref)[j]? = some x) :
    ∃ p y, x = .ref p ∧ as[j]? = some p ∧ ys[j]? = some y ∧ H p = some (i (f y)) := by
  obtain ⟨p, vs, e1, e2, e3, e4⟩ := m.item h
  rw [List.getElem?_map] at e3
  cases e : ys[j]? with
  | none => rw [e] at e3; cases e3
  | some y =>
    rw [e] at e3
    cases e3
    exact ⟨p, y, e1, e2, rfl, e4⟩
theorem iv_at {l : List Nat} {j n : Nat} (h : l[j]? = some n) : (ivs l)[j]? = some (iv n) := by
  rw [List.getElem?_map, h]
  rfl
theorem rng_at {α : Type} {f : Nat → α} {N j : Nat} (h : j < N) : ((List.range N).map f)[j]? = some (f j) := by
  rw [List.getElem?_map, List.getElem?_range h]
  rfl
section
variable {P : Program} {w : World} {K : PySem.W.Frag} {mg : Str → Option Value} {base : Heap}
theorem ok_fits (T : Txt K mg) : FnOk P w K mg base CX0 4 T.fits.a T.fits.fd ["ropes", "way", "door"] spFits := by
  refine T.fits.F.ok sc_fits (fun vs H Q E h => ?_) (fun cdv A0 outer s H vs Q E hr h => ?_)
  · obtain ⟨ro, wa, da, N, L1, L2, Ls, way, d, rfl, _⟩ := h
    rfl
  · obtain ⟨ro, wa, da, N, L1, L2, Ls, way, d, rfl, ⟨as, hro⟩, hLs, hN, hwa, hda, e1, e2, hw, k⟩ := h
    have hz := sizeLine_eq
    obtain ⟨l1, d1⟩ := hLs L1 (List.mem_of_getElem? e1)
    obtain ⟨l2, d2⟩ := hLs L2 (List.mem_of_getElem? e2)
    obtain ⟨p1, _, a1, r1⟩ := mat_at hro e1
    obtain ⟨p2, _, a2, r2⟩ := mat_at hro e2
    refine ⟨_, PSs.nox (pss_cons (ps_asg (pv 2) (pg_tup rfl (pgs_cons (pg_name (i := 3) sc_fits.nd rfl (Or.inl rfl)) (pgs_cons (pg_name (i := 4) sc_fits.nd rfl (Or.inl rfl)) (pgs_cons (pg_name (i := 5) sc_fits.nd rfl (Or.inl rfl)) (pgs_cons (pg_name (i := 6) sc_fits.nd rfl (Or.inl rfl)) pgs_nil))))))
      (pss_cons (ps_asg (pe_tup (pa_cons (T.pulled.call (ok_pulled T) (hr.mono (by decide)) rfl (pa_cons (pe_ix ix_tup (pv 0) (pv 3) (fun _ _ => rfl)) (pa_cons (pv 4) pa_nil))) (pa_cons (T.pulled.call (ok_pulled T) (hr.mono (by decide)) rfl (pa_cons (pe_ix ix_tup (pv 0) (pv 5) (fun _ _ => rfl)) (pa_cons (pv 6) pa_nil))) pa_nil))) (pg_tup rfl (pgs_cons (pg_name (i := 7) sc_fits.nd rfl (Or.inr rfl)) (pgs_cons (pg_name (i := 8) sc_fits.nd rfl (Or.inr rfl)) pgs_nil))))
      (pss_one (ps_ret (pe_callB (cr_all rfl) rfl T.m_all b_all (pa_cons (pe_lc (own := [("seat", 9)]) (g := gName 9) (tt := tYes) rfl sc_fits.nd (pi_range1 rfl T.m_range (pa_cons (pe_callB call_len_seq rfl T.m_len boot_len (pa_cons (pv 1) pa_nil)) pa_nil)) (blkOk_by (own := [("seat", 9)]) (N := ["ropes", "way", "door", "near", "first", "far", "second", "ahead", "behind", "seat"]) (sc := defScope s_fits) (by decide +kernel)) (fun _ _ _ _ _ => (pg_name (i := 9) sc_fits.nd rfl (Or.inl rfl))) (fun _ _ _ _ _ => pts_nil) (fun _ _ _ _ _ => (pe_cmp (pc_eqI (pe_ix (r := rIxT K) ix_tup (pv 1) (pe_ix (r := rIxT K) ix_tup (pv 7) (pv 9) (fun _ _ => rfl)) (fun _ _ => rfl)) (pe_ix (r := rIxT K) ix_tup (pv 8) (pe_ix (r := rIxT K) ix_tup (pv 1) (pv 9) (fun _ _ => rfl)) (fun _ _ => rfl))) rfl))) pa_nil)))))), ?_⟩
    refine ⟨_, rfl, da, _, rfl, SqT.of hda, rfl, _, _, rfl, _, _, rfl, _, _, rfl, _, _, rfl, rfl, ?_⟩
    refine ⟨_, rfl, _, rfl, ro, _, _, _, rfl, rfl, SqT.of hro.1, atI_nat a1, _, rfl, p1, N, L1, d.f, rfl, r1, l1, d1, hN, fun H1 q1 s1 n1 h1 => ?_⟩
    refine ⟨_, rfl, _, rfl, ro, _, _, _, rfl, rfl, SqT.of (s1 _ _ hro.1), atI_nat a2, _, rfl, p2, N, L2, d.s, rfl, s1 _ _ r2, l2, d2, hN, fun H2 q2 s2 n2 h2 => ?_⟩
    refine ⟨(show 2 ≤ sizeLine by decide), fun t ht => ⟨t, _, rfl, SqT.of upd_same, rfl, _, _, rfl, _, _, rfl, rfl, ?_⟩⟩
    have s3 : Same H2 (upd H2 t (.tup [.ref q1, .ref q2])) := upd_S ht
    generalize upd H2 t (.tup [.ref q1, .ref q2]) = H3 at s3
    have h1' := s3 _ _ (s2 _ _ h1)
    have h2' := s3 _ _ h2
    have hw' := s3 _ _ (s2 _ _ (s1 _ _ hwa))
    have hwl : (ivs way).length = N := by rw [List.length_map, hw.len]
    refine ⟨_, rfl, wa, _, rfl, .inr (SqT.of hw'), _, rfl, by rw [hwl]; omega, by rw [hwl]; omega, ?_⟩
    rw [hwl, Int.toNat_natCast]
    refine fun D hD => lcr (lo := 0) N (List.replicate N (V.bl true)) hD (by simp) (by rw [List.length_replicate]; exact len_line (by omega)) (fun i y H4 Nx No hi hy s4 hn => ?_) (fun H4 s4 hD4 => ?_)
    · have ei : (0 : Int) + (i : Int) = (i : Int) := by omega
      rw [ei]
      rw [rep_at hy] at hn
      obtain ⟨x, x1, x2, x3⟩ := hw.fit i hi
      have hpl := RK.pl_lt (t := d.f) l1 d1 hi
      refine ⟨rfl, _, rfl, _, rfl, _, rfl, q1, _, _, _, rfl, rfl, SqT.of (s4 _ _ h1'), atI_nat (iv_at (rng_at hi)), wa, _, _, _, rfl, rfl, SqT.of (s4 _ _ hw'), atI_nat (iv_at x3), ?_⟩
      refine ⟨_, rfl, _, rfl, _, rfl, wa, _, _, _, rfl, rfl, SqT.of (s4 _ _ hw'), atI_nat (iv_at x1), q2, _, _, _, rfl, rfl, SqT.of (s4 _ _ h2'), atI_nat (iv_at (rng_at x2)), _, _, rfl, rfl, ?_⟩
      dsimp only
      rw [decide_eq_true rfl]
      exact hn _ (Same.refl _)
    · rw [rep_map] at hD4
      refine ⟨D, _, rfl, SqL.of hD4, ?_⟩
      rw [all_true (by simp)]
      exact k _ (((s1.trans s2).trans s3).trans s4)
theorem ok_Hall_init (T : Txt K mg) : FnOk P w K mg base CX0 5 T.Hall_init.a T.Hall_init.fd ["self", "house", "ropes", "ways"] (spHall T.cHall T.cHouse) := by
  refine T.Hall_init.F.ok sc_Hall_init (fun vs H Q E h => ?_) (fun cdv A0 outer s H vs Q E hr h => ?_)
  · obtain ⟨x, dx, h, ro, wa, N, R, a, ds, Ls, ws, rfl, _⟩ := h
    rfl
  · obtain ⟨x, dx, ho, ro, wa, N, R, a, ds, Ls, ws, rfl, hx, ⟨⟨dh, hh⟩, ad, hd⟩, ⟨ar, hro⟩, ⟨aw, hwa⟩, hLs, lLs, hR, hR2, hN, ⟨lws, hws⟩, hz, hN2, gL, gw, k⟩ := h
    have hsz := sizeLine_eq
    have hw : ∀ (j : Nat) wy, ws[j]? = some wy → wy.Perm (List.range N) := fun j wy e => by
      obtain ⟨d, hd⟩ : ∃ d, ds[j]? = some d := ⟨_, List.getElem?_eq_getElem (by have := (List.getElem?_eq_some_iff.mp e).1; omega)⟩
      obtain ⟨_, _, _, _, q⟩ := hws j d wy hd e
      exact q.perm
    have eL : (Ls.map (RK.ropeL N)).map ivs = Ls.map (rope N) := by rw [List.map_map]; rfl
    have hL' : ∀ l ∈ Ls.map (RK.ropeL N), l.Perm (List.range N) ∧ SetGood l := fun l hl => by
      obtain ⟨L, h1, rfl⟩ := List.mem_map.mp hl
      exact ⟨RK.ropeL_perm (hLs L h1).1 (hLs L h1).2, gL L h1⟩
    have hW' : ∀ l ∈ ws, l.Perm (List.range N) ∧ SetGood l := fun l hl => by
      obtain ⟨j, hj⟩ := List.mem_iff_getElem?.mp hl
      exact ⟨hw j l hj, gw l hl⟩
    obtain ⟨L0, e0⟩ : ∃ L0, Ls[0]? = some L0 := ⟨_, List.getElem?_eq_getElem (by omega)⟩
    obtain ⟨p0, _, b0, r0⟩ := mat_at hro e0
    have b0' : atI (ar.map V.ref) 0 = some (.ref p0) := atI_nat (j := 0) b0
    refine ⟨_, PSs.nox (pss_cons (ps_expr (T.need_house.call (ok_need_house T) (hr.mono (by decide)) rfl (pa_cons (pv 1) pa_nil)))
      (pss_cons (ps_if (pt_not (pt_val (T.are_arrangements.call (ok_are_arrangements T) (hr.mono (by decide)) rfl (pa_cons (pv 2) (pa_cons (pe_fld (pv 1) rfl) (pa_cons (T.seats_of.call (ok_seats_of T) (hr.mono (by decide)) rfl (pa_cons (pv 2) pa_nil)) pa_nil)))))) (pss_one ps_never) pss_nil)
      (pss_cons (ps_if (pt_not (pt_val (T.are_arrangements.call (ok_are_arrangements T) (hr.mono (by decide)) rfl (pa_cons (pv 3) (pa_cons (pe_callB call_len_seq rfl T.m_len boot_len (pa_cons (pe_fld (pv 1) rfl) pa_nil)) (pa_cons (pe_callB call_len_seq rfl T.m_len boot_len (pa_cons (pe_ix ix_tup (pv 2) pe_int (fun _ _ => rfl)) pa_nil)) pa_nil)))))) (pss_one ps_never) pss_nil)
      (pss_cons (ps_for PassesOwn.never rfl (pi_enumT rfl T.m_enumerate (pa_cons (pe_fld (pv 1) rfl) pa_nil)) (pg_tup rfl (pgs_cons (pg_name (i := 4) sc_Hall_init.nd rfl (Or.inl rfl)) (pgs_cons (pg_name (i := 5) sc_Hall_init.nd rfl (Or.inl rfl)) pgs_nil))) (pss_one (ps_if (pt_not (pt_val (T.fits.call (ok_fits T) (hr.mono (by decide)) rfl (pa_cons (pv 2) (pa_cons (pe_ix ix_tup (pv 3) (pv 4) (fun _ _ => rfl)) (pa_cons (pv 5) pa_nil)))))) (pss_one ps_never) pss_nil)))
      (pss_cons (ps_fld (pv 0) (pv 1) rfl)
      (pss_cons (ps_fld (pv 0) (pv 2) rfl)
      (pss_cons (ps_fld (pv 0) (pv 3) rfl)
      (pss_one (ps_fld (pv 0) (pe_callB call_len_seq rfl T.m_len boot_len (pa_cons (pe_ix ix_tup (pv 2) pe_int (fun _ _ => rfl)) pa_nil)) rfl))))))))), ?_⟩
    refine ⟨_, rfl, ho, dh, _, rfl, hh, ?_⟩
    refine ⟨_, rfl, _, rfl, ho, T.cHouse, dh, _, _, rfl, hh, T.dHouse.cl, T.nRooms, lk_rooms R a, ?_⟩
    refine ⟨_, rfl, ro, N, Ls.map (RK.ropeL N), rfl, ⟨ar, by rw [eL]; exact hro⟩, hL', hN, by rw [List.length_map]; omega, fun H1 s1 => ?_⟩
    refine ⟨ro, N, Ls.map (RK.ropeL N), by rw [List.length_map, lLs]; rfl, ⟨ar, by rw [eL]; exact hro.same s1⟩, hL', hN, by rw [List.length_map]; omega, fun H2 s2 => ⟨true, rfl, iteF ?_⟩⟩
    have s12 := s1.trans s2
    refine ⟨_, rfl, _, rfl, ho, T.cHouse, dh, _, _, rfl, s12 _ _ hh, T.dHouse.cl, T.nDoors, lk_doors R a, a, _, rfl, .inr (SqT.of (s12 _ _ hd.1)), ?_⟩
    refine ⟨_, rfl, ro, _, _, _, rfl, rfl, SqT.of (s12 _ _ hro.1), b0', p0, _, rfl, .inr (SqT.of (s12 _ _ r0)), ?_⟩
    refine ⟨wa, N, ws, ?_, ⟨aw, hwa.same s12⟩, hW', hN, by omega, fun H3 s3 => ⟨true, rfl, iteF ?_⟩⟩
    · rw [rope_len, List.length_map, mat_len hd, lws]
      rfl
    have s13 := s12.trans s3
    refine ⟨_, rfl, ho, T.cHouse, dh, _, _, rfl, s13 _ _ hh, T.dHouse.cl, T.nDoors, lk_doors R a, a, _, rfl, SqT.of (s13 _ _ hd.1), for_enT (K := K) (a := a) (xs := ad.map V.ref) (fun i σ H' => ∃ v4 v5, σ = [some (.ref x), some (.ref ho), some (.ref ro), some (.ref wa), v4, v5] ∧ Same H H') ⟨_, _, rfl, s13⟩ (fun i σ H' _ p => ?_) ?_ ?_⟩
    · obtain ⟨_, _, _, z⟩ := p
      exact SqT.of (z _ _ hd.1)
    · rintro j y Tp σ H4 hy ⟨v4, v5, rfl, s4⟩ nT
      obtain ⟨p, d, rfl, h1, h2, h3⟩ := mat_in hd hy
      obtain ⟨wy, hwy⟩ : ∃ wy, ws[j]? = some wy := ⟨_, List.getElem?_eq_getElem (by have := (List.getElem?_eq_some_iff.mp h2).1; omega)⟩
      obtain ⟨pw, _, w2, w3⟩ := mat_at hwa hwy
      obtain ⟨L1, L2, q1, q2, q3⟩ := hws j d wy h2 hwy
      refine ⟨Tp, _, rfl, SqT.of upd_same, rfl, _, _, rfl, _, _, rfl, rfl, ?_⟩
      have s5 : Same H (upd H4 Tp (.tup [iv j, .ref p])) := s4.trans (upd_S nT)
      generalize upd H4 Tp (.tup [iv j, .ref p]) = H5 at s5
      refine ⟨_, rfl, _, rfl, _, rfl, wa, _, _, _, rfl, rfl, SqT.of (s5 _ _ hwa.1), atI_nat w2, _, rfl, ro, pw, p, N, L1, L2, Ls, wy, d, rfl, ⟨ar, hro.same s5⟩, hLs, hN2, s5 _ _ w3, s5 _ _ h3, q1, q2, q3, fun H6 s6 => ⟨true, rfl, iteF ⟨_, _, rfl, s5.trans s6⟩⟩⟩
    · rintro σ H4 ⟨v4, v5, rfl, s4⟩
      refine ⟨_, rfl, _, rfl, x, T.cHall, dx, [], rfl, s4 _ _ hx, T.dHall.cl, T.nHouse, by decide, ?_⟩
      refine ⟨_, rfl, _, rfl, x, T.cHall, dx, _, rfl, upd_same, T.dHall.cl, T.nRopes, (by show 1 < 1000; decide), ?_⟩
      refine ⟨_, rfl, _, rfl, x, T.cHall, dx, _, rfl, upd_same, T.dHall.cl, T.nWays, (by show 2 < 1000; decide), ?_⟩
      have nx : ∀ {b : Addr} {xs : List V}, H b = some (.tup xs) → b ≠ x := fun e => ne_of e hx (by intro z; cases z)
      have get : ∀ {b : Addr} {xs : List V} {u v w : HO}, H b = some (.tup xs) → upd (upd (upd H4 x u) x v) x w b = some (.tup xs) := fun {b xs u v w} e => by
        rw [upd_ne (nx e), upd_ne (nx e), upd_ne (nx e)]
        exact s4 _ _ e
      refine ⟨_, rfl, ro, _, _, _, rfl, rfl, SqT.of (get hro.1), b0', p0, _, rfl, .inr (SqT.of (get r0)), _, rfl, x, T.cHall, dx, _, rfl, upd_same, T.dHall.cl, T.nSeats, (by show 3 < 1000; decide), ?_⟩
      rw [rope_len]
      refine k _ upd_same fun b o hb hn => ?_
      rw [upd_ne hn, upd_ne hn, upd_ne hn, upd_ne hn]
      exact s4 _ _ hb
end
end PR
/-! text W10 -/
set_option Elab.async false
set_option linter.all false
set_option maxRecDepth 100000
set_option maxHeartbeats 4000000
namespace PR
open PySem PySem.Spec PyProof.Rows L2
theorem bt_mod {L q : Nat} : q * L + (if L = L then 0 else L) = q * L := by rw [if_pos rfl]; rfl
section
variable {P : Program} {w : World} {K : PySem.W.Frag} {mg : Str → Option Value} {base : Heap}
theorem ok_return_of (T : Txt K mg) : FnOk P w K mg base CX0 2 T.return_of.a T.return_of.fd ["rope"] spReturnOf := by
  refine T.return_of.F.ok sc_return_of (fun vs H Q E h => ?_) (fun cdv A0 outer s H vs Q E hr h => ?_)
  · obtain ⟨a, N, L, rfl, _⟩ := h
    rfl
  · obtain ⟨a, N, L, rfl, ha, hL, hd, hN0, hN, k⟩ := h
    have hu := hu_of hr
    have hNL : N / L * L = N := Nat.div_mul_cancel hd
    have hLN : L ≤ N := Nat.le_of_dvd hN0 hd
    have hz := sizeLine_eq
    refine ⟨_, PSs.nox (pss_cons (ps_par (i := 1) (j := 2) rfl sc_return_of.nd rfl rfl (by decide) rfl rfl (pa_cons pe_int (pa_cons pe_dnewK pa_nil)) rfl)
      (pss_cons (ps_for PassesOwn.never rfl (pi_range1 rfl T.m_range (pa_cons (pe_callB call_len_seq rfl T.m_len boot_len (pa_cons (pv 0) pa_nil)) pa_nil)) (pg_name (i := 3) sc_return_of.nd rfl (Or.inl rfl)) (pss_cons (ps_par (i := 4) (j := 5) rfl sc_return_of.nd rfl rfl (by decide) rfl rfl (pa_cons (pv 3) (pa_cons pe_int pa_nil)) rfl)
      (pss_cons (ps_while PassesOwn.never (pt_cmp (pc_dnotin hu (pv 4) (pv 2))) (pss_cons (ps_dput hu (pv 2) (pv 4) pe_bl rfl)
      (pss_one (ps_par (i := 4) (j := 5) rfl sc_return_of.nd rfl rfl (by decide) rfl rfl (pa_cons (pe_ix ix_tup (pv 0) (pv 4) (fun _ _ => rfl)) (pa_cons (pe_op op_add (pv 5) pe_int) pa_nil)) rfl))))
      (pss_one (ps_set (i := 1) sc_return_of.nd rfl (Or.inl rfl) (T.least_common.call (ok_least_common T) (hr.mono (by decide)) rfl (pa_cons (pe_lst (pa_cons (pv 1) (pa_cons (pe_callB (call_max2 rfl) rfl T.m_max b_max (pa_cons (pv 5) (pa_cons pe_int pa_nil))) pa_nil))) pa_nil)))))))
      (pss_one (ps_ret (pv 1))))), ?_⟩
    refine fun M nM => ⟨_, _, rfl, ?_⟩
    have s0 := upd_S (o := .dK []) nM
    refine ⟨_, rfl, a, _, rfl, .inr (SqT.of (s0 _ _ ha)), _, rfl, by rw [rope_len]; omega, by rw [rope_len]; omega, ?_⟩
    rw [rope_len, Int.toNat_natCast]
    refine for_range (lo := 0) (n := N) (fun i σ H' => ∃ q v3 v4 v5, q ≤ N / L ∧ i ≤ q * L ∧ q * L < i + L ∧ σ = [some (.ref a), some (iv (if i = 0 then 1 else L)), some (.ref M), v3, v4, v5] ∧ Same H H' ∧ H' M = some (.dK (mp bt (List.range (q * L)))))
      ⟨0, _, _, _, Nat.zero_le _, by omega, by omega, rfl, s0, by rw [upd_same, Nat.zero_mul]; rfl⟩ ?_ ?_
    · rintro i σ H1 hi ⟨q, v3, v4, v5, q0, q1, q2, rfl, s1, hM⟩
      have ei : (0 : Int) + (i : Int) = (i : Int) := by omega
      rw [ei]
      -- behind the walk: the number of steps is c, the list of both numbers new
      have fin : ∀ (c q' : Nat) (u : Option V) (H2 : Hp), Same H H2 → H2 M = some (.dK (mp bt (List.range (q' * L)))) → q' ≤ N / L → i + 1 ≤ q' * L → q' * L < i + 1 + L → (c = L ∨ (c = 0 ∧ i ≠ 0)) → ∀ p, H2 p = none → 
          ∃ (a' : Addr) (ns : List Nat), [V.ref p] = [V.ref a'] ∧ (upd H2 p (.lst [iv (if i = 0 then 1 else L), .int (if (1 : Int) > (c : Int) then 1 else (c : Int))]) a' = some (.tup (ivs ns)) ∨ upd H2 p (.lst [iv (if i = 0 then 1 else L), .int (if (1 : Int) > (c : Int) then 1 else (c : Int))]) a' = some (.lst (ivs ns))) ∧ (∀ n ∈ ns, 0 < n ∧ n < 100000000) ∧
            (∃ q v3 v4 v5, q ≤ N / L ∧ i + 1 ≤ q * L ∧ q * L < i + 1 + L ∧ [some (V.ref a), some (iv (lcmL ns)), some (.ref M), some (iv i), u, some (iv c)] = [some (.ref a), some (iv (if i + 1 = 0 then 1 else L)), some (.ref M), v3, v4, v5] ∧ Same H (upd H2 p (.lst [iv (if i = 0 then 1 else L), .int (if (1 : Int) > (c : Int) then 1 else (c : Int))])) ∧ (upd H2 p (.lst [iv (if i = 0 then 1 else L), .int (if (1 : Int) > (c : Int) then 1 else (c : Int))])) M = some (.dK (mp bt (List.range (q * L))))) := by
        intro c q' u H2 s2 hM2 z0 z1 z2 hc p hp
        have e1 : (if (1 : Int) > (c : Int) then (1 : Int) else (c : Int)) = ((if c = 0 then 1 else c : Nat) : Int) := by
          split <;> split <;> omega
        rw [e1]
        have hl : lcmL [if i = 0 then 1 else L, if c = 0 then 1 else c] = L := by
          show Nat.lcm (Nat.lcm 1 (if i = 0 then 1 else L)) (if c = 0 then 1 else c) = L
          rw [Nat.lcm_one_left]
          rcases hc with rfl | ⟨rfl, hi0⟩
          · rw [if_neg (show ¬ c = 0 by omega)]
            split
            · exact Nat.lcm_one_left _
            · exact Nat.lcm_self _
          · rw [if_neg hi0, if_pos rfl]
            exact Nat.lcm_one_right _
        refine ⟨p, [if i = 0 then 1 else L, if c = 0 then 1 else c], rfl, .inr upd_same, fun n hn => ?_, q', some (iv i), u, some (iv c), z0, z1, z2, ?_, s2.trans (upd_S hp), upd_S hp _ _ hM2⟩
        · rcases List.mem_cons.mp hn with rfl | hn
          · split <;> omega
          · rcases List.mem_cons.mp hn with rfl | hn
            · rcases hc with rfl | ⟨rfl, _⟩
              · split <;> omega
              · rw [if_pos rfl]
                omega
            · cases hn
        · rw [hl, if_neg (Nat.succ_ne_zero i)]
      refine ⟨_, rfl, _, _, rfl, ?_⟩
      by_cases h : i < q * L
      · refine ⟨fun m σ H' => σ = [some (.ref a), some (iv (if i = 0 then 1 else L)), some (.ref M), some (iv i), some (iv i), some (iv 0)] ∧ H' = H1, ⟨0, rfl, rfl⟩, ?_⟩
        rintro m σ H' ⟨rfl, rfl⟩
        refine ⟨_, rfl, _, rfl, _, _, rfl, DGet.k (k := ik i) hM, _, rfl, ?_⟩
        rw [mp_in (List.mem_range.mpr h)]
        refine iteF ⟨_, rfl, _, rfl, _, _, rfl, (show 2 ≤ sizeLine by decide), fun p hp => ?_⟩
        have hi0 : i ≠ 0 := by
          intro e
          subst e
          rcases Nat.eq_zero_or_pos q with e | e
          · rw [e, Nat.zero_mul] at h
            omega
          · have := Nat.mul_le_mul_right L e
            omega
        exact fin 0 q (some (iv i)) H' s1 hM q0 (by omega) (by omega) (.inr ⟨rfl, hi0⟩) p hp
      · have eiq : i = q * L := by omega
        have hq : q < N / L := by
          refine Nat.lt_of_not_le fun z => ?_
          have := Nat.mul_le_mul_right L z
          omega
        have hle := bl_le hd hq
        refine ⟨fun m σ H' => ∃ j, j ≤ L ∧ m = L - j ∧ σ = [some (.ref a), some (iv (if i = 0 then 1 else L)), some (.ref M), some (iv i), some (iv (q * L + j % L)), some (iv j)] ∧ Same H H' ∧ H' M = some (.dK (mp bt (List.range (q * L + j)))), ⟨_, 0, Nat.zero_le _, rfl, by rw [Nat.zero_mod, eiq]; rfl, s1, hM⟩, ?_⟩
        rintro m σ H' ⟨j, hj, rfl, rfl, s2, hM2⟩
        refine ⟨_, rfl, _, rfl, _, _, rfl, DGet.k (k := ik (q * L + j % L)) hM2, _, rfl, ?_⟩
        by_cases c : j = L
        · subst c
          rw [Nat.mod_self, mp_in (List.mem_range.mpr (by omega))]
          refine iteF ⟨_, rfl, _, rfl, _, _, rfl, (show 2 ≤ sizeLine by decide), fun p hp => ?_⟩
          exact fin j (q + 1) _ H' s2 (by rw [Nat.succ_mul]; exact hM2) hq (by rw [Nat.succ_mul]; omega) (by rw [Nat.succ_mul]; omega) (.inl rfl) p hp
        · have hjm : j % L = j := Nat.mod_eq_of_lt (by omega)
          rw [hjm, mp_out (by rw [List.mem_range]; omega)]
          refine iteT ⟨_, fun σ' H' q => q, _, rfl, _, rfl, M, _, rfl, DPut.k (k := ik (q * L + j)) hM2 (by rw [mp_len, List.length_range]; omega), ?_⟩
          rw [show V.bl true = bt (q * L + j) from rfl, mp_put (by simp), ← List.range_succ]
          have hMt : ∀ {b : Addr} {xs : List V} {u : HO}, H' b = some (.tup xs) → upd H' M u b = some (.tup xs) := fun e => by
            rw [upd_ne (ne_of e hM2 (by intro z; cases z))]
            exact e
          refine ⟨_, rfl, _, rfl, a, _, _, _, rfl, rfl, SqT.of (hMt (s2 _ _ ha)), atI_nat (rope_at (by omega)), _, rfl, _, _, rfl, rfl, _, _, rfl, L - (j + 1), by omega, j + 1, by omega, rfl, ?_, same_updN s2 nM, upd_same⟩
          rw [rp_blk (by omega)]
          rfl
    · rintro σ H1 ⟨q, v3, v4, v5, q0, q1, q2, rfl, s1, hM⟩
      refine ⟨_, rfl, ?_⟩
      rw [if_neg (show ¬ N = 0 by omega)]
      exact k _ s1
theorem ok_returns_of (T : Txt K mg) : FnOk P w K mg base CX0 3 T.returns_of.a T.returns_of.fd ["hall"] (spReturnsOf T.cHall) := by
  refine T.returns_of.F.ok sc_returns_of (fun vs H Q E h => ?_) (fun cdv A0 outer s H vs Q E hr h => ?_)
  · obtain ⟨x, dx, h, ro, wa, N, Ls, rfl, _⟩ := h
    rfl
  · obtain ⟨x, dx, ho, ro, wa, N, Ls, rfl, hx, ⟨as, hro⟩, hLs, hN0, hN, hz, k⟩ := h
    have hsz := sizeLine_eq
    refine ⟨_, PSs.nox (pss_cons (ps_expr (T.need_hall.call (ok_need_hall T) (hr.mono (by decide)) rfl (pa_cons (pv 0) pa_nil)))
      (pss_one (ps_ret (pe_callTy call_tuple_of rfl T.m_tuple b_tuple (pa_cons (pe_lc (own := [("rope", 1)]) (g := gName 1) (tt := tYes) rfl sc_returns_of.nd (pi_tup (pe_fld (pv 0) rfl)) (blkOk_by (own := [("rope", 1)]) (N := ["hall", "rope"]) (sc := defScope s_returns_of) (by decide +kernel)) (fun _ _ _ _ _ => (pg_name (i := 1) sc_returns_of.nd rfl (Or.inl rfl))) (fun _ _ _ _ _ => pts_nil) (fun _ _ _ _ _ => (T.return_of.call (ok_return_of T) (hr.mono (by decide)) rfl (pa_cons (pv 1) pa_nil)))) pa_nil))))), ?_⟩
    refine ⟨_, rfl, x, dx, _, rfl, hx, ?_⟩
    refine ⟨_, rfl, x, T.cHall, dx, _, _, rfl, hx, T.dHall.cl, T.nRopes, lk_ropes ho ro wa N, ro, rfl, ⟨_, SqT.of hro.1⟩, fun D hD => lct (ivs Ls) (SqT.of hro.1) hD (by rw [List.length_map, List.length_map, mat_len hro]) (by rw [List.length_map]; omega) (fun i y z H' Nx No hy hz s1 hn => ?_) (fun H' s1 hD1 => ?_)⟩
    · obtain ⟨p, L, rfl, h1, h2, h3⟩ := mat_in hro hy
      obtain ⟨l1, l2⟩ := hLs L (List.mem_of_getElem? h2)
      rw [iv_at h2] at hz
      cases hz
      exact ⟨rfl, _, rfl, p, N, L, rfl, s1 _ _ h3, l1, l2, hN0, hN, fun H4 s4 => hn _ s4⟩
    · refine ⟨D, _, rfl, .inl ⟨SqL.of hD1, fun l hl => ?_⟩⟩
      exact k _ l (s1.trans (upd_S hl)) (s1.free hl) upd_same
theorem quo (x f : Nat) : ((x : Int) / ((f : Nat) : Int)) = ((x / f : Nat) : Int) := (Int.natCast_ediv x f).symm
theorem ok_fits_doors (T : Txt K mg) : FnOk P w K mg base CX0 1 T.fits_doors.a T.fits_doors.fd ["house", "numbers"] (spFitsDoors T.cHouse) := by
  refine T.fits_doors.F.ok sc_fits_doors (fun vs H Q E h => ?_) (fun cdv A0 outer s H vs Q E hr h => ?_)
  · obtain ⟨x, na, R, a, ds, ns, rfl, _⟩ := h
    rfl
  · obtain ⟨x, na, R, a, ds, ns, rfl, ⟨⟨dx, hx⟩, as, hd⟩, hn, hf, hb, k⟩ := h
    refine ⟨_, PSs.nox (pss_cons (ps_for PassesOwn.never rfl (pi_tup (pe_fld (pv 0) rfl)) (pg_tup rfl (pgs_cons (pg_name (i := 2) sc_fits_doors.nd rfl (Or.inl rfl)) (pgs_cons (pg_name (i := 3) sc_fits_doors.nd rfl (Or.inl rfl)) (pgs_cons (pg_name (i := 4) sc_fits_doors.nd rfl (Or.inl rfl)) (pgs_cons (pg_name (i := 5) sc_fits_doors.nd rfl (Or.inl rfl)) pgs_nil))))) (pss_one (ps_if (pt_cmpR op_ne (pe_op op_fdiv (pe_ix ix_tup (pv 1) (pv 2) (fun _ _ => rfl)) (pe_callBfun cr_gcd rfl T.gcd (pa_cons (pe_ix ix_tup (pv 1) (pv 2) (fun _ _ => rfl)) (pa_cons (pv 3) pa_nil)))) (pe_op op_fdiv (pe_ix ix_tup (pv 1) (pv 4) (fun _ _ => rfl)) (pe_callBfun cr_gcd rfl T.gcd (pa_cons (pe_ix ix_tup (pv 1) (pv 4) (fun _ _ => rfl)) (pa_cons (pv 5) pa_nil)))) (nomark _)) (pss_one (ps_ret pe_bl)) pss_nil)))
      (pss_one (ps_ret pe_bl))), ?_⟩
    refine ⟨_, rfl, x, T.cHouse, dx, _, _, rfl, hx, T.dHouse.cl, T.nDoors, lk_doors R a, a, rfl, ⟨_, SqT.of hd.1⟩, for_tup (K := K) (a := a) (xs := as.map V.ref) (fun i σ H' => H' = H ∧ ∃ v2 v3 v4 v5, σ = [some (.ref x), some (.ref na), v2, v3, v4, v5]) ⟨rfl, _, _, _, _, rfl⟩ (fun i σ H' _ p => by rw [p.1]; exact SqT.of hd.1) ?_ ?_⟩
    · rintro i y σ H' hy ⟨rfl, v2, v3, v4, v5, rfl⟩
      obtain ⟨p, d, rfl, h1, h2, h3⟩ := mat_in hd hy
      obtain ⟨u, v, e1, e2, e3⟩ := hf d (List.mem_of_getElem? h2)
      obtain ⟨u1, u2⟩ := hb u (List.mem_of_getElem? e1)
      obtain ⟨v1, v2⟩ := hb v (List.mem_of_getElem? e2)
      have g1 := Nat.gcd_pos_of_pos_left d.f.natAbs u1
      have g2 := Nat.gcd_le_left d.f.natAbs u1
      have g3 := Nat.gcd_pos_of_pos_left d.s.natAbs v1
      have g4 := Nat.gcd_le_left d.s.natAbs v1
      refine ⟨p, _, rfl, SqT.of h3, rfl, _, _, rfl, _, _, rfl, _, _, rfl, _, _, rfl, rfl, ?_⟩
      refine ⟨_, rfl, _, rfl, na, _, _, _, rfl, rfl, SqT.of hn, atI_nat (iv_at e1), _, rfl, _, rfl, na, _, _, _, rfl, rfl, SqT.of hn, atI_nat (iv_at e1), _, rfl, _, _, rfl, _, _, rfl, rfl, ⟨by rw [Int.natAbs_natCast]; omega, by rw [Int.natAbs_natCast]; omega⟩, ?_⟩
      refine ⟨_, rfl, _, rfl, na, _, _, _, rfl, rfl, SqT.of hn, atI_nat (iv_at e2), _, rfl, _, rfl, na, _, _, _, rfl, rfl, SqT.of hn, atI_nat (iv_at e2), _, rfl, _, _, rfl, _, _, rfl, rfl, ⟨by rw [Int.natAbs_natCast]; omega, by rw [Int.natAbs_natCast]; omega⟩, ?_⟩
      rw [Int.natAbs_natCast, Int.natAbs_natCast]
      dsimp only
      rw [quo, quo, e3]
      refine ⟨rfl, _, rfl, ?_⟩
      rw [decide_eq_true rfl]
      exact iteF ⟨rfl, _, _, _, _, rfl⟩
    · rintro σ H' ⟨rfl, v2, v3, v4, v5, rfl⟩
      exact k
theorem all_false {bs : List Bool} (h : ∀ b ∈ bs, b = false) : bs.any id = false := List.any_eq_false.mpr fun b hb => by rw [h b hb]; decide
theorem rep_mapf (n : Nat) : List.replicate n (V.bl false) = (List.replicate n false).map V.bl := by simp
theorem rep_atf {n i : Nat} {y : V} (h : (List.replicate n (V.bl false))[i]? = some y) : y = .bl false := by
  rw [List.getElem?_replicate] at h
  split at h
  · exact (Option.some.inj h).symm
  · cases h
theorem ok_are_fitting (T : Txt K mg) : FnOk P w K mg base CX0 3 T.are_fitting.a T.are_fitting.fd ["house", "thing"] (spAreFitting T.cHouse) := by
  refine T.are_fitting.F.ok sc_are_fitting (fun vs H Q E h => ?_) (fun cdv A0 outer s H vs Q E hr h => ?_)
  · obtain ⟨x, na, R, a, ds, ns, rfl, _⟩ := h
    rfl
  · obtain ⟨x, na, R, a, ds, ns, rfl, hH, hn, hf, hb, hR, hR2, k⟩ := h
    have hH0 := hH
    obtain ⟨⟨dx, hx⟩, as, hd⟩ := hH
    refine ⟨_, PSs.nox (pss_cons (ps_expr (T.need_house.call (ok_need_house T) (hr.mono (by decide)) rfl (pa_cons (pv 0) pa_nil)))
      (pss_cons (ps_if (PW.pt (pw_or (pt_not (pt_val (T.are_numbers.call (ok_are_numbers T) (hr.mono (by decide)) rfl (pa_cons (pv 1) pa_nil)))) (pw_or (pt_cmpR op_ne (pe_callB call_len_seq rfl T.m_len boot_len (pa_cons (pv 1) pa_nil)) (pe_fld (pv 0) rfl) (nomark _)) (pw_or1 (pt_val (pe_callB (cr_any rfl) rfl T.m_any b_any (pa_cons (pe_lc (own := [("item", 2)]) (g := gName 2) (tt := tYes) rfl sc_are_fitting.nd (pi_tup (pv 1)) (blkOk_by (own := [("item", 2)]) (N := ["house", "thing", "item"]) (sc := defScope s_are_fitting) (by decide +kernel)) (fun _ _ _ _ _ => (pg_name (i := 2) sc_are_fitting.nd rfl (Or.inl rfl))) (fun _ _ _ _ _ => pts_nil) (fun _ _ _ _ _ => (pe_cmp (pc_lt (pv 2) pe_int) rfl))) pa_nil))))))) (pss_one (ps_ret pe_bl)) pss_nil)
      (pss_one (ps_ret (T.fits_doors.call (ok_fits_doors T) (hr.mono (by decide)) rfl (pa_cons (pv 0) (pa_cons (pv 1) pa_nil))))))), ?_⟩
    refine ⟨_, rfl, x, dx, _, rfl, hx, ?_⟩
    refine ⟨_, rfl, na, ns, rfl, hn, by omega, fun H1 s1 => ⟨true, rfl, iteF ?_⟩⟩
    refine ⟨_, rfl, na, _, rfl, .inr (SqT.of (s1 _ _ hn)), _, rfl, x, T.cHouse, dx, _, _, rfl, s1 _ _ hx, T.dHouse.cl, T.nRooms, lk_rooms R a, rfl, false, ?_, iteF ?_⟩
    · rw [List.length_map, hR, decide_eq_true rfl]
      rfl
    refine ⟨_, rfl, na, rfl, ⟨_, SqT.of (s1 _ _ hn)⟩, fun D hD => lct (List.replicate ns.length (V.bl false)) (SqT.of (s1 _ _ hn)) hD (by simp) (by rw [List.length_replicate]; exact len_line (by omega)) (fun i y z H' Nx No hy hz s2 hnx => ?_) (fun H' s2 hD1 => ?_)⟩
    · obtain ⟨n, hi, rfl⟩ := ivs_at hy
      rw [rep_atf hz] at hnx
      refine ⟨rfl, _, rfl, _, _, rfl, rfl, ?_⟩
      dsimp only
      rw [decide_eq_false (by have := hb n (List.mem_of_getElem? hi); omega)]
      exact hnx _ (Same.refl _)
    · rw [rep_mapf] at hD1
      refine ⟨D, _, rfl, SqL.of hD1, ?_⟩
      rw [all_false (by simp)]
      have s12 := s1.trans s2
      exact ⟨false, rfl, iteF ⟨_, rfl, _, rfl, x, na, R, a, ds, ns, rfl, hH0.same s12, s12 _ _ hn, hf, hb, k _ s12⟩⟩
theorem ok_need_fitting (T : Txt K mg) : FnOk P w K mg base CX0 4 T.need_fitting.a T.need_fitting.fd ["house", "fitting"] (spNeedFitting T.cHouse) := by
  refine T.need_fitting.F.ok sc_need_fitting (fun vs H Q E h => ?_) (fun cdv A0 outer s H vs Q E hr h => ?_)
  · obtain ⟨x, na, R, a, ds, ns, rfl, _⟩ := h
    rfl
  · obtain ⟨x, na, R, a, ds, ns, rfl, hH, hn, hf, hb, hR, hR2, k⟩ := h
    refine ⟨_, PSs.nox (pss_one (ps_if (pt_not (pt_val (T.are_fitting.call (ok_are_fitting T) (hr.mono (by decide)) rfl (pa_cons (pv 0) (pa_cons (pv 1) pa_nil))))) (pss_one ps_never) pss_nil)), ?_⟩
    exact ⟨_, rfl, _, rfl, x, na, R, a, ds, ns, rfl, hH, hn, hf, hb, hR, hR2, fun H1 s1 => ⟨true, rfl, iteF (k _ s1)⟩⟩
end
end PR
/-! text W11 -/
set_option Elab.async false
set_option linter.all false
set_option maxRecDepth 100000
set_option maxHeartbeats 4000000
namespace PR
open PySem PySem.Spec PyProof.Rows L2
theorem rsz {N L : Nat} (hL : 0 < L) (hd : L ∣ N) : Builtin.Range.rangeSize 0 (N : Int) (L : Int) = ((N / L : Nat) : Int) := by
  unfold Builtin.Range.rangeSize
  rw [if_pos (by omega)]
  obtain ⟨k, rfl⟩ := hd
  rw [Nat.mul_div_cancel_left _ hL]
  rcases Nat.eq_zero_or_pos k with rfl | hk
  · simp
  · rw [if_pos (by have := Nat.mul_pos hL hk; omega)]
    have e : ((L * k : Nat) : Int) - 0 - 1 = (L : Int) * ((k : Int) - 1) + ((L : Int) - 1) := by
      rw [Int.natCast_mul, Int.mul_sub, Int.mul_one]
      omega
    rw [e, Int.mul_add_ediv_left _ _ (by omega), Int.ediv_eq_zero_of_lt (by omega) (by omega)]
    omega
theorem rgc {N L : Nat} (hL : 0 < L) (hd : L ∣ N) (hN : N ≤ 5000) (hL2 : L ≤ 100000000) : RgC 0 (N : Int) (L : Int) (N / L) := by
  have hq := Nat.div_le_self N L
  have h0 : (0 : Int) ≤ (N : Int) / (L : Int) := Int.ediv_nonneg (by omega) (by omega)
  refine ⟨by omega, by omega, ?_, rsz hL hd⟩
  unfold Builtin.Range.small
  rw [rsz hL hd]
  simp only [Builtin.Range.rangeFitsLong, Bool.and_eq_true, Bool.or_eq_true, decide_eq_true_eq, beq_iff_eq, show ((L : Int) > 0) by omega, if_true]
  omega
/-- a row of the grid -/
def row (L : Nat) (f : Int) (k : Nat) : List V := ivs ((List.range (L / Nat.gcd L f.natAbs)).map (RK.hs L f k))
theorem grid_eq (N L : Nat) (f : Int) : grid N L f = (List.range (N / L * Nat.gcd L f.natAbs)).map (row L f) := rfl
theorem hs_at {L g b t : Nat} {f : Int} (hg : g = Nat.gcd L f.natAbs) (ht : t < g) (j : Nat) : RK.hs L f (b * g + t) j = b * L + ((((t : Nat) : Int) + f * (j : Int)) % (L : Int)).toNat := by
  subst hg
  unfold RK.hs
  rw [RK.blk_div ht, RK.blk_mod ht]
theorem mat_snoc {o i : List V → HO} {H : Hp} {a : Addr} {as : List Addr} {vss : List (List V)} (m : Mat o i H a as vss) {p : Addr} {vs : List V} (hp : H p = some (i vs)) (na : p ≠ a) (nas : a ∉ as) :
    Mat o i (upd H a (o (as.map V.ref ++ [.ref p]))) a (as ++ [p]) (vss ++ [vs]) := by
  refine ⟨by rw [upd_same, List.map_append]; rfl, by rw [List.length_append, List.length_append, m.2.1]; rfl, fun j ws hj => ?_⟩
  by_cases c : j < vss.length
  · rw [List.getElem?_append_left c] at hj
    obtain ⟨q, e1, e2⟩ := m.2.2 j ws hj
    refine ⟨q, by rw [List.getElem?_append_left (by rw [m.2.1]; exact c)]; exact e1, ?_⟩
    rw [upd_ne (fun z => nas (by rw [← z]; exact List.mem_of_getElem? e1))]
    exact e2
  · rw [List.getElem?_append_right (by omega)] at hj
    have ej : j = vss.length := by
      have := (List.getElem?_eq_some_iff.mp hj).1
      simp at this
      omega
    subst ej
    rw [Nat.sub_self] at hj
    cases hj
    refine ⟨p, by rw [List.getElem?_append_right (by rw [m.2.1]; exact Nat.le_refl _), m.2.1, Nat.sub_self]; rfl, ?_⟩
    rw [upd_ne na]
    exact hp
section
variable {P : Program} {w : World} {K : PySem.W.Frag} {mg : Str → Option Value} {base : Heap}
theorem ok_even_rounds (T : Txt K mg) : FnOk P w K mg base CX0 1 T.even_rounds.a T.even_rounds.fd ["seats", "length", "pulls"] spEven := by
  refine T.even_rounds.F.ok sc_even_rounds (fun vs H Q E h => ?_) (fun cdv A0 outer s H vs Q E hr h => ?_)
  · obtain ⟨N, L, f, rfl, _⟩ := h
    rfl
  · obtain ⟨N, L, f, rfl, hL, hd, hL2, hN, hf, k⟩ := h
    have hz := sizeLine_eq
    obtain ⟨g, hg⟩ : ∃ g, g = Nat.gcd L f.natAbs := ⟨_, rfl⟩
    have gp : 0 < g := by rw [hg]; exact RK.g_pos hL
    have gL : g ≤ L := by rw [hg]; exact Nat.gcd_le_left _ hL
    have hNg : N / L * g ≤ N := Nat.le_trans (Nat.mul_le_mul_left _ gL) (Nat.div_mul_le_self N L)
    have hgL : g * (L / g) = L := Nat.mul_div_cancel' (by rw [hg]; exact Nat.gcd_dvd_left _ _)
    have hLN : L / g ≤ L := Nat.div_le_self _ _
    refine ⟨_, PSs.nox (pss_cons (ps_par (i := 3) (j := 4) rfl sc_even_rounds.nd rfl rfl (by decide) rfl rfl (pa_cons (pe_lst pa_nil) (pa_cons (pe_callBfun cr_gcd rfl T.gcd (pa_cons (pv 1) (pa_cons (pv 2) pa_nil))) pa_nil)) rfl)
      (pss_cons (ps_for PassesOwn.never rfl (pi_range3 rfl T.m_range (pa_cons pe_int (pa_cons (pv 0) (pa_cons (pv 1) pa_nil)))) (pg_name (i := 5) sc_even_rounds.nd rfl (Or.inr rfl)) (pss_one (ps_for PassesOwn.never rfl (pi_range1 rfl T.m_range (pa_cons (pv 4) pa_nil)) (pg_name (i := 6) sc_even_rounds.nd rfl (Or.inr rfl)) (pss_cons (ps_setLc (i := 7) (own := [("step", 8)]) (g := gName 8) (tt := tYes) rfl sc_even_rounds.nd rfl rfl (sw_true rfl rfl rfl (by decide +kernel)) (pi_range1 rfl T.m_range (pa_cons (pe_op op_fdiv (pv 1) (pv 4)) pa_nil)) (blkOk_by (own := [("step", 8)]) (N := ["seats", "length", "pulls", "found", "many", "start", "turn", "spots", "step", "spot"]) (sc := defScope s_even_rounds) (by decide +kernel)) (fun _ _ _ _ _ => (pg_name (i := 8) sc_even_rounds.nd rfl (Or.inl rfl))) (fun _ _ _ _ _ => pts_nil) (fun _ _ _ _ _ => (pe_op op_add (pv 6) (pe_op op_mul (pv 2) (pv 8)))))
      (pss_one (ps_expr (pe_bm PySem.F.plainAttrs_list PySem.F.slot_list_append PySem.F.type_list_append mt_append (pv 3) (pa_cons (pe_lc (own := [("spot", 9)]) (g := gName 9) (tt := tYes) rfl sc_even_rounds.nd (pi_list (pv 7)) (blkOk_by (own := [("spot", 9)]) (N := ["seats", "length", "pulls", "found", "many", "start", "turn", "spots", "step", "spot"]) (sc := defScope s_even_rounds) (by decide +kernel)) (fun _ _ _ _ _ => (pg_name (i := 9) sc_even_rounds.nd rfl (Or.inl rfl))) (fun _ _ _ _ _ => pts_nil) (fun _ _ _ _ _ => (pe_op op_sub (pe_op op_add (pv 5) (pv 9)) (pe_op op_mul (pe_op op_fdiv (pv 9) (pv 1)) (pv 1))))) pa_nil))))))))
      (pss_one (ps_ret (pv 3))))), ?_⟩
    refine ⟨(show 0 ≤ sizeLine by decide), fun F nF => ⟨_, rfl, _, rfl, _, _, rfl, ?_⟩⟩
    rw [Int.natAbs_natCast, ← hg]
    refine ⟨_, _, rfl, ?_⟩
    refine ⟨_, rfl, _, rfl, _, _, _, _, rfl, rgc hL hd hN (by omega), ?_⟩
    refine for_rangeC (lo := 0) (c := (L : Int)) (n := N / L) (fun b σ H' => ∃ as v5 v6 v7, σ = [some (iv N), some (iv L), some (.int f), some (.ref F), some (iv g), v5, v6, v7, none, none] ∧ Same H H' ∧ Mat .lst .lst H' F as ((List.range (b * g)).map (row L f)) ∧ F ∉ as ∧ ∀ q ∈ as, H q = none)
      ⟨[], _, _, _, rfl, upd_S nF, ⟨by rw [upd_same]; rfl, by rw [Nat.zero_mul]; rfl, fun j vs h => by rw [Nat.zero_mul] at h; cases h⟩, by simp, by simp⟩ ?_ ?_
    · rintro b σ H1 hb ⟨as, v5, v6, v7, rfl, s1, hF, nas, fas⟩
      have eb : (0 : Int) + (b : Nat) * (L : Int) = ((b * L : Nat) : Int) := by rw [Int.natCast_mul]; omega
      rw [eb]
      refine ⟨_, rfl, _, rfl, by omega, by omega, ?_⟩
      rw [Int.toNat_natCast]
      refine for_range (lo := 0) (n := g) (fun t σ H' => ∃ as v6 v7, σ = [some (iv N), some (iv L), some (.int f), some (.ref F), some (iv g), some (iv (b * L)), v6, v7, none, none] ∧ Same H H' ∧ Mat .lst .lst H' F as ((List.range (b * g + t)).map (row L f)) ∧ F ∉ as ∧ ∀ q ∈ as, H q = none)
        ⟨as, _, _, rfl, s1, hF, nas, fas⟩ ?_ ?_
      · rintro t σ H2 ht ⟨as, v6, v7, rfl, s2, hF2, nas, fas⟩
        have et : (0 : Int) + (t : Int) = (t : Int) := by omega
        rw [et]
        refine ⟨_, rfl, _, rfl, _, _, rfl, rfl, ⟨by omega, by omega⟩, _, rfl, ?_⟩
        dsimp only
        rw [quo]
        have h0 : (0 : Int) ≤ (L : Int) / (g : Int) := Int.ediv_nonneg (by omega) (by omega)
        refine ⟨by omega, by omega, ?_⟩
        rw [Int.toNat_natCast]
        refine fun D hD => lcr (lo := 0) (L / g) ((List.range (L / g)).map fun (j : Nat) => V.int ((t : Int) + f * (j : Int))) hD (by simp) (by rw [List.length_map, List.length_range]; omega) (fun j y H3 Nx No hj hy s3 hn => ?_) (fun H3 s3 hD3 => ?_)
        · have ej : (0 : Int) + (j : Int) = (j : Int) := by omega
          rw [ej]
          rw [rng_at hj] at hy
          cases hy
          exact ⟨rfl, _, rfl, _, rfl, _, rfl, _, _, rfl, rfl, .inl ⟨by omega, by omega⟩, _, _, rfl, rfl, hn _ (Same.refl _)⟩
        · have hF3 := hF2.same s3
          have s03 := s2.trans s3
          refine ⟨_, rfl, .inl ⟨rfl, _, SqL.of hF3.1⟩, ?_⟩
          refine ⟨_, rfl, D, rfl, ⟨_, SqL.of hD3⟩, fun D2 hD2 => lcl (row L f (b * g + t)) (SqL.of hD3) hD2 (by simp [row, ← hg]) (by unfold row; rw [List.length_map, List.length_map, List.length_range, ← hg]; omega) (fun j x y H4 Nx No hx hy s4 hn => ?_) (fun H4 s4 hD4 => ?_)⟩
          · have hj : j < L / g := by
              have := (List.getElem?_eq_some_iff.mp hx).1
              simpa using this
            rw [rng_at hj] at hx
            cases hx
            have hy2 : y = iv (RK.hs L f (b * g + t) j) := by
              unfold row at hy
              rw [iv_at (rng_at (by rw [← hg]; exact hj))] at hy
              exact (Option.some.inj hy).symm
            refine ⟨rfl, _, rfl, _, rfl, _, _, rfl, rfl, _, rfl, _, rfl, _, _, rfl, rfl, ⟨by omega, by omega⟩, _, rfl, _, _, rfl, rfl, cmul_r (by omega), _, _, rfl, rfl, ?_⟩
            have ev : V.int (((b * L : Nat) : Int) + ((t : Int) + f * (j : Int)) - ((t : Int) + f * (j : Int)) / (L : Int) * (L : Int)) = y := by
              rw [hy2, hs_at hg ht]
              have := wrap hL ((t : Int) + f * (j : Int))
              show V.int _ = V.int _
              congr 1
              rw [Int.natCast_add, ← this]
              omega
            have hn := hn _ (Same.refl _)
            rw [← ev] at hn
            exact hn
          · have hF4 := hF3.same s4
            have nD2 : D2 ≠ F := Ne.symm (ne_of_none hF3.1 hD2)
            refine ⟨F, _, _, rfl, rfl, hF4.1, by rw [List.length_map, mat_len hF4, List.length_range]; have := Nat.mul_le_mul_right g (show b + 1 ≤ N / L from hb); rw [Nat.succ_mul] at this; omega, ?_⟩
            refine ⟨as ++ [D2], _, _, rfl, same_updN (s03.trans s4) nF, ?_, ?_, ?_⟩
            · rw [show b * g + (t + 1) = b * g + t + 1 by omega, List.range_succ, List.map_append]
              exact mat_snoc hF4 hD4 nD2 nas
            · intro hm
              rcases List.mem_append.mp hm with q | q
              · exact nas q
              · rw [List.mem_singleton] at q
                exact nD2 q.symm
            · intro q hq
              rcases List.mem_append.mp hq with z | z
              · exact fas q z
              · rw [List.mem_singleton] at z
                subst z
                exact s03.free hD2
      · rintro σ H2 ⟨as, v6, v7, rfl, s2, hF2, nas, fas⟩
        exact ⟨as, _, _, _, rfl, s2, by rw [Nat.succ_mul]; exact hF2, nas, fas⟩
    · rintro σ H1 ⟨as, v5, v6, v7, rfl, s1, hF, nas, fas⟩
      refine ⟨_, rfl, k _ F s1 nF ⟨as, ?_, fas⟩⟩
      rw [grid_eq, ← hg]
      exact hF
end
end PR
/-! text Wr7 -/
set_option Elab.async false
set_option linter.all false
set_option maxRecDepth 100000
set_option maxHeartbeats 4000000
namespace PR
open PySem PySem.Spec PyProof.Rows L2
/-- walks in general: F tells what a turn asks -/
theorem walk_by {J : It} {n : Nat} {G : Hp → Prop} {Y : Nat → Hp → V → Hp → Prop} (w : Walk J n G Y) {F : V → Hp → (Hp → Prop) → Prop} {H0 : Hp} {Qd : Hp → Prop} (Pv : Nat → Hp → Prop) (h0 : Pv 0 H0) (hG : ∀ i H, i ≤ n → Pv i H → G H)
    (hs : ∀ i x H H', i < n → Pv i H → Y i H x H' → F x H' (Pv (i + 1))) (hd : ∀ H, Pv n H → Qd H) :
    ∃ W : Nat → Nat → Hp → Prop, (∃ m, W 0 m H0) ∧ ∀ i m H, W i m H → (J.stop i H ∧ Qd H) ∨ (J.go i H ∧ ∃ Nx : Hp → Prop, (∀ H', Nx H' → ∃ m', m' < m ∧ W (i + 1) m' H') ∧ ∀ x H', J.yld i H x H' → F x H' Nx) := by
  refine ⟨fun i m H => i ≤ n ∧ m + i = n ∧ Pv i H, ⟨n, Nat.zero_le _, rfl, h0⟩, ?_⟩
  rintro i m H ⟨hi, e, p⟩
  have q := hG i H hi p
  rcases Nat.lt_or_ge i n with c | c
  · exact .inr ⟨w.goes i H c q, Pv (i + 1), fun H' p' => ⟨n - (i + 1), by omega, c, by omega, p'⟩, fun x H' y => hs i x H H' c p (w.yields i H x H' c q y)⟩
  · obtain rfl : i = n := Nat.le_antisymm hi c
    exact .inl ⟨w.stops H q, hd H p⟩
section
variable {X : Cx}
/-- n = {k: v for .. for ..} -/
theorem ps_setDc2 {i : Nat} {y : Str} {py : Pos} {kx vx tg iter tg1 iter1 : Expr} {sc : Scope} {own : List (Str × Nat)} {vs1 : List Nat} {pos spos : Pos} {wi wi1 : TI} {g g1 : TG} {tk tv : TE} (hc : X.calm = true) (hN : X.N.Nodup) (hy : X.N[i]? = some y) (hyl : X.env.scope.names.lookup y = some .local)
    (hsw : swapsWith (dcE kx vx tg iter tg1 iter1 sc pos) (some (.Name y py)) spos.line X.env = pure true) (hi : PI X tg iter wi) (ok : BlkOk X.N X.env.scope sc own) (hv : ∀ i ∈ vs1, i ∈ own.map (·.2))
    (hg : ∀ (s : Shared) (H : Hp) (C : Addr) (cl : List (Str × Addr)) (fp : List Addr), PG (X.blk s H sc (compEnvC sc cl C X.env) fp) tg g)
    (hi1 : ∀ (s : Shared) (H : Hp) (C : Addr) (cl : List (Str × Addr)) (fp : List Addr), PI (X.blk s H sc (compEnvC sc cl C X.env) fp) tg1 iter1 wi1)
    (hg1 : ∀ (s : Shared) (H : Hp) (C : Addr) (cl : List (Str × Addr)) (fp : List Addr), PG (X.blk s H sc (compEnvC sc cl C X.env) fp) tg1 g1)
    (hk : ∀ (s : Shared) (H : Hp) (C : Addr) (cl : List (Str × Addr)) (fp : List Addr), PE (X.blk s H sc (compEnvC sc cl C X.env) fp) kx tk)
    (he : ∀ (s : Shared) (H : Hp) (C : Addr) (cl : List (Str × Addr)) (fp : List Addr), PE (X.blk s H sc (compEnvC sc cl C X.env) fp) vx tv)
    (hs : ∀ x, foldedSetIterable iter X.env x = pure x := by intro _; rfl) (hs1 : ∀ env x, foldedSetIterable iter1 env x = pure x := by intro _ _; rfl) :
    PS X (.Assign [.Name y py] (dcE kx vx tg iter tg1 iter1 sc pos) spos) (tAsg (tDc2 wi g wi1 g1 tk tv (own.map (·.2)) vs1) (gName i)) := by
  refine ⟨fun pins s σ H D I h => ?_⟩
  rw [exec_Assign_Name_used _ _ _ _ hsw]
  refine wpAny_bind (wpAny_standAt (wpAny_bind ?_))
  have h : tDc2 wi g wi1 g1 tk tv (own.map (·.2)) vs1 σ H (fun x H1 => gName i x σ H1 D.nx) := h
  show wpAny _ X.A (do let _ ← comprehension (dcE kx vx tg iter tg1 iter1 sc pos) sc X.env (firstIterPos [⟨tg, iter, [], 0⟩, ⟨tg1, iter1, [], 0⟩] pos) newDict false (eval iter X.env) (some (assign (.Name y py) X.env))) _ _ s
  refine wpAny_bind (thn (dc2_core (Qf := fun _ s' => SP X pins D .next s') hc hN I hi ok hv hg hk he hs hi1 hg1 hs1 h fun L C s' m H' J q hn f => ?_) fun _ s' hq => wpAny_pure (wpAny_pure hq))
  obtain ⟨f0, f1, f2, f3, f4, f5⟩ := f
  show wpAny _ _ (assign (.Name y py) X.env (.ref L)) _ _ _
  refine wpAny_assign_Name (store_ok2 (v := V.ref L) J hN hy (.inl hyl) rfl (fun s2 J2 ⟨a, sb, ha⟩ => ?_) (.inr hyl))
  have nCa : C ≠ a := by
    rcases ha with z | z
    · exact z ▸ f1
    · exact fun e => f4 y a z e.symm
  exact ⟨m, hn.sameBut sb nCa, fun h3 sb3 => ⟨_, H', J2.turned (t' := s2.toks) (fun b o hb e => (sb3.2 b hb).trans e) f0 f1 f3 f4 f5, q⟩⟩
theorem sw_trueD {kx vx : Expr} {gs : List Comprehension} {sc : Scope} {pos py : Pos} {y : Str} {l : Nat} {env : Env} (hk : env.scope.kind = .function) (hy : env.scope.names.lookup y = some .local) (hl : (py.line == pos.line) = true)
    (ha : (sc.names.any fun (n, k) => n == y && (k == .local || k == .cell)) = false) : swapsWith (.DictComp kx vx gs sc pos) (some (.Name y py)) l env = pure true := by
  have e1 : env.kindOf y = some .local := hy
  have e2 : env.blockKind = .function := by
    unfold Env.blockKind
    rw [hk]
    rfl
  unfold swapsWith
  simp only [e2, e1, ha, Expr.pos, hl]
  rfl
end
end PR
/-! text W12 -/
set_option Elab.async false
set_option linter.all false
set_option maxRecDepth 100000
set_option maxHeartbeats 4000000
namespace PR
open PySem PySem.Spec PyProof.Rows L2
theorem mp_keys (f : Nat → V) (ks : List Nat) : (mp f ks).map (fun kv => kV kv.1) = ivs ks := by
  unfold mp
  rw [List.map_map]
  rfl
theorem ivr_at {n i : Nat} {x : V} (h : (ivs (List.range n))[i]? = some x) : i < n ∧ x = iv i := by
  obtain ⟨m, e, rfl⟩ := ivs_at h
  have hi : i < n := by
    have := (List.getElem?_eq_some_iff.mp e).1
    simpa using this
  rw [List.getElem?_range hi] at e
  cases e
  exact ⟨hi, rfl⟩
theorem mat_snoc_t {H : Hp} {a : Addr} {as : List Addr} {vss : List (List V)} (m : Mat .lst .tup H a as vss) {p : Addr} {vs : List V} (hp : H p = some (.tup vs)) :
    Mat .lst .tup (upd H a (.lst (as.map V.ref ++ [.ref p]))) a (as ++ [p]) (vss ++ [vs]) := by
  refine mat_snoc m hp (ne_of hp m.1 (by intro z; cases z)) fun hm => ?_
  obtain ⟨j, hj⟩ := List.mem_iff_getElem?.mp hm
  obtain ⟨q, ws, e1, e2, e3, e4⟩ := m.item (j := j) (x := .ref a) (by rw [List.getElem?_map, hj]; rfl)
  cases e1
  rw [m.1] at e4
  cases e4
theorem st_is {F : L2.St → Hp → Prop} {σ : L2.St} {H : Hp} (σ' : L2.St) (e : σ = σ') (h : F σ' H) : F σ H := e ▸ h
theorem ivs_len (l : List Nat) : (ivs l).length = l.length := List.length_map _
section
variable {P : Program} {w : World} {K : PySem.W.Frag} {mg : Str → Option Value} {base : Heap}
theorem ok_paired (T : Txt K mg) : FnOk P w K mg base CX0 1 T.paired.a T.paired.fd ["near", "far", "pairs"] spPaired := by
  refine T.paired.F.ok sc_paired (fun vs H Q E h => ?_) (fun cdv A0 outer s H vs Q E hr h => ?_)
  · obtain ⟨a, b, c, as, bs, ns, ms, r, rfl, _⟩ := h
    rfl
  · obtain ⟨a, b, c, as, bs, ns, ms, r, rfl, ha, hb, hc, hl, hN, hn, hm, hr2, k⟩ := h
    have hz := sizeLine_eq
    refine ⟨_, PSs.nox (pss_cons (ps_set (i := 3) sc_paired.nd rfl (Or.inl rfl) (pe_lst pa_nil))
      (pss_cons (ps_par (i := 4) (j := 5) rfl sc_paired.nd rfl rfl (by decide) rfl rfl (pa_cons (pe_dc (own := [("turn", 14)]) (g := gName 14) (tt := tYes) rfl sc_paired.nd (pi_range1 rfl T.m_range (pa_cons (pe_callB call_len_seq rfl T.m_len boot_len (pa_cons (pv 0) pa_nil)) pa_nil)) (blkOk_by (own := [("turn", 14)]) (N := ["near", "far", "pairs", "found", "near_left", "far_left", "row", "near_at", "far_at", "here", "there", "one", "other", "shift", "turn", "seat", "spot"]) (sc := defScope s_paired) (by decide +kernel)) (fun _ _ _ _ _ => (pg_name (i := 14) sc_paired.nd rfl (Or.inl rfl))) (fun _ _ _ _ _ => pts_nil) (fun _ _ _ _ _ => (pv 14)) (fun _ _ _ _ _ => pe_bl)) (pa_cons (pe_dc (own := [("turn", 14)]) (g := gName 14) (tt := tYes) rfl sc_paired.nd (pi_range1 rfl T.m_range (pa_cons (pe_callB call_len_seq rfl T.m_len boot_len (pa_cons (pv 1) pa_nil)) pa_nil)) (blkOk_by (own := [("turn", 14)]) (N := ["near", "far", "pairs", "found", "near_left", "far_left", "row", "near_at", "far_at", "here", "there", "one", "other", "shift", "turn", "seat", "spot"]) (sc := defScope s_paired) (by decide +kernel)) (fun _ _ _ _ _ => (pg_name (i := 14) sc_paired.nd rfl (Or.inl rfl))) (fun _ _ _ _ _ => pts_nil) (fun _ _ _ _ _ => (pv 14)) (fun _ _ _ _ _ => pe_bl)) pa_nil)) rfl)
      (pss_cons (ps_setDc2 (i := 7) (own := [("turn", 14), ("row", 6), ("spot", 16), ("seat", 15)]) (vs1 := [16, 15]) (g := gTup K 2 (gCons (gName 14) (gCons (gName 6) gNil))) (wi1 := iEnum K (tCons (tVar 6) tNil)) (g1 := gTup K 2 (gCons (gName 16) (gCons (gName 15) gNil))) rfl sc_paired.nd rfl rfl (sw_trueD rfl rfl rfl (by decide +kernel)) (pi_enum rfl T.m_enumerate (pa_cons (pv 0) pa_nil)) (blkOk_by (own := [("turn", 14), ("row", 6), ("spot", 16), ("seat", 15)]) (N := ["near", "far", "pairs", "found", "near_left", "far_left", "row", "near_at", "far_at", "here", "there", "one", "other", "shift", "turn", "seat", "spot"]) (sc := defScope s_paired) (by decide +kernel)) (by decide) (fun _ _ _ _ _ => (pg_tup rfl (pgs_cons (pg_name (i := 14) sc_paired.nd rfl (Or.inl rfl)) (pgs_cons (pg_name (i := 6) sc_paired.nd rfl (Or.inl rfl)) pgs_nil)))) (fun _ _ _ _ _ => (pi_enum rfl T.m_enumerate (pa_cons (pv 6) pa_nil))) (fun _ _ _ _ _ => (pg_tup rfl (pgs_cons (pg_name (i := 16) sc_paired.nd rfl (Or.inl rfl)) (pgs_cons (pg_name (i := 15) sc_paired.nd rfl (Or.inl rfl)) pgs_nil)))) (fun _ _ _ _ _ => (pv 15)) (fun _ _ _ _ _ => (pe_tup (pa_cons (pv 14) (pa_cons (pv 16) pa_nil)))))
      (pss_cons (ps_setDc2 (i := 8) (own := [("turn", 14), ("row", 6), ("spot", 16), ("seat", 15)]) (vs1 := [16, 15]) (g := gTup K 2 (gCons (gName 14) (gCons (gName 6) gNil))) (wi1 := iEnum K (tCons (tVar 6) tNil)) (g1 := gTup K 2 (gCons (gName 16) (gCons (gName 15) gNil))) rfl sc_paired.nd rfl rfl (sw_trueD rfl rfl rfl (by decide +kernel)) (pi_enum rfl T.m_enumerate (pa_cons (pv 1) pa_nil)) (blkOk_by (own := [("turn", 14), ("row", 6), ("spot", 16), ("seat", 15)]) (N := ["near", "far", "pairs", "found", "near_left", "far_left", "row", "near_at", "far_at", "here", "there", "one", "other", "shift", "turn", "seat", "spot"]) (sc := defScope s_paired) (by decide +kernel)) (by decide) (fun _ _ _ _ _ => (pg_tup rfl (pgs_cons (pg_name (i := 14) sc_paired.nd rfl (Or.inl rfl)) (pgs_cons (pg_name (i := 6) sc_paired.nd rfl (Or.inl rfl)) pgs_nil)))) (fun _ _ _ _ _ => (pi_enum rfl T.m_enumerate (pa_cons (pv 6) pa_nil))) (fun _ _ _ _ _ => (pg_tup rfl (pgs_cons (pg_name (i := 16) sc_paired.nd rfl (Or.inl rfl)) (pgs_cons (pg_name (i := 15) sc_paired.nd rfl (Or.inl rfl)) pgs_nil)))) (fun _ _ _ _ _ => (pv 15)) (fun _ _ _ _ _ => (pe_tup (pa_cons (pv 14) (pa_cons (pv 16) pa_nil)))))
      (pss_cons (ps_for PassesOwn.never rfl (pi_list (pv 2)) (pg_tup rfl (pgs_cons (pg_name (i := 9) sc_paired.nd rfl (Or.inl rfl)) (pgs_cons (pg_name (i := 10) sc_paired.nd rfl (Or.inl rfl)) pgs_nil))) pss_never)
      (pss_one (ps_ret (pe_op op_cat (pv 3) (pe_lc (own := [("one", 11), ("other", 12)]) (g := gTup K 2 (gCons (gName 11) (gCons (gName 12) gNil))) (tt := tYes) rfl sc_paired.nd (pi_zip rfl T.m_zip (pa_cons (pe_callTy (call_list_dK rfl) rfl T.m_list b_list (pa_cons (pv 4) pa_nil)) (pa_cons (pe_callTy (call_list_dK rfl) rfl T.m_list b_list (pa_cons (pv 5) pa_nil)) pa_nil))) (blkOk_by (own := [("one", 11), ("other", 12)]) (N := ["near", "far", "pairs", "found", "near_left", "far_left", "row", "near_at", "far_at", "here", "there", "one", "other", "shift", "turn", "seat", "spot"]) (sc := defScope s_paired) (by decide +kernel)) (fun _ _ _ _ _ => (pg_tup rfl (pgs_cons (pg_name (i := 11) sc_paired.nd rfl (Or.inl rfl)) (pgs_cons (pg_name (i := 12) sc_paired.nd rfl (Or.inl rfl)) pgs_nil)))) (fun _ _ _ _ _ => pts_nil) (fun _ _ _ _ _ => (pe_tup (pa_cons (pe_ix (r := rIxL K) ix_list (pv 0) (pv 11) (fun _ _ => rfl)) (pa_cons (pe_ix (r := rIxL K) ix_list (pv 1) (pv 12) (fun _ _ => rfl)) pa_nil))))))))))))), ?_⟩
    refine ⟨(show 0 ≤ sizeLine by decide), fun F nF => ?_⟩
    have s1 : Same H (upd H F (.lst [])) := upd_S nF
    have hF1 : upd H F (.lst []) F = some (.lst []) := upd_same
    generalize upd H F (.lst []) = H1 at s1 hF1
    have la : (as.map V.ref).length = ns.length := by rw [List.length_map, mat_len ha]
    have lb : (bs.map V.ref).length = ns.length := by rw [List.length_map, mat_len hb, hl]
    refine ⟨_, rfl, a, _, rfl, .inl (SqL.of (s1 _ _ ha.1)), _, rfl, by omega, by omega, ?_⟩
    rw [la, Int.toNat_natCast]
    refine fun A nA => dcr bt nA (by omega) (fun i H' Nx No hi s hn => by rw [show (0 : Int) + (i : Int) = (i : Int) by omega]; exact ⟨rfl, _, rfl, hn⟩) (fun H2 s2 hA => ?_)
    have s12 := s1.trans s2
    refine ⟨_, rfl, b, _, rfl, .inl (SqL.of (s12 _ _ hb.1)), _, rfl, by omega, by omega, ?_⟩
    rw [lb, Int.toNat_natCast]
    refine fun B nB => dcr bt nB (by omega) (fun i H' Nx No hi s hn => by rw [show (0 : Int) + (i : Int) = (i : Int) by omega]; exact ⟨rfl, _, rfl, hn⟩) (fun H3 s3 hB => ?_)
    have s13 := s12.trans s3
    have hF3 := s3 _ _ (s2 _ _ hF1)
    have hA3 := s3 _ _ hA
    refine ⟨_, _, rfl, ?_⟩
    refine st_is [some (.ref a), some (.ref b), some (.ref c), some (.ref F), some (.ref A), some (.ref B), none, none, none, none, none, none, none, none, none, none, none] rfl ?_
    -- the places: made, and not looked at
    have ha3 := ha.same s13
    have hb3 := hb.same s13
    refine ⟨_, rfl, a, _, rfl, SqL.of ha3.1, fun D1 nD1 => walk_by (walk_enum (K := K) (a := a) (xs := as.map V.ref)) (fun i H' => Same H3 H' ∧ ∃ kvs, H' D1 = some (.dK kvs) ∧ kvs.length ≤ i * r) ⟨upd_S nD1, [], upd_same, by simp⟩ (fun i H' _ p => SqL.of (p.1 _ _ ha3.1)) ?_ ?_⟩
    · rintro i x H4 H5 hi ⟨s4, kvs, hD4, hk4⟩ ⟨Tp, x1, x2, rfl, nT, rfl, e1, e2⟩
      cases e1
      obtain ⟨p, l, rfl, h1, h2, h3⟩ := mat_in ha3 e2
      have hll := hn l (List.mem_of_getElem? h2)
      have hir : (i + 1) * r ≤ ns.length * r := Nat.mul_le_mul_right r (by rw [← la]; exact hi)
      rw [Nat.succ_mul] at hir
      refine ⟨Tp, _, rfl, SqT.of upd_same, rfl, _, _, rfl, _, _, rfl, rfl, rfl, ?_⟩
      have s5 : Same H4 (upd H4 Tp (.tup [.int (i : Nat), .ref p])) := upd_S nT
      generalize upd H4 Tp (.tup [.int (i : Nat), .ref p]) = H5 at s5
      have hp5 := s5 _ _ (s4 _ _ h3)
      refine ⟨_, rfl, p, _, rfl, SqL.of hp5, walk_by (walk_enum (K := K) (a := p) (xs := ivs l)) (fun j H' => Same H3 H' ∧ ∃ kvs, H' D1 = some (.dK kvs) ∧ kvs.length ≤ i * r + j) ⟨s4.trans s5, kvs, s5 _ _ hD4, by omega⟩ (fun j H' _ p => SqL.of (p.1 _ _ h3)) ?_ ?_⟩
      · rintro j y H6 H7 hj ⟨s6, kvs6, hD6, hk6⟩ ⟨Tq, y1, y2, rfl, nTq, rfl, e3, e4⟩
        cases e3
        obtain ⟨n, hn2, rfl⟩ := ivs_at e4
        have hj2 : j < r := by rw [← hll]; exact (List.getElem?_eq_some_iff.mp hn2).1
        refine ⟨Tq, _, rfl, SqT.of upd_same, rfl, _, _, rfl, _, _, rfl, rfl, rfl, ?_⟩
        have s7 : Same H6 (upd H6 Tq (.tup [.int (j : Nat), iv n])) := upd_S nTq
        generalize upd H6 Tq (.tup [.int (j : Nat), iv n]) = H7 at s7
        refine ⟨_, rfl, _, rfl, _, rfl, (show 2 ≤ sizeLine by decide), fun t nt => ⟨kvs6, ik n, rfl, upd_S nt _ _ (s7 _ _ hD6), by omega, ?_, _, upd_same, ?_⟩⟩
        · exact same_updN (s6.trans (s7.trans (upd_S nt))) nD1
        · have := length_putK kvs6 (ik n) (V.ref t)
          omega
      · rintro H6 ⟨s6, kvs6, hD6, hk6⟩
        rw [ivs_len, hll] at hk6
        exact ⟨s6, kvs6, hD6, by rw [Nat.succ_mul]; exact hk6⟩
    rintro H4 ⟨s4, _⟩
    refine st_is [some (.ref a), some (.ref b), some (.ref c), some (.ref F), some (.ref A), some (.ref B), none, some (.ref D1), none, none, none, none, none, none, none, none, none] rfl ?_
    have s14 := s13.trans s4
    have ha4 := ha3.same s4
    have hb4 := hb3.same s4
    refine ⟨_, rfl, b, _, rfl, SqL.of hb4.1, fun D nD => walk_by (walk_enum (K := K) (a := b) (xs := bs.map V.ref)) (fun i H' => Same H4 H' ∧ ∃ kvs, H' D = some (.dK kvs) ∧ kvs.length ≤ i * r) ⟨upd_S nD, [], upd_same, by simp⟩ (fun i H' _ p => SqL.of (p.1 _ _ hb4.1)) ?_ ?_⟩
    · rintro i x H5 H6 hi ⟨s5, kvs, hD5, hk5⟩ ⟨Tp, x1, x2, rfl, nT, rfl, e1, e2⟩
      cases e1
      obtain ⟨p, l, rfl, h1, h2, h3⟩ := mat_in hb4 e2
      have hll := hm l (List.mem_of_getElem? h2)
      have hir : (i + 1) * r ≤ ns.length * r := Nat.mul_le_mul_right r (by rw [← lb]; exact hi)
      rw [Nat.succ_mul] at hir
      refine ⟨Tp, _, rfl, SqT.of upd_same, rfl, _, _, rfl, _, _, rfl, rfl, rfl, ?_⟩
      have s6 : Same H5 (upd H5 Tp (.tup [.int (i : Nat), .ref p])) := upd_S nT
      generalize upd H5 Tp (.tup [.int (i : Nat), .ref p]) = H6 at s6
      have hp6 := s6 _ _ (s5 _ _ h3)
      refine ⟨_, rfl, p, _, rfl, SqL.of hp6, walk_by (walk_enum (K := K) (a := p) (xs := ivs l)) (fun j H' => Same H4 H' ∧ ∃ kvs, H' D = some (.dK kvs) ∧ kvs.length ≤ i * r + j) ⟨s5.trans s6, kvs, s6 _ _ hD5, by omega⟩ (fun j H' _ p => SqL.of (p.1 _ _ h3)) ?_ ?_⟩
      · rintro j y H7 H8 hj ⟨s7, kvs7, hD7, hk7⟩ ⟨Tq, y1, y2, rfl, nTq, rfl, e3, e4⟩
        cases e3
        obtain ⟨n, hn2, rfl⟩ := ivs_at e4
        have hj2 : j < r := by rw [← hll]; exact (List.getElem?_eq_some_iff.mp hn2).1
        refine ⟨Tq, _, rfl, SqT.of upd_same, rfl, _, _, rfl, _, _, rfl, rfl, rfl, ?_⟩
        have s8 : Same H7 (upd H7 Tq (.tup [.int (j : Nat), iv n])) := upd_S nTq
        generalize upd H7 Tq (.tup [.int (j : Nat), iv n]) = H8 at s8
        refine ⟨_, rfl, _, rfl, _, rfl, (show 2 ≤ sizeLine by decide), fun t nt => ⟨kvs7, ik n, rfl, upd_S nt _ _ (s8 _ _ hD7), by omega, ?_, _, upd_same, ?_⟩⟩
        · exact same_updN (s7.trans (s8.trans (upd_S nt))) nD
        · have := length_putK kvs7 (ik n) (V.ref t)
          omega
      · rintro H7 ⟨s7, kvs7, hD7, hk7⟩
        rw [ivs_len, hll] at hk7
        exact ⟨s7, kvs7, hD7, by rw [Nat.succ_mul]; exact hk7⟩
    rintro H5 ⟨s5, _⟩
    refine st_is [some (.ref a), some (.ref b), some (.ref c), some (.ref F), some (.ref A), some (.ref B), none, some (.ref D1), some (.ref D), none, none, none, none, none, none, none, none] rfl ?_
    have s15 := s14.trans s5
    refine ⟨_, rfl, c, rfl, ⟨_, SqL.of (s15 _ _ hc)⟩, for_list (K := K) (a := c) (xs := []) (fun i σ H' => H' = H5 ∧ σ = [some (.ref a), some (.ref b), some (.ref c), some (.ref F), some (.ref A), some (.ref B), none, some (.ref D1), some (.ref D), none, none, none, none, none, none, none, none]) ⟨rfl, rfl⟩ (fun i σ H' _ p => by rw [p.1]; exact SqL.of (s15 _ _ hc)) (fun i x σ H' hx _ => by cases hx) ?_⟩
    rintro σ H5 ⟨rfl, rfl⟩
    have hF5 := s5 _ _ (s4 _ _ hF3)
    have hA5 := s5 _ _ (s4 _ _ hA3)
    have hB5 := s5 _ _ (s4 _ _ hB)
    refine ⟨_, rfl, _, rfl, A, _, rfl, hA5, fun l1 n1 => ⟨_, rfl, B, _, rfl, upd_S n1 _ _ hB5, fun l2 n2 => ⟨l1, l2, _, _, rfl, SqL.of (upd_S n2 _ _ upd_same), SqL.of upd_same, ?_⟩⟩⟩
    rw [mp_keys] at n2 ⊢
    have s6 : Same H5 (upd (upd H5 l1 (.lst (ivs (List.range ns.length)))) l2 (.lst (ivs (List.range ns.length)))) := (upd_S n1).trans (upd_S n2)
    have hl1 : upd (upd H5 l1 (.lst (ivs (List.range ns.length)))) l2 (.lst (ivs (List.range ns.length))) l1 = some (.lst (ivs (List.range ns.length))) := upd_S n2 _ _ upd_same
    have hl2 : upd (upd H5 l1 (.lst (ivs (List.range ns.length)))) l2 (.lst (ivs (List.range ns.length))) l2 = some (.lst (ivs (List.range ns.length))) := upd_same
    generalize upd (upd H5 l1 (.lst (ivs (List.range ns.length)))) l2 (.lst (ivs (List.range ns.length))) = H6 at s6 hl1 hl2
    have s16 := s15.trans s6
    have hzl : (as.zip bs).length = ns.length := by rw [List.length_zip, mat_len ha, mat_len hb, hl, Nat.min_self]
    refine fun D2 nD2 => lc_it (walk_zip (K := K) (a := l1) (b := l2) (xs := ivs (List.range ns.length)) (ys := ivs (List.range ns.length)) (n := ns.length) (by simp)) (fun i H5 => Same H6 H5 ∧ ∃ ts, Mat .lst .tup H5 D2 ts (((as.zip bs).take i).map fun q => [.ref q.1, .ref q.2]))
      ⟨upd_S nD2, [], upd_same, rfl, fun j vs h => by cases h⟩ (fun i H5 _ p => ⟨SqL.of (p.1 _ _ hl1), SqL.of (p.1 _ _ hl2)⟩) ?_ ?_
    · rintro i x H7 H8 hi ⟨s7, ts, hD7⟩ ⟨Tp, x1, x2, rfl, nT, rfl, e1, e2⟩
      obtain ⟨_, rfl⟩ := ivr_at e1
      obtain ⟨_, rfl⟩ := ivr_at e2
      have hil : i < (as.zip bs).length := by rw [hzl]; exact hi
      have ez : (as.zip bs)[i]? = some (as.zip bs)[i] := List.getElem?_eq_getElem hil
      obtain ⟨ea, eb⟩ := List.getElem?_zip_eq_some.mp ez
      have ea' : (as.map V.ref)[i]? = some (V.ref (as.zip bs)[i].1) := by rw [List.getElem?_map, ea]; rfl
      have eb' : (bs.map V.ref)[i]? = some (V.ref (as.zip bs)[i].2) := by rw [List.getElem?_map, eb]; rfl
      have s8 : Same H7 (upd H7 Tp (.tup [iv i, iv i])) := upd_S nT
      refine ⟨Tp, _, rfl, SqT.of upd_same, rfl, _, _, rfl, _, _, rfl, rfl, rfl, ?_⟩
      generalize upd H7 Tp (.tup [iv i, iv i]) = H8 at s8
      have s18 := s16.trans (s7.trans s8)
      refine ⟨_, rfl, _, rfl, a, _, _, _, rfl, rfl, SqL.of (s18 _ _ ha.1), atI_nat ea', _, rfl, _, rfl, b, _, _, _, rfl, rfl, SqL.of (s18 _ _ hb.1), atI_nat eb', (show 2 ≤ sizeLine by decide), fun t nt => ?_⟩
      have hD9 := (hD7.same s8).same (upd_S nt (o := .tup [.ref (as.zip bs)[i].1, .ref (as.zip bs)[i].2]))
      refine ⟨_, hD9.1, by rw [List.length_map, mat_len hD7, List.length_take]; omega, same_updN (s7.trans (s8.trans (upd_S nt))) nD2, ts ++ [t], ?_⟩
      have := mat_snoc_t hD9 (p := t) upd_same
      rw [take_snoc ez, List.map_append]
      exact this
    · rintro H7 ⟨s7, ts, hD7⟩
      rw [List.take_of_length_le (by omega)] at hD7
      refine ⟨F, D2, _, _, rfl, rfl, s7 _ _ (s6 _ _ hF5), hD7.1, by rw [List.length_map, mat_len hD7, List.length_nil]; omega, fun p np => ?_⟩
      have s8 : Same H7 (upd H7 p (.lst ([] ++ ts.map V.ref))) := upd_S np
      refine k _ p ((s16.trans s7).trans s8) ((s16.trans s7).free np) ⟨ts, upd_same, hD7.2.1, fun j vs hj => ?_⟩
      obtain ⟨q, q1, q2⟩ := hD7.2.2 j vs hj
      exact ⟨q, q1, s8 _ _ q2⟩
end
end PR
/-! text Wr8 -/
set_option Elab.async false
set_option linter.all false
set_option maxRecDepth 100000
set_option maxHeartbeats 4000000
namespace PR
open PySem PySem.Spec PyProof.Rows L2
section
variable {X : Cx}
/-- a whole number as a test -/
def tNz (te : TE) : TT := fun σ H Q => te σ H fun x H' => ∃ i : Int, x = .int i ∧ Q (i != 0) H'
theorem pt_nz {a : Expr} {ta : TE} (ha : PE X a ta) (he : ∀ whole, isTrue a X.env whole = (do let v ← whole; standAt a.pos; holding [v] (truthy v)) := by intro _; rfl) : PT X a (tNz ta) := by
  refine ⟨fun pins s σ H Q I h => ?_⟩
  refine isTrue_plain (thn (ha.run pins s σ H _ I h) fun v s1 h1 => ?_) (he _)
  obtain ⟨x, H1, I1, r1, i, rfl, q1⟩ := h1
  exact tru_ok pins s1 σ H1 (.int i) v Q I1 r1 ⟨_, rfl, q1⟩
end
end PR
/-! text W13 -/
set_option Elab.async false
set_option linter.all false
set_option maxRecDepth 100000
set_option maxHeartbeats 4000000
namespace PR
open PySem PySem.Spec PyProof.Rows L2
/-- all but g stays -/
def Ch1 (g : Addr) (H H' : Hp) : Prop := ∀ b o, H b = some o → b ≠ g → H' b = some o
theorem Ch1.then_ {g : Addr} {H H1 H2 : Hp} (a : Ch1 g H H1) (b : Same H1 H2) : Ch1 g H H2 := fun c o h n => b c o (a c o h n)
theorem Ch1.upd_ {g : Addr} {H H1 : Hp} {o : HO} (a : Ch1 g H H1) : Ch1 g H (upd H1 g o) := fun c u h n => by
  rw [upd_ne n]
  exact a c u h n
theorem Ch1.same {g : Addr} {H0 H H' : Hp} (a : Ch1 g H H') (s : Same H0 H) (n : H0 g = none) : Same H0 H' := fun b o h => a b o (s b o h) (ne_of_none h n)
theorem ixN_nat {n j : Nat} (h : j < n) : ixN n (j : Int) = some j := by
  unfold ixN
  rw [if_pos (by omega), if_pos (by omega)]
  simp
/-- what of a way is laid: the rounds before k, of the k-th the steps before j -/
def Laid (N L1 : Nat) (f : Int) (L2 : Nat) (g : Int) (r k j : Nat) (wl : List Nat) : Prop := wl.length = N ∧ ∀ k' j', j' < r → (k' < k ∨ (k' = k ∧ j' < j)) → wl[RK.hs L1 f k' j']? = some (RK.hs L2 g k' j')
theorem Laid.step {N L1 L2 r k j n : Nat} {f g : Int} {wl : List Nat} (h : Laid N L1 f L2 g r k j wl) (h1 : 0 < L1) (d1 : L1 ∣ N) (er : L1 / Nat.gcd L1 f.natAbs = r) (en : N / L1 * Nat.gcd L1 f.natAbs = n) (hk : k < n) (hj : j < r) :
    Laid N L1 f L2 g r k (j + 1) (wl.set (RK.hs L1 f k j) (RK.hs L2 g k j)) := by
  refine ⟨by rw [List.length_set]; exact h.1, fun k' j' hj' hc => ?_⟩
  have hlt : RK.hs L1 f k j < wl.length := by
    rw [h.1]
    exact RK.hs_lt h1 d1 (by rw [en]; exact hk)
  by_cases e : RK.hs L1 f k j = RK.hs L1 f k' j'
  · obtain ⟨rfl, rfl⟩ := RK.hs_inj h1 (by rw [er]; exact hj) (by rw [er]; exact hj') e
    rw [List.getElem?_set_self hlt]
  · rw [List.getElem?_set_ne e]
    refine h.2 k' j' hj' ?_
    rcases hc with c | ⟨rfl, c⟩
    · exact .inl c
    · refine .inr ⟨rfl, ?_⟩
      rcases Nat.lt_or_ge j' j with z | z
      · exact z
      · obtain rfl : j' = j := by omega
        exact absurd rfl e
theorem Laid.next {N L1 L2 r k : Nat} {f g : Int} {wl : List Nat} (h : Laid N L1 f L2 g r k r wl) : Laid N L1 f L2 g r (k + 1) 0 wl := by
  refine ⟨h.1, fun k' j' hj hc => h.2 k' j' hj ?_⟩
  rcases hc with c | ⟨_, c⟩
  · rcases Nat.lt_or_ge k' k with z | z
    · exact .inl z
    · exact .inr ⟨by omega, hj⟩
  · omega
theorem mat_keep {H : Hp} {a : Addr} {as : List Addr} {vss : List (List V)} (m : Mat .lst .tup H a as vss) {W : Addr} {xs : List V} {o : HO} (hW : H W = some (.lst xs)) (n : a ≠ W) : Mat .lst .tup (upd H W o) a as vss :=
  ⟨by rw [upd_ne n]; exact m.1, m.2.1, fun j vs h => by
    obtain ⟨p, e1, e2⟩ := m.2.2 j vs h
    exact ⟨p, e1, by rw [upd_ne (ne_of e2 hW (by intro z; cases z))]; exact e2⟩⟩
theorem mat_ch1 {H H' : Hp} {a g : Addr} {as : List Addr} {vss : List (List V)} (m : Mat .lst .tup H a as vss) (c : Ch1 g H H') {xs : List V} (hg : H g = some (.lst xs)) (n : a ≠ g) : Mat .lst .tup H' a as vss :=
  ⟨c _ _ m.1 n, m.2.1, fun j vs h => by
    obtain ⟨p, e1, e2⟩ := m.2.2 j vs h
    exact ⟨p, e1, c _ _ e2 (ne_of e2 hg (by intro z; cases z))⟩⟩
def gridN (N L : Nat) (f : Int) : List (List Nat) := (List.range (N / L * Nat.gcd L f.natAbs)).map fun k => (List.range (L / Nat.gcd L f.natAbs)).map (RK.hs L f k)
theorem gridN_ivs (N L : Nat) (f : Int) : (gridN N L f).map ivs = grid N L f := by
  unfold gridN grid
  rw [List.map_map]
  rfl
theorem gridN_len (N L : Nat) (f : Int) : (gridN N L f).length = N / L * Nat.gcd L f.natAbs := by simp [gridN]
theorem gridN_row {N L : Nat} {f : Int} : ∀ l ∈ gridN N L f, l.length = L / Nat.gcd L f.natAbs := fun l h => by
  obtain ⟨k, _, rfl⟩ := List.mem_map.mp h
  simp
/-- as many rounds on both sides -/
theorem rounds_eq {N L1 L2 : Nat} {f g : Int} (h1 : 0 < L1) (h2 : 0 < L2) (d1 : L1 ∣ N) (d2 : L2 ∣ N) (e : L1 / Nat.gcd L1 f.natAbs = L2 / Nat.gcd L2 g.natAbs) : N / L1 * Nat.gcd L1 f.natAbs = N / L2 * Nat.gcd L2 g.natAbs := by
  have r1 := RK.r_pos (f := f) h1
  have key : ∀ (L : Nat) (f : Int), L ∣ N → N / L * Nat.gcd L f.natAbs * (L / Nat.gcd L f.natAbs) = N := fun L f d => by
    rw [Nat.mul_assoc, RK.gr_eq, Nat.div_mul_cancel d]
  have k1 := key L1 f d1
  have k2 := key L2 g d2
  rw [← e] at k2
  exact Nat.eq_of_mul_eq_mul_right r1 (k1.trans k2.symm)
section
variable {P : Program} {w : World} {K : PySem.W.Frag} {mg : Str → Option Value} {base : Heap}
theorem ok_hall_of_rounds (T : Txt K mg) : FnOk P w K mg base CX0 7 T.hall_of_rounds.a T.hall_of_rounds.fd ["house", "lengths", "seats", "pairs"] (spOfRounds T.cHall T.cHouse) := by
  refine T.hall_of_rounds.F.ok sc_hall_of_rounds (fun vs H Q E h => ?_) (fun cdv A0 outer s H vs Q E hr h => ?_)
  · obtain ⟨h, la, da, N, R, a, ds, Ls, rfl, _⟩ := h
    rfl
  · obtain ⟨ho, la, da, N, R, a, ds, Ls, rfl, hH, hla, hda, hds, hf, hLs, lLs, hR, hR2, hN, hz, hN2, k⟩ := h
    have hu := hu_of hr
    have hH0 := hH
    obtain ⟨⟨dh, hh⟩, ad, hd⟩ := hH
    have hsz := sizeLine_eq
    have hN5 : N ≤ 5000 := by omega
    refine ⟨_, PSs.nox (pss_cons (ps_set (i := 4) sc_hall_of_rounds.nd rfl (Or.inl rfl) (pe_lst pa_nil))
      (pss_cons (ps_for PassesOwn.never rfl (pi_tup (pv 1)) (pg_name (i := 5) sc_hall_of_rounds.nd rfl (Or.inr rfl)) (pss_one (ps_expr (pe_bm PySem.F.plainAttrs_list PySem.F.slot_list_append PySem.F.type_list_append mt_append (pv 4) (pa_cons (pe_callTy call_tuple_of rfl T.m_tuple b_tuple (pa_cons (pe_lc (own := [("seat", 19)]) (g := gName 19) (tt := tYes) rfl sc_hall_of_rounds.nd (pi_range1 rfl T.m_range (pa_cons (pv 2) pa_nil)) (blkOk_by (own := [("seat", 19)]) (N := ["house", "lengths", "seats", "pairs", "ropes", "length", "ways", "door", "near", "first", "far", "second", "way", "heres", "theres", "here", "there", "one", "other", "seat"]) (sc := defScope s_hall_of_rounds) (by decide +kernel)) (fun _ _ _ _ _ => (pg_name (i := 19) sc_hall_of_rounds.nd rfl (Or.inl rfl))) (fun _ _ _ _ _ => pts_nil) (fun _ _ _ _ _ => (pe_ifExp (pt_nz (pe_op op_mod (pe_op op_add (pv 19) pe_int) (pv 5))) (pe_op op_add (pv 19) pe_int) (pe_op op_sub (pe_op op_add (pv 19) pe_int) (pv 5))))) pa_nil)) pa_nil)))))
      (pss_cons (ps_set (i := 6) sc_hall_of_rounds.nd rfl (Or.inl rfl) (pe_lst pa_nil))
      (pss_cons (ps_for PassesOwn.never rfl (pi_enumT rfl T.m_enumerate (pa_cons (pe_fld (pv 0) rfl) pa_nil)) (pg_tup rfl (pgs_cons (pg_name (i := 7) sc_hall_of_rounds.nd rfl (Or.inl rfl)) (pgs_cons (pg_tup rfl (pgs_cons (pg_name (i := 8) sc_hall_of_rounds.nd rfl (Or.inl rfl)) (pgs_cons (pg_name (i := 9) sc_hall_of_rounds.nd rfl (Or.inl rfl)) (pgs_cons (pg_name (i := 10) sc_hall_of_rounds.nd rfl (Or.inl rfl)) (pgs_cons (pg_name (i := 11) sc_hall_of_rounds.nd rfl (Or.inl rfl)) pgs_nil))))) pgs_nil))) (pss_cons (ps_setLc (i := 12) (own := [("seat", 19)]) (g := gName 19) (tt := tYes) rfl sc_hall_of_rounds.nd rfl rfl (sw_true rfl rfl rfl (by decide +kernel)) (pi_range1 rfl T.m_range (pa_cons (pv 2) pa_nil)) (blkOk_by (own := [("seat", 19)]) (N := ["house", "lengths", "seats", "pairs", "ropes", "length", "ways", "door", "near", "first", "far", "second", "way", "heres", "theres", "here", "there", "one", "other", "seat"]) (sc := defScope s_hall_of_rounds) (by decide +kernel)) (fun _ _ _ _ _ => (pg_name (i := 19) sc_hall_of_rounds.nd rfl (Or.inl rfl))) (fun _ _ _ _ _ => pts_nil) (fun _ _ _ _ _ => pe_int))
      (pss_cons (ps_par (i := 13) (j := 14) rfl sc_hall_of_rounds.nd rfl rfl (by decide) rfl rfl (pa_cons (T.even_rounds.call (ok_even_rounds T) (hr.mono (by decide)) rfl (pa_cons (pv 2) (pa_cons (pe_ix ix_tup (pv 1) (pv 8) (fun _ _ => rfl)) (pa_cons (pv 9) pa_nil)))) (pa_cons (T.even_rounds.call (ok_even_rounds T) (hr.mono (by decide)) rfl (pa_cons (pv 2) (pa_cons (pe_ix ix_tup (pv 1) (pv 10) (fun _ _ => rfl)) (pa_cons (pv 11) pa_nil)))) pa_nil)) rfl)
      (pss_cons (ps_for PassesOwn.never rfl (pi_list (T.paired.call (ok_paired T) (hr.mono (by decide)) rfl (pa_cons (pv 13) (pa_cons (pv 14) (pa_cons (pe_dget2 hu (pv 3) (pv 7) (pe_lst pa_nil) ⟨rfl, rfl, rfl, rfl⟩) pa_nil))))) (pg_tup rfl (pgs_cons (pg_name (i := 15) sc_hall_of_rounds.nd rfl (Or.inl rfl)) (pgs_cons (pg_name (i := 16) sc_hall_of_rounds.nd rfl (Or.inl rfl)) pgs_nil))) (pss_one (ps_for PassesOwn.never rfl (pi_zip rfl T.m_zip (pa_cons (pv 15) (pa_cons (pv 16) pa_nil))) (pg_tup rfl (pgs_cons (pg_name (i := 17) sc_hall_of_rounds.nd rfl (Or.inl rfl)) (pgs_cons (pg_name (i := 18) sc_hall_of_rounds.nd rfl (Or.inl rfl)) pgs_nil))) (pss_one (ps_asg (pv 18) (pg_sub (pv 12) (pv 17) set_list))))))
      (pss_one (ps_expr (pe_bm PySem.F.plainAttrs_list PySem.F.slot_list_append PySem.F.type_list_append mt_append (pv 6) (pa_cons (pe_callTy call_tuple_of rfl T.m_tuple b_tuple (pa_cons (pv 12) pa_nil)) pa_nil))))))))
      (pss_one (ps_ret (pe_make T.dHall.mkr (ok_Hall_init T) (hr.mono (by decide)) rfl T.dHall.g T.Hall_init.b .nil pass0 (pa_cons (pv 0) (pa_cons (pe_callTy call_tuple_of rfl T.m_tuple b_tuple (pa_cons (pv 4) pa_nil)) (pa_cons (pe_callTy call_tuple_of rfl T.m_tuple b_tuple (pa_cons (pv 6) pa_nil)) pa_nil)))))))))), ?_⟩
    refine ⟨(show 0 ≤ sizeLine by decide), fun F nF => ?_⟩
    refine ⟨_, rfl, la, rfl, ⟨_, SqT.of (upd_S nF _ _ hla)⟩, for_tup (K := K) (a := la) (xs := ivs Ls) (fun i σ H' => ∃ v5 as, σ = [some (V.ref ho), some (.ref la), some (iv N), some (.ref da), some (.ref F), v5, none, none, none, none, none, none, none, none, none, none, none, none, none, none] ∧ Same H H' ∧ Mat .lst .tup H' F as ((Ls.take i).map (rope N)))
      ⟨_, [], rfl, upd_S nF, upd_same, rfl, fun j vs h => by cases h⟩ (fun i σ H' _ p => by obtain ⟨_, _, _, z, _⟩ := p; exact SqT.of (z _ _ hla)) ?_ ?_⟩
    · rintro i x σ H1 hx ⟨v5, as, rfl, s1, hF⟩
      obtain ⟨L, eL, rfl⟩ := ivs_at hx
      obtain ⟨hL, dL⟩ := hLs L (List.mem_of_getElem? eL)
      refine ⟨_, rfl, .inl ⟨rfl, _, SqL.of hF.1⟩, _, rfl, _, rfl, by omega, by omega, ?_⟩
      rw [Int.toNat_natCast]
      refine fun D nD => lcr (lo := 0) N (rope N L) nD (rope_len N L) (by rw [rope_len]; omega) (fun j y H2 Nx No hj hy s2 hn => ?_) (fun H2 s2 hD => ?_)
      · rw [show (0 : Int) + (j : Int) = (j : Int) by omega]
        rw [rope_at hj] at hy
        cases hy
        have hn := hn _ (Same.refl _)
        refine ⟨rfl, _, rfl, _, _, rfl, rfl, _, rfl, _, _, rfl, rfl, (by omega), _, rfl, ?_⟩
        by_cases c : (j + 1) % L = 0
        · have c2 : (((j : Int) + 1) % (L : Int) != 0) = false := by
            rw [show ((j : Int) + 1) % (L : Int) = (((j + 1) % L : Nat) : Int) by rw [Int.natCast_emod]; rfl, c]
            rfl
          rw [c2]
          have hle : L ≤ j + 1 := Nat.le_of_dvd (by omega) (Nat.dvd_of_mod_eq_zero c)
          refine iteF ⟨_, rfl, _, _, rfl, rfl, _, rfl, _, _, rfl, rfl, ?_⟩
          have e : V.int ((j : Int) + 1 - (L : Int)) = iv (RK.rp L j) := by
            unfold RK.rp
            rw [if_pos c]
            show V.int _ = V.int _
            congr 1
            omega
          rw [← e] at hn
          exact hn
        · have c2 : (((j : Int) + 1) % (L : Int) != 0) = true := by
            rw [show ((j : Int) + 1) % (L : Int) = (((j + 1) % L : Nat) : Int) by rw [Int.natCast_emod]; rfl]
            simp only [bne_iff_ne, ne_eq]
            omega
          rw [c2]
          refine iteT ⟨_, rfl, _, _, rfl, rfl, ?_⟩
          have e : V.int ((j : Int) + 1) = iv (RK.rp L j) := by
            unfold RK.rp
            rw [if_neg c]
            rfl
          rw [← e] at hn
          exact hn
      · refine ⟨D, _, rfl, .inl ⟨SqL.of hD, fun l nl => ?_⟩⟩
        have s3 : Same H1 (upd H2 l (.tup (rope N L))) := s2.trans (upd_S nl)
        have hF3 := hF.same s3
        refine ⟨F, _, _, rfl, rfl, hF3.1, by rw [List.length_map, mat_len hF, List.length_take]; omega, _, as ++ [l], rfl, same_updN (s1.trans s3) nF, ?_⟩
        rw [take_snoc eL, List.map_append]
        exact mat_snoc_t hF3 upd_same
    rintro σ H1 ⟨v5, ra, rfl, s1, hF⟩
    rw [List.take_of_length_le (by rw [List.length_map]; exact Nat.le_refl _)] at hF
    refine ⟨(show 0 ≤ sizeLine by decide), fun W nW => ?_⟩
    have hFW : F ≠ W := ne_of_none hF.1 nW
    have nW0 := s1.free nW
    have hF2 := hF.same (upd_S nW (o := .lst []))
    have s2 : Same H (upd H1 W (.lst [])) := s1.trans (upd_S nW)
    have hW2 : upd H1 W (.lst []) W = some (.lst []) := upd_same
    generalize upd H1 W (.lst []) = H2 at hF2 s2 hW2
    refine ⟨_, rfl, ho, T.cHouse, dh, _, _, rfl, s2 _ _ hh, T.dHouse.cl, T.nDoors, lk_doors R a, a, _, rfl, SqT.of (s2 _ _ hd.1), for_enT (K := K) (a := a) (xs := ad.map V.ref) (fun i σ H' => ∃ (v7 v8 v9 v10 v11 v12 v13 v14 v15 v16 v17 v18 v19 : Option V) (wa : List Addr) (ws : List (List Nat)), σ = [some (V.ref ho), some (.ref la), some (iv N), some (.ref da), some (.ref F), v5, some (.ref W), v7, v8, v9, v10, v11, v12, v13, v14, v15, v16, v17, v18, v19] ∧ Same H H' ∧ Mat .lst .tup H' F ra (Ls.map (rope N)) ∧ Mat .lst .tup H' W wa (ws.map ivs) ∧ ws.length = i ∧
        ∀ (j : Nat) d w, ds[j]? = some d → ws[j]? = some w → ∃ L1 L2, Ls[d.n]? = some L1 ∧ Ls[d.m]? = some L2 ∧ RK.WayOk N L1 d.f L2 d.s w)
      ⟨_, _, _, _, _, _, _, _, _, _, _, _, _, [], [], rfl, s2, hF2, ⟨hW2, rfl, fun j vs h => by cases h⟩, rfl, fun j d w _ h => by cases h⟩ (fun i σ H' _ p => ?_) ?_ ?_⟩
    · obtain ⟨_, _, _, _, _, _, _, _, _, _, _, _, _, _, _, _, z, _⟩ := p
      exact SqT.of (z _ _ hd.1)
    · rintro i x Tp σ H3 hx ⟨v7, v8, v9, v10, v11, v12, v13, v14, v15, v16, v17, v18, v19, wa, ws, rfl, s3, hF3, hW3, lws, hws⟩ nT
      obtain ⟨p, d, rfl, h1, h2, h3⟩ := mat_in hd hx
      obtain ⟨x1, x2, e1, e2, e3⟩ := hf d (List.mem_of_getElem? h2)
      obtain ⟨p1, d1⟩ := hLs x1 (List.mem_of_getElem? e1)
      obtain ⟨p2, d2⟩ := hLs x2 (List.mem_of_getElem? e2)
      have le1 := Nat.le_of_dvd hN d1
      have le2 := Nat.le_of_dvd hN d2
      obtain ⟨_, _, z1, z2⟩ := hds d (List.mem_of_getElem? h2)
      have s4 : Same H3 (upd H3 Tp (.tup [iv i, .ref p])) := upd_S nT
      refine ⟨Tp, _, rfl, SqT.of upd_same, rfl, _, _, rfl, _, _, rfl, p, _, rfl, SqT.of (s4 _ _ (s3 _ _ h3)), rfl, _, _, rfl, _, _, rfl, _, _, rfl, _, _, rfl, rfl, rfl, ?_⟩
      generalize upd H3 Tp (.tup [iv i, .ref p]) = H4 at s4
      refine ⟨_, rfl, _, rfl, by omega, by omega, ?_⟩
      rw [Int.toNat_natCast]
      refine fun Y nY => lcr (lo := 0) N (List.replicate N (iv 0)) nY (by simp) (by rw [List.length_replicate]; omega) (fun j y H2 Nx No hj hy s2 hn => ?_) (fun H5 s5 hY => ?_)
      · rw [List.getElem?_replicate, if_pos hj] at hy
        cases hy
        exact ⟨rfl, hn _ (Same.refl _)⟩
      have s35 : Same H3 H5 := s4.trans s5
      have s05 := s3.trans s35
      have q1 : d.f.natAbs ≤ 1000 := by have := z1.le; omega
      have q2 : d.s.natAbs ≤ 1000 := by have := z2.le; omega
      refine ⟨_, rfl, _, rfl, _, rfl, la, _, _, _, rfl, rfl, SqT.of (s05 _ _ hla), atI_nat (iv_at e1), _, rfl, N, x1, d.f, rfl, p1, d1, by omega, hN5, q1, fun H6 A s6 nA hA => ?_⟩
      obtain ⟨as, mA, fA⟩ := hA
      have s06 := s05.trans s6
      refine ⟨_, rfl, _, rfl, _, rfl, la, _, _, _, rfl, rfl, SqT.of (s06 _ _ hla), atI_nat (iv_at e2), _, rfl, N, x2, d.s, rfl, p2, d2, by omega, hN5, q2, fun H7 B s7 nB hB => ⟨_, _, rfl, ?_⟩⟩
      obtain ⟨bs, mB, fB⟩ := hB
      have s07 := s06.trans s7
      have en := rounds_eq p1 p2 d1 d2 e3
      obtain ⟨n, hn⟩ : ∃ n, N / x1 * Nat.gcd x1 d.f.natAbs = n := ⟨_, rfl⟩
      obtain ⟨r, hr⟩ : ∃ r, x1 / Nat.gcd x1 d.f.natAbs = r := ⟨_, rfl⟩
      have hnr : n * r = N := by rw [← hn, ← hr, Nat.mul_assoc, RK.gr_eq, Nat.div_mul_cancel d1]
      have rp : 0 < r := by rw [← hr]; exact RK.r_pos p1
      have hnN : n ≤ N := by rw [← hnr]; exact Nat.le_mul_of_pos_right n rp
      have hr2 : x2 / Nat.gcd x2 d.s.natAbs = r := by rw [← e3]; exact hr
      have hn2 : N / x2 * Nat.gcd x2 d.s.natAbs = n := by rw [← en]; exact hn
      refine ⟨_, rfl, _, rfl, _, rfl, da, rfl, .inl ⟨[], .inl (s07 _ _ hda)⟩, _, rfl, (show 0 ≤ sizeLine by decide), fun c nc => ?_⟩
      have s8 : Same H7 (upd H7 c (.lst [])) := upd_S nc
      have hc : upd H7 c (.lst []) c = some (.lst []) := upd_same
      generalize upd H7 c (.lst []) = H8 at s8 hc
      refine ⟨none, DGet.k (k := ik i) (s8 _ _ (s07 _ _ hda)), A, B, c, as, bs, gridN N x1 d.f, gridN N x2 d.s, r, rfl, by rw [gridN_ivs]; exact mA.same (s7.trans s8), by rw [gridN_ivs]; exact mB.same s8, hc, by rw [gridN_len, gridN_len, hn, hn2], by rw [gridN_len, hn]; omega, fun l hl => by rw [gridN_row l hl, hr], fun l hl => by rw [gridN_row l hl, hr2], by rw [gridN_len, hn, hnr]; exact hN5, fun H9 Z s9 nZ hZ => ?_⟩
      obtain ⟨ts, mZ⟩ := hZ
      have s59 : Same H5 H9 := ((s6.trans s7).trans s8).trans s9
      have s09 := s05.trans s59
      have hY9 := s59 _ _ hY
      have hYZ : Z ≠ Y := Ne.symm (ne_of_none (s8 _ _ (s7 _ _ (s6 _ _ hY))) nZ)
      have nY3 : H3 Y = none := s4.free nY
      have nY0 : H Y = none := s3.free nY3
      have hWY : W ≠ Y := ne_of_none hW3.1 nY3
      have hFY : F ≠ Y := ne_of_none hF3.1 nY3
      have lz : (as.zip bs).length = n := by
        rw [List.length_zip, mA.2.1, mB.2.1, ← gridN_ivs, ← gridN_ivs, List.length_map, List.length_map, gridN_len, gridN_len, hn, hn2, Nat.min_self]
      refine ⟨Z, rfl, ⟨_, SqL.of mZ.1⟩, for_list (K := K) (a := Z) (xs := ts.map V.ref) (fun k σ H' => ∃ (v15 v16 v17 v18 v19 : Option V) (wl : List Nat), σ = [some (V.ref ho), some (.ref la), some (iv N), some (.ref da), some (.ref F), v5, some (.ref W), some (iv i), some (iv d.n), some (.int d.f), some (iv d.m), some (.int d.s), some (.ref Y), some (.ref A), some (.ref B), v15, v16, v17, v18, v19] ∧ Ch1 Y H9 H' ∧ H' Y = some (.lst (ivs wl)) ∧ Laid N x1 d.f x2 d.s r k 0 wl)
        ⟨_, _, _, _, _, List.replicate N 0, rfl, fun b o h _ => h, by rw [hY9]; simp, by simp, fun k' j' _ h => by omega⟩ (fun k σ H' _ p => ?_) ?_ ?_⟩
      · obtain ⟨_, _, _, _, _, _, _, z, _⟩ := p
        exact SqL.of (z _ _ mZ.1 hYZ)
      · rintro k x σ H10 hx ⟨v15, v16, v17, v18, v19, wl, rfl, c10, hY10, la10⟩
        obtain ⟨t, q, rfl, t1, t2, t3⟩ := mat_in mZ hx
        have hk : k < n := by
          rw [← lz]
          exact (List.getElem?_eq_some_iff.mp t2).1
        obtain ⟨ea, eb⟩ := List.getElem?_zip_eq_some.mp t2
        obtain ⟨a', ea', ra⟩ := mA.2.2 k (row x1 d.f k) (by rw [grid_eq, rng_at (by rw [hn]; exact hk)])
        obtain ⟨b', eb', rb⟩ := mB.2.2 k (row x2 d.s k) (by rw [grid_eq, rng_at (by rw [hn2]; exact hk)])
        rw [ea] at ea'
        rw [eb] at eb'
        cases ea'
        cases eb'
        have naY : q.1 ≠ Y := Ne.symm (ne_of_none hY (fA _ (List.mem_of_getElem? ea)))
        have nbY : q.2 ≠ Y := Ne.symm (ne_of_none hY (s6.free (fB _ (List.mem_of_getElem? eb))))
        have ra9 : H9 q.1 = some (.lst (row x1 d.f k)) := s9 _ _ (s8 _ _ (s7 _ _ ra))
        have rb9 : H9 q.2 = some (.lst (row x2 d.s k)) := s9 _ _ (s8 _ _ rb)
        have lra : (row x1 d.f k).length = r := by unfold row; rw [List.length_map, List.length_map, List.length_range, hr]
        have lrb : (row x2 d.s k).length = r := by unfold row; rw [List.length_map, List.length_map, List.length_range, hr2]
        refine ⟨t, _, rfl, SqT.of (c10 _ _ t3 (ne_of t3 hY9 (by intro z; cases z))), rfl, _, _, rfl, _, _, rfl, rfl, ?_⟩
        refine ⟨_, rfl, _, rfl, q.1, q.2, _, _, rfl, SqL.of (c10 _ _ ra9 naY), SqL.of (c10 _ _ rb9 nbY), RZ.for_zipL (K := K) (a := q.1) (b := q.2) (xs := row x1 d.f k) (ys := row x2 d.s k) (lra.trans lrb.symm) (fun j σ H' => ∃ (v17 v18 : Option V) (wl : List Nat), σ = [some (V.ref ho), some (.ref la), some (iv N), some (.ref da), some (.ref F), v5, some (.ref W), some (iv i), some (iv d.n), some (.int d.f), some (iv d.m), some (.int d.s), some (.ref Y), some (.ref A), some (.ref B), some (.ref q.1), some (.ref q.2), v17, v18, v19] ∧ Ch1 Y H9 H' ∧ H' Y = some (.lst (ivs wl)) ∧ Laid N x1 d.f x2 d.s r k j wl)
          ⟨_, _, wl, rfl, c10, hY10, la10⟩ (fun j σ H' p => ?_) ?_ ?_⟩
        · obtain ⟨_, _, _, _, z, _⟩ := p
          exact ⟨SqL.of (z _ _ ra9 naY), SqL.of (z _ _ rb9 nbY)⟩
        · rintro j y1 y2 T2 σ H11 hy1 hy2 ⟨v17, v18, wl, rfl, c11, hY11, la11⟩ nT2
          have hj : j < r := by rw [← lra]; exact (List.getElem?_eq_some_iff.mp hy1).1
          have ey1 : y1 = iv (RK.hs x1 d.f k j) := by
            unfold row at hy1
            rw [iv_at (rng_at (by rw [hr]; exact hj))] at hy1
            exact (Option.some.inj hy1).symm
          have ey2 : y2 = iv (RK.hs x2 d.s k j) := by
            unfold row at hy2
            rw [iv_at (rng_at (by rw [hr2]; exact hj))] at hy2
            exact (Option.some.inj hy2).symm
          subst ey1 ey2
          have s12 : Same H11 (upd H11 T2 (.tup [iv (RK.hs x1 d.f k j), iv (RK.hs x2 d.s k j)])) := upd_S nT2
          refine ⟨T2, _, rfl, SqT.of upd_same, rfl, _, _, rfl, _, _, rfl, rfl, ?_⟩
          generalize upd H11 T2 (.tup [iv (RK.hs x1 d.f k j), iv (RK.hs x2 d.s k j)]) = H12 at s12
          have hlt : RK.hs x1 d.f k j < (ivs wl).length := by
            rw [ivs_len, la11.1]
            exact RK.hs_lt p1 d1 (by rw [hn]; exact hk)
          refine ⟨_, rfl, _, rfl, _, rfl, Y, _, _, _, rfl, rfl, s12 _ _ hY11, ixN_nat hlt, _, _, wl.set (RK.hs x1 d.f k j) (RK.hs x2 d.s k j), rfl, (c11.then_ s12).upd_, ?_, la11.step p1 d1 hr hn hk hj⟩
          rw [upd_same]
          show some (HO.lst ((wl.map iv).set _ _)) = some (HO.lst ((wl.set _ _).map iv))
          rw [List.map_set]
        · rintro σ H11 ⟨v17, v18, wl, rfl, c11, hY11, la11⟩
          rw [lra] at la11
          exact ⟨_, _, _, _, _, wl, rfl, c11, hY11, la11.next⟩
      · rintro σ H10 ⟨v15, v16, v17, v18, v19, wl, rfl, c10, hY10, la10⟩
        have lts : (ts.map V.ref).length = n := by rw [List.length_map, mat_len mZ, lz]
        rw [lts] at la10
        have hW10 := mat_ch1 (hW3.same (s35.trans s59)) c10 hY9 hWY
        have hF10 := mat_ch1 (hF3.same (s35.trans s59)) c10 hY9 hFY
        have s010 : Same H H10 := c10.same s09 nY0
        have hil : i < ds.length := (List.getElem?_eq_some_iff.mp h2).1
        refine ⟨_, rfl, .inl ⟨rfl, _, SqL.of hW10.1⟩, _, rfl, Y, _, rfl, .inl ⟨SqL.of hY10, fun l nl => ?_⟩⟩
        have hW11 := hW10.same (upd_S nl (o := .tup (ivs wl)))
        have hF11 := hF10.same (upd_S nl (o := .tup (ivs wl)))
        refine ⟨W, _, _, rfl, rfl, hW11.1, by rw [List.length_map, mat_len hW10, lws]; omega, _, _, _, _, _, _, _, _, _, _, _, _, _, wa ++ [l], ws ++ [wl], rfl, same_updN (s010.trans (upd_S nl)) nW0, mat_keep hF11 hW11.1 hFW, ?_, by rw [List.length_append, lws]; rfl, ?_⟩
        · rw [List.map_append]
          exact mat_snoc_t hW11 upd_same
        · intro j d' w' hd' hw'
          by_cases c : j < ws.length
          · rw [List.getElem?_append_left c] at hw'
            exact hws j d' w' hd' hw'
          · have hjl := (List.getElem?_eq_some_iff.mp hw').1
            rw [List.length_append, List.length_singleton] at hjl
            obtain rfl : j = ws.length := by omega
            rw [List.getElem?_append_right (Nat.le_refl _), Nat.sub_self] at hw'
            cases hw'
            rw [lws, h2] at hd'
            cases hd'
            exact ⟨x1, x2, e1, e2, RK.way_ok p1 p2 d1 d2 hr hr2 hn hn2 la10.1 fun k' j' hk' hj' => la10.2 k' j' hj' (.inl hk')⟩
    · rintro σ H3 ⟨v7, v8, v9, v10, v11, v12, v13, v14, v15, v16, v17, v18, v19, wa, ws, rfl, s3, hF3, hW3, lws, hws⟩
      have lad : (ad.map V.ref).length = ds.length := by rw [List.length_map, mat_len hd]
      rw [lad] at lws
      refine ⟨_, rfl, _, rfl, F, _, rfl, .inl ⟨SqL.of hF3.1, fun l1 n1 => ?_⟩⟩
      have s4 : Same H3 (upd H3 l1 (.tup (ra.map V.ref))) := upd_S n1
      have h1 : upd H3 l1 (.tup (ra.map V.ref)) l1 = some (.tup (ra.map V.ref)) := upd_same
      generalize upd H3 l1 (.tup (ra.map V.ref)) = H4 at s4 h1
      refine ⟨_, rfl, W, _, rfl, .inl ⟨SqL.of (s4 _ _ hW3.1), fun l2 n2 => ?_⟩⟩
      have s5 : Same H4 (upd H4 l2 (.tup (wa.map V.ref))) := upd_S n2
      have h2 : upd H4 l2 (.tup (wa.map V.ref)) l2 = some (.tup (wa.map V.ref)) := upd_same
      generalize upd H4 l2 (.tup (wa.map V.ref)) = H5 at s5 h2
      have s05 := (s3.trans s4).trans s5
      refine fun x dx nx nd ne => ?_
      have s6 : Same H5 (upd (upd H5 dx (.own x)) x (.ins T.cHall dx [])) := same_updN (upd_S nd) nx
      have hx6 : upd (upd H5 dx (.own x)) x (.ins T.cHall dx []) x = some (.ins T.cHall dx []) := upd_same
      generalize upd (upd H5 dx (.own x)) x (.ins T.cHall dx []) = H6 at s6 hx6
      have mro : Ropes H6 l1 N Ls := ⟨ra, s6 _ _ (s5 _ _ h1), hF3.2.1, fun j vs hj => by
        obtain ⟨p, e1, e2⟩ := hF3.2.2 j vs hj
        exact ⟨p, e1, s6 _ _ (s5 _ _ (s4 _ _ e2))⟩⟩
      have mwa : WaysAt H6 l2 ws := ⟨wa, s6 _ _ h2, hW3.2.1, fun j vs hj => by
        obtain ⟨p, e1, e2⟩ := hW3.2.2 j vs hj
        exact ⟨p, e1, s6 _ _ (s5 _ _ (s4 _ _ e2))⟩⟩
      have wok : WaysOk N Ls ds ws := ⟨lws, hws⟩
      refine ⟨x, dx, ho, l1, l2, N, R, a, ds, Ls, ws, rfl, hx6, hH0.same (s05.trans s6), mro, mwa, hLs, lLs, hR, hR2, hN, wok, hz, hN5, fun L hL => ?_, fun w hw => ?_, fun H7 hx7 k7 => ⟨rfl, ?_⟩⟩
      · rcases hN2 with z | ⟨z1, z2, z3⟩
        · exact .inl (by rw [RK.ropeL_len]; exact z)
        · rw [z2] at hL
          rw [List.mem_singleton] at hL
          exact .inr (by rw [hL, z1])
      · obtain ⟨j, hj⟩ := List.mem_iff_getElem?.mp hw
        have hjl := (List.getElem?_eq_some_iff.mp hj).1
        rcases hN2 with z | ⟨z1, z2, z3⟩
        · obtain ⟨_, _, _, _, q⟩ := hws j _ w (List.getElem?_eq_getElem (by rw [← lws]; exact hjl)) hj
          exact .inl (by rw [q.len]; exact z)
        · rw [lws, z3] at hjl
          exact absurd hjl (by simp)
      · have nx0 := s05.free nx
        have s7 : Same H H7 := fun b o e => k7 b o (s6 _ _ (s05 _ _ e)) (ne_of_none e nx0)
        have kt : ∀ (b : Addr) (xs : List V), H6 b = some (.tup xs) → H7 b = some (.tup xs) := fun b xs e => k7 b _ e (ne_of e hx6 (by intro z; cases z))
        have mt : ∀ (b : Addr) (vss : List (List V)), MatAt .tup .tup H6 b vss → MatAt .tup .tup H7 b vss := fun b vss m => by
          obtain ⟨as, m1, m2, m3⟩ := m
          exact ⟨as, kt _ _ m1, m2, fun j vs hj => by
            obtain ⟨p, e1, e2⟩ := m3 j vs hj
            exact ⟨p, e1, kt _ _ e2⟩⟩
        exact k H7 x l1 l2 ws s7 nx0 ⟨⟨dx, hx7⟩, hH0.same s7, mt _ _ mro, mt _ _ mwa⟩ wok
end
end PR
/-! text W14 -/
set_option Elab.async false
set_option linter.all false
set_option maxRecDepth 100000
set_option maxHeartbeats 4000000
namespace PR
open PySem PySem.Spec PyProof.Rows L2
theorem foldl_lcm_dvd : ∀ (ns : List Nat) (a : Nat), a ∣ ns.foldl Nat.lcm a ∧ ∀ n ∈ ns, n ∣ ns.foldl Nat.lcm a
  | [], a => ⟨Nat.dvd_refl _, fun _ h => nomatch h⟩
  | m :: ns, a => by
    obtain ⟨h1, h2⟩ := foldl_lcm_dvd ns (Nat.lcm a m)
    refine ⟨Nat.dvd_trans (Nat.dvd_lcm_left a m) h1, fun n hn => ?_⟩
    rcases List.mem_cons.mp hn with rfl | hn
    · exact Nat.dvd_trans (Nat.dvd_lcm_right a n) h1
    · exact h2 n hn
theorem foldl_lcm_pos : ∀ (ns : List Nat) (a : Nat), 0 < a → (∀ n ∈ ns, 0 < n) → 0 < ns.foldl Nat.lcm a
  | [], a, h, _ => h
  | m :: ns, a, h, hn => foldl_lcm_pos ns (Nat.lcm a m) (Nat.lcm_pos h (hn m (by simp))) fun n q => hn n (.tail _ q)
theorem dvd_lcmL {ns : List Nat} {n : Nat} (h : n ∈ ns) : n ∣ lcmL ns := (foldl_lcm_dvd ns 1).2 n h
theorem lcmL_pos {ns : List Nat} (h : ∀ n ∈ ns, 0 < n) : 0 < lcmL ns := foldl_lcm_pos ns 1 (by decide) h
section
variable {P : Program} {w : World} {K : PySem.W.Frag} {mg : Str → Option Value} {base : Heap}
theorem ok_hall_of_returns (T : Txt K mg) : FnOk P w K mg base CX0 8 T.hall_of_returns.a T.hall_of_returns.fd ["house", "fitting"] (spOfReturns T.cHall T.cHouse) := by
  refine T.hall_of_returns.F.ok sc_hall_of_returns (fun vs H Q E h => ?_) (fun cdv A0 outer s H vs Q E hr h => ?_)
  · obtain ⟨h, la, N, R, a, ds, Ls, rfl, _⟩ := h
    rfl
  · obtain ⟨ho, la, N, R, a, ds, Ls, rfl, hH, hla, hds, hf, hb, hl, lLs, hR, hR2, hz, hN2, k⟩ := h
    obtain ⟨tS, mSeats⟩ := T.cSeats
    have hH0 := hH
    obtain ⟨⟨dh, hh⟩, ad, hd⟩ := hH
    have hp : 0 < N := hl ▸ lcmL_pos fun n hn => (hb n hn).1
    refine ⟨_, PSs.nox (pss_cons (ps_expr (T.need_house.call (ok_need_house T) (hr.mono (by decide)) rfl (pa_cons (pv 0) pa_nil)))
      (pss_cons (ps_expr (T.need_fitting.call (ok_need_fitting T) (hr.mono (by decide)) rfl (pa_cons (pv 0) (pa_cons (pv 1) pa_nil))))
      (pss_cons (ps_set (i := 2) sc_hall_of_returns.nd rfl (Or.inl rfl) (T.least_common.call (ok_least_common T) (hr.mono (by decide)) rfl (pa_cons (pv 1) pa_nil)))
      (pss_cons (ps_if (pt_cmpR op_gt (pv 2) (pe_glob (v := .int 5000) rfl mSeats ⟨_, rfl⟩) (nomark _)) (pss_one ps_never) pss_nil)
      (pss_one (ps_ret (T.hall_of_rounds.call (ok_hall_of_rounds T) (hr.mono (by decide)) rfl (pa_cons (pv 0) (pa_cons (pv 1) (pa_cons (pv 2) (pa_cons pe_dnewK pa_nil))))))))))), ?_⟩
    refine ⟨_, rfl, ho, dh, _, rfl, hh, ?_⟩
    refine ⟨_, rfl, _, rfl, ho, la, R, a, ds, Ls, rfl, hH0, hla, hf, hb, lLs, hR2, fun H1 s1 => ?_⟩
    refine ⟨_, rfl, la, Ls, rfl, .inl (s1 _ _ hla), hb, ?_⟩
    rw [hl]
    refine ⟨_, rfl, _, _, rfl, rfl, false, bl_f (by omega), iteF ?_⟩
    refine ⟨_, rfl, _, rfl, _, rfl, fun D nD => ?_⟩
    have s2 : Same H1 (upd H1 D (.dK [])) := upd_S nD
    have s12 := s1.trans s2
    exact ⟨ho, la, D, N, R, a, ds, Ls, rfl, hH0.same s12, s12 _ _ hla, upd_same, hds, hf, fun L hL => ⟨(hb L hL).1, hl ▸ dvd_lcmL hL⟩, lLs, hR, hR2, hp, hz, hN2, fun H2 x ro wa ws s3 nx hx wok => k H2 x ro wa ws (s12.trans s3) (s12.free nx) hx wok⟩
end
end PR
/-! text W15 -/
set_option Elab.async false
set_option linter.all false
set_option maxRecDepth 100000
set_option maxHeartbeats 4000000
/-! the source of draws -/
namespace PR
open PySem PySem.Spec PyProof.Rows L2
theorem st_g (g c : Addr) (l t : Int) : valV (stK g c l t) (.inr "great") = some (.ref g) := rfl
theorem st_c (g c : Addr) (l t : Int) : valV (stK g c l t) (.inr "cells") = some (.ref c) := rfl
theorem st_l (g c : Addr) (l t : Int) : valV (stK g c l t) (.inr "left") = some (.int l) := rfl
theorem st_t (g c : Addr) (l t : Int) : valV (stK g c l t) (.inr "turn") = some (.int t) := rfl
theorem st_pl (g c : Addr) (l t u : Int) : putK (stK g c l t) (.inr "left") (.int u) = stK g c u t := rfl
theorem st_pt (g c : Addr) (l t u : Int) : putK (stK g c l t) (.inr "turn") (.int u) = stK g c l u := rfl
theorem gt_g {H : Hp} {s g c : Addr} {l t : Int} (h : H s = some (.dK (stK g c l t))) : DGet H s (.str "great") (some (.ref g)) := st_g g c l t ▸ DGet.k (k := .inr "great") h
theorem gt_c {H : Hp} {s g c : Addr} {l t : Int} (h : H s = some (.dK (stK g c l t))) : DGet H s (.str "cells") (some (.ref c)) := st_c g c l t ▸ DGet.k (k := .inr "cells") h
theorem gt_l {H : Hp} {s g c : Addr} {l t : Int} (h : H s = some (.dK (stK g c l t))) : DGet H s (.str "left") (some (.int l)) := st_l g c l t ▸ DGet.k (k := .inr "left") h
theorem gt_t {H : Hp} {s g c : Addr} {l t : Int} (h : H s = some (.dK (stK g c l t))) : DGet H s (.str "turn") (some (.int t)) := st_t g c l t ▸ DGet.k (k := .inr "turn") h
theorem pu_l {H : Hp} {s g c : Addr} {l t u : Int} (h : H s = some (.dK (stK g c l t))) : DPut H s (.str "left") (.int u) (upd H s (.dK (stK g c u t))) := st_pl g c l t u ▸ DPut.k (k := .inr "left") h (by show 4 < sizeLine; decide)
theorem pu_t {H : Hp} {s g c : Addr} {l t u : Int} (h : H s = some (.dK (stK g c l t))) : DPut H s (.str "turn") (.int u) (upd H s (.dK (stK g c l u))) := st_pt g c l t u ▸ DPut.k (k := .inr "turn") h (by show 4 < sizeLine; decide)
/-- the parts of the source -/
structure Sr (H : Hp) (s g c : Addr) (gs cs : List Int) (l t : Int) : Prop where
  hs : H s = some (.dK (stK g c l t))
  hg : H g = some (.lst (gs.map V.int))
  hc : H c = some (.lst (cs.map V.int))
  hn : c ≠ g
theorem Sr.ng {H : Hp} {s g c : Addr} {gs cs : List Int} {l t : Int} (h : Sr H s g c gs cs l t) : g ≠ s := ne_of h.hg h.hs (by intro z; cases z)
theorem Sr.nc {H : Hp} {s g c : Addr} {gs cs : List Int} {l t : Int} (h : Sr H s g c gs cs l t) : c ≠ s := ne_of h.hc h.hs (by intro z; cases z)
theorem Sr.same {H H' : Hp} {s g c : Addr} {gs cs : List Int} {l t : Int} (h : Sr H s g c gs cs l t) (e : Same H H') : Sr H' s g c gs cs l t := ⟨e _ _ h.hs, e _ _ h.hg, e _ _ h.hc, h.hn⟩
theorem Sr.put {H : Hp} {s g c : Addr} {gs cs : List Int} {l t l' t' : Int} (h : Sr H s g c gs cs l t) : Sr (upd H s (.dK (stK g c l' t'))) s g c gs cs l' t' := by
  refine ⟨upd_same, ?_, ?_, h.hn⟩
  · rw [upd_ne h.ng]
    exact h.hg
  · rw [upd_ne h.nc]
    exact h.hc
theorem Sr.at {H : Hp} {s g c : Addr} {gs cs : List Int} {l t T : Int} (h : Sr H s g c gs cs l t) (h0 : 0 ≤ t) (h1 : t ≤ T) : StAt H s g c T := ⟨gs, cs, l, t, h.hs, h.hg, h.hc, h.hn, h0, h1⟩
theorem StAt.sr {H : Hp} {s g c : Addr} {T : Int} (h : StAt H s g c T) : ∃ gs cs l t, Sr H s g c gs cs l t ∧ 0 ≤ t ∧ t ≤ T := by
  obtain ⟨gs, cs, l, t, h1, h2, h3, h4, h5, h6⟩ := h
  exact ⟨gs, cs, l, t, ⟨h1, h2, h3, h4⟩, h5, h6⟩
theorem chg_s {s g : Addr} {H H1 : Hp} {o : HO} (e : Chg s g H H1) : Chg s g H (upd H1 s o) := fun b u h n1 n2 => by
  rw [upd_ne n1]
  exact e b u h n1 n2
theorem chg_g {s g : Addr} {H H1 : Hp} {o : HO} (e : Chg s g H H1) : Chg s g H (upd H1 g o) := fun b u h n1 n2 => by
  rw [upd_ne n2]
  exact e b u h n1 n2
section
variable {P : Program} {w : World} {K : PySem.W.Frag} {mg : Str → Option Value} {base : Heap}
theorem ok_law_blended (T : Txt K mg) : FnOk P w K mg base CX0 1 T.law_blended.a T.law_blended.fd ["_law_state"] spBlended := by
  refine T.law_blended.F.ok sc_law_blended (fun vs H Q E h => ?_) (fun cdv A0 outer s H vs Q E hr h => ?_)
  · obtain ⟨s, g, c, T0, rfl, _⟩ := h
    rfl
  · obtain ⟨s, g, c, Tn, rfl, hS, hT, k⟩ := h
    obtain ⟨gs, cs, l, t, S, t0, t1⟩ := hS.sr
    have hu := hu_of hr
    unfold tMax at hT
    refine ⟨_, PSs.nox (pss_cons (ps_par (i := 1) (j := 2) rfl sc_law_blended.nd rfl rfl (by decide) rfl rfl (pa_cons (pe_op op_add (pe_dget hu (pv 0) pe_str (fun _ _ => rfl)) pe_int) (pa_cons pe_int pa_nil)) rfl)
      (pss_cons (ps_dput hu (pv 0) pe_str (pv 1) rfl)
      (pss_cons (ps_for PassesOwn.never rfl (pi_list (pe_lst (pa_cons pe_int (pa_cons pe_int (pa_cons pe_int pa_nil))))) (pg_name (i := 3) sc_law_blended.nd rfl (Or.inl rfl)) (pss_cons (ps_set (i := 4) sc_law_blended.nd rfl (Or.inl rfl) (pe_op op_add (pe_op op_mul pe_int (pv 1)) (pe_op op_fdiv (pv 3) pe_int)))
      (pss_cons (ps_for PassesOwn.never rfl (pi_list (pe_dget hu (pv 0) pe_str (fun _ _ => rfl))) (pg_name (i := 5) sc_law_blended.nd rfl (Or.inl rfl)) (pss_one (ps_set (i := 4) sc_law_blended.nd rfl (Or.inl rfl) (pe_op op_mod (pe_callTy call_int1 rfl T.m_int b_int (pa_cons (pe_op op_add (pe_op op_add (pe_op op_mul (pv 4) pe_int) (pv 5)) (pv 1)) pa_nil)) (pv 3)))))
      (pss_one (ps_set (i := 2) sc_law_blended.nd rfl (Or.inl rfl) (pe_op op_add (pe_op op_mul (pv 2) pe_int) (pe_op op_mod (pe_callTy call_int1 rfl T.m_int b_int (pa_cons (pe_op op_pow (pv 4) pe_int) pa_nil)) (pv 3))))))))
      (pss_one (ps_ret (pv 2)))))), ?_⟩
    refine ⟨_, rfl, s, _, rfl, gt_t S.hs, _, _, rfl, rfl, _, _, rfl, ?_⟩
    refine ⟨_, rfl, _, rfl, s, _, rfl, pu_t S.hs, ?_⟩
    have S1 : Sr (upd H s (.dK (stK g c l (t + 1)))) s g c gs cs l (t + 1) := S.put
    have c1 : Chg s g H (upd H s (.dK (stK g c l (t + 1)))) := chg_s (.refl _ _ _)
    generalize upd H s (.dK (stK g c l (t + 1))) = H1 at S1 c1
    refine ⟨(show 3 ≤ sizeLine by decide), fun p np => ?_⟩
    have s2 : Same H1 (upd H1 p (.lst [.int 2147483587, .int 2147483563, .int 2147483549])) := upd_S np
    have hp : upd H1 p (.lst [.int 2147483587, .int 2147483563, .int 2147483549]) p = some (.lst [.int 2147483587, .int 2147483563, .int 2147483549]) := upd_same
    generalize upd H1 p (.lst [.int 2147483587, .int 2147483563, .int 2147483549]) = H2 at s2 hp
    have S2 := S1.same s2
    refine ⟨p, rfl, ⟨_, SqL.of hp⟩, for_list (K := K) (a := p) (xs := [.int 2147483587, .int 2147483563, .int 2147483549]) (fun i σ H' => H' = H2 ∧ ∃ (f : Int) (v3 v4 v5 : Option V), σ = [some (.ref s), some (.int (t + 1)), some (.int f), v3, v4, v5]) ⟨rfl, _, _, _, _, rfl⟩ (fun i σ H' _ p => by rw [p.1]; exact SqL.of hp) ?_ ?_⟩
    · rintro i x σ H' hx ⟨rfl, f, v3, v4, v5, rfl⟩
      obtain ⟨q, rfl, q1, q2⟩ : ∃ q : Int, x = .int q ∧ 0 < q ∧ q ≤ 2147483587 := by
        match i, hx with
        | 0, hx => exact ⟨_, (Option.some.inj hx).symm, by omega, by omega⟩
        | 1, hx => exact ⟨_, (Option.some.inj hx).symm, by omega, by omega⟩
        | 2, hx => exact ⟨_, (Option.some.inj hx).symm, by omega, by omega⟩
      refine ⟨_, rfl, _, _, rfl, rfl, .inl ⟨by decide, by decide⟩, _, rfl, _, _, rfl, rfl, ⟨by decide, by decide⟩, _, _, rfl, rfl, ?_⟩
      have hb : 0 ≤ q / 61 ∧ q / 61 ≤ q := ⟨Int.ediv_nonneg (by omega) (by decide), Int.ediv_le_self _ (by omega)⟩
      refine ⟨_, rfl, s, _, rfl, gt_c S2.hs, c, rfl, ⟨_, SqL.of S2.hc⟩, for_list (K := K) (a := c) (xs := cs.map V.int) (fun i σ H1 => H1 = H' ∧ ∃ (b : Int) (v5 : Option V), 0 ≤ b ∧ b < 2 ^ 64 ∧ σ = [some (.ref s), some (.int (t + 1)), some (.int f), some (.int q), some (.int b), v5]) ⟨rfl, _, _, by omega, by omega, rfl⟩ (fun i σ H' _ p => by rw [p.1]; exact SqL.of S2.hc) ?_ ?_⟩
      · rintro j y σ H1 hy ⟨rfl, b, v5, b0, b1, rfl⟩
        obtain ⟨z, hz, rfl⟩ : ∃ z, cs[j]? = some z ∧ y = .int z := by
          rw [List.getElem?_map] at hy
          cases e : cs[j]? with
          | none => rw [e] at hy; cases hy
          | some z => rw [e] at hy; exact ⟨z, rfl, (Option.some.inj hy).symm⟩
        refine ⟨_, rfl, _, _, rfl, rfl, .inr ⟨by decide, by decide⟩, _, rfl, _, _, rfl, rfl, _, rfl, _, _, rfl, rfl, .inl ⟨_, rfl, _, rfl, _, _, rfl, rfl, q1, rfl, _, _, Int.emod_nonneg _ (by omega), ?_, rfl⟩⟩
        have := Int.emod_lt_of_pos (b * 69621 + z + (t + 1)) q1
        omega
      · rintro σ H1 ⟨rfl, b, v5, b0, b1, rfl⟩
        exact ⟨_, rfl, _, _, rfl, rfl, .inr ⟨by decide, by decide⟩, _, rfl, _, _, rfl, rfl, ⟨by decide, by decide, by omega⟩, .inl ⟨_, rfl, _, rfl, _, _, rfl, rfl, q1, _, _, rfl, rfl, rfl, _, _, _, _, rfl⟩⟩
    · rintro σ H' ⟨rfl, f, v3, v4, v5, rfl⟩
      exact ⟨_, rfl, k f _ (S2.at (by omega) (by omega)) (c1.trans (Chg.of s2))⟩
end
end PR
/-! text W16 -/
set_option Elab.async false
set_option linter.all false
set_option maxRecDepth 100000
set_option maxHeartbeats 4000000
namespace PR
open PySem PySem.Spec PyProof.Rows L2
theorem erase_perm {α : Type} : ∀ {xs : List α} {k : Nat} {y : α}, xs[k]? = some y → (y :: xs.eraseIdx k).Perm xs
  | x :: xs, 0, y, h => by
    cases h
    exact List.Perm.refl _
  | x :: xs, k + 1, y, h => by
    have ih := erase_perm (xs := xs) (k := k) h
    exact (List.Perm.swap x y _).trans (ih.cons x)
theorem seq_nat {n k : Nat} (h : k < n) : seqIndex? (k : Int) n = some k := (ixN_seq (ixN_nat h)).1
section
variable {P : Program} {w : World} {K : PySem.W.Frag} {mg : Str → Option Value} {base : Heap}
theorem ok_law_draw (T : Txt K mg) : FnOk P w K mg base CX0 2 T.law_draw.a T.law_draw.fd ["_law_state", "_law_size_here"] spDraw := by
  refine T.law_draw.F.ok sc_law_draw (fun vs H Q E h => ?_) (fun cdv A0 outer s H vs Q E hr h => ?_)
  · obtain ⟨s, g, c, T0, n, rfl, _⟩ := h
    rfl
  · obtain ⟨s, g, c, Tn, n, rfl, n0, n1, hS, hT, k⟩ := h
    obtain ⟨gs, cs, l, t, S, t0, t1⟩ := hS.sr
    have hu := hu_of hr
    have huu := Nat.lt_of_succ_lt hu
    unfold tMax at hT
    refine ⟨_, PSs.nox (C8.pss_cut (ps_if (pt_cmpR op_eq (pe_dget hu (pv 0) pe_str (fun _ _ => rfl)) pe_int (nomark _)) (pss_one (ps_dput hu (pv 0) pe_str (pe_ifExp (pt_cmpR (op_ne_nil huu) (pe_dget hu (pv 0) pe_str (fun _ _ => rfl)) (pe_lst pa_nil) (nomark _)) (pe_bm PySem.F.plainAttrs_list PySem.F.slot_list_pop PySem.F.type_list_pop mt_popAt (pe_dget hu (pv 0) pe_str (fun _ _ => rfl)) (pa_cons pe_int pa_nil)) (T.law_blended.call (ok_law_blended T) (hr.mono (by decide)) rfl (pa_cons (pv 0) pa_nil))) rfl)) pss_nil)
      (pss_cons (ps_set (i := 2) sc_law_draw.nd rfl (Or.inl rfl) (pe_op op_mod (pe_callTy call_int1 rfl T.m_int b_int (pa_cons (pe_dget hu (pv 0) pe_str (fun _ _ => rfl)) pa_nil)) (pv 1)))
      (pss_cons (ps_dput hu (pv 0) pe_str (pe_op op_fdiv (pe_dget hu (pv 0) pe_str (fun _ _ => rfl)) (pv 1)) rfl)
      (pss_one (ps_ret (pv 2)))))), ?_⟩
    refine ⟨fun σ H' => σ = [some (.ref s), some (.int n), none] ∧ ∃ gs cs l t, Sr H' s g c gs cs l t ∧ 0 ≤ t ∧ t ≤ Tn + 1 ∧ Chg s g H H', ?_, ?_⟩
    · refine ⟨_, rfl, s, _, rfl, gt_l S.hs, rfl, _, rfl, ?_⟩
      by_cases e : l = 0
      · subst e
        rw [decide_eq_true rfl]
        refine iteT ⟨_, rfl, s, _, rfl, gt_g S.hs, (show 0 ≤ sizeLine by decide), fun p np => ?_⟩
        have s1 : Same H (upd H p (.lst [])) := upd_S np
        have hp : upd H p (.lst []) p = some (.lst []) := upd_same
        generalize upd H p (.lst []) = H1 at s1 hp
        have S1 := S.same s1
        refine ⟨g, p, _, rfl, rfl, SqL.of S1.hg, hp, _, rfl, ?_⟩
        cases gs with
        | nil =>
          refine iteF ⟨_, rfl, s, g, c, Tn, rfl, S1.at t0 t1, by unfold tMax; omega, fun r H2 hS2 ch => ?_⟩
          obtain ⟨gs2, cs2, l2, t2, S2, t20, t21⟩ := hS2.sr
          exact ⟨_, rfl, s, _, rfl, pu_l S2.hs, rfl, gs2, cs2, r, t2, S2.put, t20, t21, chg_s ((Chg.of s1).trans ch)⟩
        | cons z gs =>
          refine iteT ⟨_, rfl, s, _, rfl, gt_g S1.hs, .inl ⟨rfl, _, SqL.of S1.hg⟩, g, _, 0, 0, V.int z, rfl, rfl, S1.hg, by decide, by decide, seq_nat (n := ((z :: gs).map V.int).length) (k := 0) (by simp), rfl, ?_⟩
          have S2 : Sr (upd H1 g (.lst (((z :: gs).map V.int).eraseIdx 0))) s g c gs cs 0 t := ⟨by rw [upd_ne (Ne.symm S1.ng)]; exact S1.hs, by rw [upd_same]; rfl, by rw [upd_ne S1.hn]; exact S1.hc, S1.hn⟩
          exact ⟨_, rfl, s, _, rfl, pu_l S2.hs, rfl, gs, cs, z, t, S2.put, t0, by omega, chg_s (chg_g (Chg.of s1))⟩
      · rw [decide_eq_false (fun z => e (V.int.inj z))]
        exact iteF ⟨rfl, gs, cs, l, t, S, t0, by omega, .refl _ _ _⟩
    · rintro σ H1 ⟨rfl, gs1, cs1, l1, t1', S1, t10, t11, ch⟩
      refine ⟨_, rfl, s, _, rfl, gt_l S1.hs, .inl ⟨_, rfl, _, rfl, _, _, rfl, rfl, n0, ?_⟩⟩
      refine ⟨_, rfl, s, _, rfl, gt_l S1.hs, _, rfl, _, _, rfl, rfl, ⟨n0, by omega⟩, _, rfl, s, _, rfl, pu_l S1.hs, ?_⟩
      exact ⟨_, rfl, k _ _ (Int.emod_nonneg _ (by omega)) (Int.emod_lt_of_pos _ n0) (S1.put.at t10 t11) (chg_s ch)⟩
theorem ok_law_pick (T : Txt K mg) : FnOk P w K mg base CX0 3 T.law_pick.a T.law_pick.fd ["_law_state", "_law_several"] spPick := by
  refine T.law_pick.F.ok sc_law_pick (fun vs H Q E h => ?_) (fun cdv A0 outer s H vs Q E hr h => ?_)
  · obtain ⟨s, g, c, l, T0, xs, rfl, _⟩ := h
    rfl
  · obtain ⟨s, g, c, l, Tn, xs, rfl, hl, lg, x0, x1, hS, hT, k⟩ := h
    obtain ⟨gs, cs, ll, t, S, t0, t1⟩ := hS.sr
    have ls : l ≠ s := ne_of hl S.hs (by intro z; cases z)
    refine ⟨_, PSs.nox (pss_one (ps_ret (pe_ix ix_list (pv 1) (T.law_draw.call (ok_law_draw T) (hr.mono (by decide)) rfl (pa_cons (pv 0) (pa_cons (pe_callB call_len_seq rfl T.m_len boot_len (pa_cons (pv 1) pa_nil)) pa_nil))) (fun _ _ => rfl)))), ?_⟩
    refine ⟨_, rfl, _, rfl, _, rfl, l, _, rfl, .inl (SqL.of hl), s, g, c, Tn, _, rfl, by omega, by omega, hS, hT, fun r H1 r0 r1 hS1 ch => ?_⟩
    obtain ⟨j, rfl⟩ : ∃ j : Nat, r = (j : Int) := ⟨r.toNat, by omega⟩
    have hj : j < xs.length := by omega
    have hx := List.getElem?_eq_getElem hj
    exact ⟨l, _, _, _, rfl, rfl, SqL.of (ch _ _ hl ls lg), atI_nat hx, k _ _ (List.mem_of_getElem? hx) hS1 ch⟩
theorem ok_law_mixed (T : Txt K mg) : FnOk P w K mg base CX0 3 T.law_mixed.a T.law_mixed.fd ["_law_state", "_law_several"] spMixed := by
  refine T.law_mixed.F.ok sc_law_mixed (fun vs H Q E h => ?_) (fun cdv A0 outer s H vs Q E hr h => ?_)
  · obtain ⟨s, g, c, l, T0, xs, rfl, _⟩ := h
    rfl
  · obtain ⟨s, g, c, l, Tn, xs, rfl, hl, x1, hS, hT, k⟩ := h
    obtain ⟨gs, cs, ll, t, S, t0, t1⟩ := hS.sr
    have hu := hu_of hr
    have huu := Nat.lt_of_succ_lt hu
    have hz := sizeLine_eq
    unfold tMax at hT
    refine ⟨_, PSs.nox (pss_cons (ps_par (i := 2) (j := 3) rfl sc_law_mixed.nd rfl rfl (by decide) rfl rfl (pa_cons (pe_callTy call_list_of rfl T.m_list b_list (pa_cons (pv 1) pa_nil)) (pa_cons (pe_lst pa_nil) pa_nil)) rfl)
      (pss_cons (ps_while PassesOwn.never (pt_cmpR (op_ne_nil huu) (pv 2) (pe_lst pa_nil) (nomark _)) (pss_one (ps_expr (pe_bm PySem.F.plainAttrs_list PySem.F.slot_list_append PySem.F.type_list_append mt_append (pv 3) (pa_cons (pe_bm PySem.F.plainAttrs_list PySem.F.slot_list_pop PySem.F.type_list_pop mt_popAt (pv 2) (pa_cons (T.law_draw.call (ok_law_draw T) (hr.mono (by decide)) rfl (pa_cons (pv 0) (pa_cons (pe_callB call_len_seq rfl T.m_len boot_len (pa_cons (pv 2) pa_nil)) pa_nil))) pa_nil)) pa_nil)))))
      (pss_one (ps_ret (pv 3))))), ?_⟩
    refine ⟨_, rfl, l, _, rfl, .inl (SqL.of hl), fun L nL => ⟨(show 0 ≤ sizeLine by decide), fun F nF => ⟨_, _, rfl, ?_⟩⟩⟩
    have hLF : L ≠ F := by
      intro e
      subst e
      rw [upd_same] at nF
      cases nF
    have nF0 : H F = none := (upd_S (o := .lst xs) nL).free nF
    have s1 : Same H (upd (upd H L (.lst xs)) F (.lst [])) := (upd_S nL).trans (upd_S nF)
    have Ls : L ≠ s := Ne.symm (ne_of_none S.hs nL)
    have Lg : L ≠ g := Ne.symm (ne_of_none S.hg nL)
    have Fs : F ≠ s := Ne.symm (ne_of_none S.hs nF0)
    have Fg : F ≠ g := Ne.symm (ne_of_none S.hg nF0)
    refine ⟨fun m σ H' => ∃ ys zs, m = zs.length ∧ σ = [some (.ref s), some (.ref l), some (.ref L), some (.ref F)] ∧ Chg s g H H' ∧ H' L = some (.lst zs) ∧ H' F = some (.lst ys) ∧ (ys ++ zs).Perm xs ∧ StAt H' s g c (Tn + ys.length), ⟨_, [], xs, rfl, rfl, Chg.of s1, by rw [upd_ne hLF, upd_same], upd_same, List.Perm.refl _, (hS.same s1).le (by simp)⟩, ?_⟩
    rintro m σ H1 ⟨ys, zs, rfl, rfl, ch, hL, hF, hp, hS1⟩
    have hlen : ys.length + zs.length = xs.length := by rw [← List.length_append]; exact hp.length_eq
    refine ⟨_, rfl, (show 0 ≤ sizeLine by decide), fun e ne => ?_⟩
    have s2 : Same H1 (upd H1 e (.lst [])) := upd_S ne
    have he : upd H1 e (.lst []) e = some (.lst []) := upd_same
    generalize upd H1 e (.lst []) = H2 at s2 he
    have ch2 := ch.trans (Chg.of s2)
    refine ⟨L, e, _, rfl, rfl, SqL.of (s2 _ _ hL), he, _, rfl, ?_⟩
    cases zs with
    | nil =>
      rw [List.append_nil] at hp
      refine iteF ⟨_, rfl, k _ F ys hp nF0 (s2 _ _ hF) ?_ ch2⟩
      have := (hS1.same s2)
      rw [hp.length_eq] at this
      exact this
    | cons z zs =>
      have hz2 : (z :: zs).length = zs.length + 1 := rfl
      refine iteT ⟨_, fun σ' H' q => q, _, rfl, .inl ⟨rfl, _, SqL.of (s2 _ _ hF)⟩, _, rfl, .inl ⟨rfl, _, SqL.of (s2 _ _ hL)⟩, _, rfl, _, rfl, L, _, rfl, .inl (SqL.of (s2 _ _ hL)), s, g, c, _, _, rfl, by omega, by omega, hS1.same s2, by unfold tMax; omega, fun r H3 r0 r1 hS3 ch3 => ?_⟩
      obtain ⟨j, rfl⟩ : ∃ j : Nat, r = (j : Int) := ⟨r.toNat, by omega⟩
      have hj : j < (z :: zs).length := by omega
      have hx := List.getElem?_eq_getElem hj
      have hL3 := ch3 _ _ (s2 _ _ hL) Ls Lg
      have hF3 := ch3 _ _ (s2 _ _ hF) Fs Fg
      have ch03 := ch2.trans ch3
      refine ⟨L, _, _, j, _, rfl, rfl, hL3, by omega, by omega, seq_nat hj, hx, ?_⟩
      have hF4 : upd H3 L (.lst ((z :: zs).eraseIdx j)) F = some (.lst ys) := by
        rw [upd_ne (Ne.symm hLF)]
        exact hF3
      have hle : ((z :: zs).eraseIdx j).length = zs.length := by
        rw [List.length_eraseIdx_of_lt hj]
        rfl
      have pe := erase_perm hx
      refine ⟨F, ys, _, rfl, rfl, hF4, by omega, zs.length, by simp, ys ++ [(z :: zs)[j]], (z :: zs).eraseIdx j, hle.symm, rfl, ?_, by rw [upd_ne hLF, upd_same], upd_same, ?_, ?_⟩
      · intro b o hb n1 n2
        have hbL : b ≠ L := ne_of_none hb nL
        have hbF : b ≠ F := ne_of_none hb nF0
        rw [upd_ne hbF, upd_ne hbL]
        exact ch03 b o hb n1 n2
      · rw [List.append_assoc]
        exact (pe.append_left ys).trans hp
      · obtain ⟨gs3, cs3, l3, t3, S3, q5, q6⟩ := hS3.sr
        have S4 : Sr (upd (upd H3 L (.lst ((z :: zs).eraseIdx j))) F (.lst (ys ++ [(z :: zs)[j]]))) s g c gs3 cs3 l3 t3 :=
          ⟨by rw [upd_ne (Ne.symm Fs), upd_ne (Ne.symm Ls)]; exact S3.hs, by rw [upd_ne (Ne.symm Fg), upd_ne (Ne.symm Lg)]; exact S3.hg, by rw [upd_ne (ne_of_none S.hc nF0), upd_ne (ne_of_none S.hc nL)]; exact S3.hc, S3.hn⟩
        refine S4.at q5 ?_
        rw [List.length_append, List.length_singleton]
        omega
end
end PR
/-! text W17 -/
set_option Elab.async false
set_option linter.all false
set_option maxRecDepth 100000
set_option maxHeartbeats 4000000
namespace PR
open PySem PySem.Spec PyProof.Rows L2
theorem ints_mem {ns : List Int} {v : V} (h : v ∈ ns.map V.int) : ∃ z ∈ ns, v = .int z := by
  obtain ⟨z, h1, h2⟩ := List.mem_map.mp h
  exact ⟨z, h1, h2.symm⟩
theorem vpF_fuel : ∀ (k p n : Nat), 2 ≤ p → 0 < n → n ≤ k → vpF k p n = if n % p = 0 then vpF (k - 1) p (n / p) + 1 else 0
  | 0, _, _, _, h, h2 => by omega
  | k + 1, p, n, _, _, _ => rfl
theorem mat_same_as {o i : List V → HO} {H H' : Hp} {a b : Addr} {as : List Addr} {vss : List (List V)} (m : Mat o i H a as vss) (s : Same H H') {o' : List V → HO} (hb : H' b = some (o' (as.map V.ref))) : Mat o' i H' b as vss :=
  ⟨hb, m.2.1, fun j vs h => by
    obtain ⟨p, e1, e2⟩ := m.2.2 j vs h
    exact ⟨p, e1, s _ _ e2⟩⟩
section
variable {P : Program} {w : World} {K : PySem.W.Frag} {mg : Str → Option Value} {base : Heap}
theorem ok_law_size (T : Txt K mg) : FnOk P w K mg base CX0 4 T.law_size.a T.law_size.fd ["_law_state"] spSize := by
  refine T.law_size.F.ok sc_law_size (fun vs H Q E h => ?_) (fun cdv A0 outer s H vs Q E hr h => ?_)
  · obtain ⟨s, g, c, T0, rfl, _⟩ := h
    rfl
  · obtain ⟨s, g, c, Tn, rfl, hS, hT, k⟩ := h
    obtain ⟨gs, cs, ll, t, S, t0, t1⟩ := hS.sr
    unfold tMax at hT
    refine ⟨_, PSs.nox (pss_cons (ps_set (i := 1) sc_law_size.nd rfl (Or.inl rfl) (T.law_pick.call (ok_law_pick T) (hr.mono (by decide)) rfl (pa_cons (pv 0) (pa_cons (pe_lst (pa_cons pe_int (pa_cons pe_int (pa_cons pe_int (pa_cons pe_int (pa_cons pe_int (pa_cons pe_int (pa_cons pe_int (pa_cons pe_int (pa_cons pe_int (pa_cons pe_int (pa_cons pe_int (pa_cons pe_int pa_nil))))))))))))) pa_nil))))
      (pss_one (ps_ret (pe_op op_mul (pv 1) (T.law_pick.call (ok_law_pick T) (hr.mono (by decide)) rfl (pa_cons (pv 0) (pa_cons (pe_lst (pa_cons pe_int (pa_cons pe_int (pa_cons pe_int (pa_cons (pe_un un_neg pe_int) pa_nil))))) pa_nil))))))), ?_⟩
    refine ⟨_, rfl, (show 12 ≤ sizeLine by decide), fun l nl => ?_⟩
    refine ⟨s, g, c, l, Tn, [2, 3, 1, 4, 6, 2, 1, 3, 5, 8, 9, 12].map V.int, rfl, upd_same, Ne.symm (ne_of_none S.hg nl), by decide, by decide, hS.same (upd_S nl), by unfold tMax; omega, fun v H1 hv hS1 ch => ?_⟩
    obtain ⟨z, hz, rfl⟩ := ints_mem hv
    obtain ⟨gs1, cs1, l1, t1, S1, _, _⟩ := hS1.sr
    have ch1 := (Chg.of (upd_S nl)).trans ch
    refine ⟨_, rfl, _, rfl, _, rfl, (show 4 ≤ sizeLine by decide), fun l2 nl2 => ?_⟩
    refine ⟨s, g, c, l2, Tn + 1, [1, 1, 1, -1].map V.int, rfl, upd_same, Ne.symm (ne_of_none S1.hg nl2), by decide, by decide, hS1.same (upd_S nl2), by unfold tMax; omega, fun v H2 hv hS2 ch2 => ?_⟩
    obtain ⟨u, hu, rfl⟩ := ints_mem hv
    have e1 : ∀ z ∈ ([2, 3, 1, 4, 6, 2, 1, 3, 5, 8, 9, 12] : List Int), z.natAbs ∈ [1, 2, 3, 4, 5, 6, 8, 9, 12] ∧ z < 100 ∧ 0 < z := by decide
    have e2 : ∀ u ∈ ([1, 1, 1, -1] : List Int), u.natAbs = 1 := by decide
    obtain ⟨q1, q2, q3⟩ := e1 z hz
    refine ⟨_, _, rfl, rfl, .inl ⟨by omega, by omega⟩, k _ _ ?_ (hS2.le (by omega)) (ch1.trans ((Chg.of (upd_S nl2)).trans ch2))⟩
    unfold SzOk
    rw [Int.natAbs_mul, e2 u hu, Nat.mul_one]
    exact q1
theorem ok_law_common (T : Txt K mg) : FnOk P w K mg base CX0 1 T.law_common.a T.law_common.fd ["_law_one", "_law_other"] spCommon := by
  refine T.law_common.F.ok sc_law_common (fun vs H Q E h => ?_) (fun cdv A0 outer s H vs Q E hr h => ?_)
  · obtain ⟨a, b, rfl, _⟩ := h
    rfl
  · obtain ⟨a, b, rfl, hb, k⟩ := h
    refine ⟨_, PSs.nox (pss_cons (ps_par (i := 2) (j := 3) rfl sc_law_common.nd rfl rfl (by decide) rfl rfl (pa_cons (pe_callB call_abs rfl T.m_abs b_abs (pa_cons (pv 0) pa_nil)) (pa_cons (pe_callB call_abs rfl T.m_abs b_abs (pa_cons (pv 1) pa_nil)) pa_nil)) rfl)
      (pss_cons (ps_while PassesOwn.never (pt_cmpR op_ne (pv 3) pe_int (nomark _)) (pss_one (ps_par (i := 2) (j := 3) rfl sc_law_common.nd rfl rfl (by decide) rfl rfl (pa_cons (pv 3) (pa_cons (pe_op op_mod (pe_callTy call_int1 rfl T.m_int b_int (pa_cons (pv 2) pa_nil)) (pv 3)) pa_nil)) rfl)))
      (pss_one (ps_ret (pv 2))))), ?_⟩
    refine ⟨_, rfl, _, rfl, _, rfl, _, rfl, _, _, rfl, ?_⟩
    rw [if_neg (by omega), if_neg (by omega)]
    refine ⟨fun m σ H' => H' = H ∧ ∃ x y : Nat, m = y ∧ σ = [some (iv a), some (iv b), some (iv x), some (iv y)] ∧ Nat.gcd x y = Nat.gcd a b, ⟨b, rfl, a, b, rfl, rfl, rfl⟩, ?_⟩
    rintro m σ H' ⟨rfl, x, y, rfl, rfl, e⟩
    refine ⟨_, rfl, rfl, _, rfl, ?_⟩
    rcases Nat.eq_zero_or_pos m with z | z
    · subst z
      rw [decide_eq_true (show iv 0 = V.int 0 from rfl)]
      rw [Nat.gcd_zero_right] at e
      rw [← e] at k
      exact iteF ⟨_, rfl, k⟩
    · rw [decide_eq_false (fun q => by have := V.int.inj q; omega)]
      refine iteT ⟨_, fun σ' H' q => q, _, rfl, _, rfl, .inl ⟨_, rfl, _, rfl, _, _, rfl, rfl, by omega, _, _, rfl, x % m, Nat.mod_lt _ z, rfl, m, x % m, rfl, ?_, ?_⟩⟩
      · show [some (V.int (a : Int)), some (V.int (b : Int)), some (V.int (m : Int)), some (V.int ((x : Int) % (m : Int)))] = _
        rw [← Int.natCast_emod]
      · rw [Nat.gcd_comm, ← Nat.gcd_rec, Nat.gcd_comm]
        exact e
theorem ok_law_multiple (T : Txt K mg) : FnOk P w K mg base CX0 2 T.law_multiple.a T.law_multiple.fd ["_law_several"] spMultiple := by
  refine T.law_multiple.F.ok sc_law_multiple (fun vs H Q E h => ?_) (fun cdv A0 outer s H vs Q E hr h => ?_)
  · obtain ⟨a, ns, rfl, _⟩ := h
    rfl
  · obtain ⟨a, ns, rfl, ha, hn, k⟩ := h
    refine ⟨_, PSs.nox (pss_cons (ps_set (i := 1) sc_law_multiple.nd rfl (Or.inl rfl) pe_int)
      (pss_cons (ps_for PassesOwn.never rfl (pi_tup (pv 0)) (pg_name (i := 2) sc_law_multiple.nd rfl (Or.inl rfl)) (pss_one (ps_set (i := 1) sc_law_multiple.nd rfl (Or.inl rfl) (pe_op op_fdiv (pe_op op_mul (pv 1) (pe_callB call_abs rfl T.m_abs b_abs (pa_cons (pv 2) pa_nil))) (T.law_common.call (ok_law_common T) (hr.mono (by decide)) rfl (pa_cons (pv 1) (pa_cons (pv 2) pa_nil)))))))
      (pss_one (ps_ret (pv 1))))), ?_⟩
    refine ⟨_, rfl, a, rfl, ⟨_, SqT.of ha⟩, for_tup (K := K) (a := a) (xs := ivs ns) (fun i σ H' => H' = H ∧ ∃ v, σ = [some (.ref a), some (iv (lcmL (ns.take i))), v])
      ⟨rfl, _, rfl⟩ (fun i σ H' _ p => by rw [p.1]; exact SqT.of ha) ?_ ?_⟩
    · rintro i x σ H' hx ⟨rfl, v, rfl⟩
      obtain ⟨n, hi, rfl⟩ := ivs_at hx
      obtain ⟨n1, n2⟩ := hn n (List.mem_of_getElem? hi)
      refine ⟨_, rfl, _, rfl, _, rfl, _, _, rfl, rfl, cmul_abs (by omega), _, rfl, _, rfl, lcmL (ns.take i), n, rfl, n2, _, _, rfl, rfl, ⟨?_, ?_⟩, rfl, some (iv n), ?_⟩
      · have := gcd_pos_of (f := lcmL (ns.take i)) n1
        omega
      · have := Nat.gcd_le_right (lcmL (ns.take i)) n1
        omega
      · rw [lcmL_snoc hi]
        refine congrArg (fun z => [some (V.ref a), some z, some (iv n)]) ?_
        rw [← lcm_step, Int.natAbs_natCast, Int.natAbs_natCast]
    · rintro σ H' ⟨rfl, v, rfl⟩
      refine ⟨_, rfl, ?_⟩
      rw [List.take_of_length_le (by simp)]
      exact k
theorem ok_law_is_truth (T : Txt K mg) : FnOk P w K mg base CX0 1 T.law_is_truth.a T.law_is_truth.fd ["_law_found", "_law_due"] spTruth := by
  refine T.law_is_truth.F.ok sc_law_is_truth (fun vs H Q E h => ?_) (fun cdv A0 outer s H vs Q E hr h => ?_)
  · obtain ⟨rfl, _⟩ := h
    rfl
  · obtain ⟨rfl, k⟩ := h
    refine ⟨_, PSs.nox (pss_one (ps_ret (pe_ifExp (pt_val (pv 1)) (pe_cmpR op_isBl (pv 0) pe_bl (nomark _)) (pe_cmpR op_isBl (pv 0) pe_bl (nomark _))))), ?_⟩
    exact ⟨_, rfl, true, rfl, iteT ⟨_, rfl, _, _, rfl, rfl, k⟩⟩
theorem ok_law_is_whole (T : Txt K mg) : FnOk P w K mg base CX0 1 T.law_is_whole.a T.law_is_whole.fd ["_law_item"] spIsNumber := by
  refine T.law_is_whole.F.ok sc_law_is_whole (fun vs H Q E h => ?_) (fun cdv A outer s H vs Q E hr h => ?_)
  · obtain ⟨i, rfl, _⟩ := h
    rfl
  · obtain ⟨i, rfl, k⟩ := h
    refine ⟨_, PSs.nox (pss_one (ps_ret (pe_and (pe_callB call_isi rfl T.m_isinstance b_isinstance (pa_cons (pv 0) (pa_cons (pe_bltn (v := .ty "int") rfl T.m_int b_int rfl) pa_nil))) (pe_one (pe_not (pe_callB call_isi rfl T.m_isinstance b_isinstance (pa_cons (pv 0) (pa_cons (pe_bltn (v := .ty "bool") rfl T.m_bool b_bool rfl) pa_nil)))))))), ?_⟩
    refine ⟨_, rfl, _, _, _, _, true, rfl, .ty _, .base (.int i), kit_ty (by decide +kernel), true, rfl, iteT ?_⟩
    exact ⟨_, rfl, _, _, _, _, false, rfl, .ty _, .base (.int i), kit_ty (by decide +kernel), false, rfl, k⟩
theorem ok_law_exponent (T : Txt K mg) : FnOk P w K mg base CX0 1 T.law_exponent.a T.law_exponent.fd ["_law_prime", "_law_number"] spExp := by
  refine T.law_exponent.F.ok sc_law_exponent (fun vs H Q E h => ?_) (fun cdv A outer s H vs Q E hr h => ?_)
  · obtain ⟨p, z, rfl, _⟩ := h
    rfl
  · obtain ⟨p, z, rfl, p2, p3, hz, k⟩ := h
    refine ⟨_, PSs.nox (pss_cons (ps_par (i := 2) (j := 3) rfl sc_law_exponent.nd rfl rfl (by decide) rfl rfl (pa_cons pe_int (pa_cons (pe_callB call_abs rfl T.m_abs b_abs (pa_cons (pv 1) pa_nil)) pa_nil)) rfl)
      (pss_cons (ps_while PassesOwn.never (pt_cmpR op_eq (pe_op op_mod (pe_callTy call_int1 rfl T.m_int b_int (pa_cons (pv 3) pa_nil)) (pv 0)) pe_int (nomark _)) (pss_one (ps_par (i := 3) (j := 2) rfl sc_law_exponent.nd rfl rfl (by decide) rfl rfl (pa_cons (pe_op op_fdiv (pv 3) (pv 0)) (pa_cons (pe_op op_add (pv 2) pe_int) pa_nil)) rfl)))
      (pss_one (ps_ret (pv 2))))), ?_⟩
    refine ⟨_, rfl, _, rfl, _, _, rfl, ?_⟩
    refine ⟨fun m σ H' => H' = H ∧ ∃ (f l kk : Nat), m = l ∧ σ = [some (iv p), some (.int z), some (iv f), some (iv l)] ∧ 0 < l ∧ l ≤ kk ∧ f + vpF kk p l = vp p z.natAbs, ⟨_, rfl, 0, z.natAbs, z.natAbs, rfl, ?_, by omega, Nat.le_refl _, by rw [Nat.zero_add]; rfl⟩, ?_⟩
    · refine congrArg (fun q => [some (V.int (p : Int)), some (V.int z), some (V.int 0), some (V.int q)]) ?_
      split <;> omega
    rintro m σ H' ⟨rfl, f, l, kk, rfl, rfl, l0, lk, e⟩
    rw [vpF_fuel kk p m p2 l0 lk] at e
    have em : (m : Int) % (p : Int) = ((m % p : Nat) : Int) := (Int.natCast_emod m p).symm
    by_cases c : m % p = 0
    · rw [if_pos c] at e
      have hm : p ≤ m := Nat.le_of_dvd l0 (Nat.dvd_of_mod_eq_zero c)
      have hd : 0 < m / p := Nat.div_pos hm (by omega)
      have hlt : m / p < m := Nat.div_lt_self l0 p2
      refine ⟨_, rfl, .inl ⟨_, rfl, _, rfl, _, _, rfl, rfl, by omega, rfl, true, bl_t (by show V.int ((m : Int) % (p : Int)) = V.int 0; rw [em, c]; rfl), ?_⟩⟩
      refine iteT ⟨_, fun σ' H' q => q, _, rfl, _, rfl, _, _, rfl, rfl, ⟨by omega, by omega⟩, _, rfl, _, _, rfl, rfl, _, _, rfl, m / p, hlt, rfl, f + 1, m / p, kk - 1, rfl, ?_, hd, by omega, by omega⟩
      show [some (V.int (p : Int)), some (V.int z), some (V.int ((f : Int) + 1)), some (V.int ((m : Int) / (p : Int)))] = _
      rw [← Int.natCast_ediv]
      rfl
    · rw [if_neg c, Nat.add_zero] at e
      rw [← e] at k
      refine ⟨_, rfl, .inl ⟨_, rfl, _, rfl, _, _, rfl, rfl, by omega, rfl, false, bl_f (fun q => c (by have q2 : V.int ((m : Int) % (p : Int)) = V.int 0 := q; rw [em] at q2; have := V.int.inj q2; omega)), ?_⟩⟩
      exact iteF ⟨_, rfl, k⟩
theorem ok_law_both (T : Txt K mg) : FnOk P w K mg base CX0 1 T.law_both.a T.law_both.fd ["_law_doors_here"] spBoth := by
  refine T.law_both.F.ok sc_law_both (fun vs H Q E h => ?_) (fun cdv A outer s H vs Q E hr h => ?_)
  · obtain ⟨a, ds, rfl, _⟩ := h
    rfl
  · obtain ⟨a, ds, rfl, ⟨as, ha⟩, hz, k⟩ := h
    have hsz := sizeLine_eq
    have hl := mat_len ha
    refine ⟨_, PSs.nox (pss_one (ps_ret (pe_op op_cat (pe_lc (own := [("_law_door", 1)]) (g := gName 1) (tt := tYes) rfl sc_law_both.nd (pi_tup (pv 0)) (blkOk_by (own := [("_law_door", 1)]) (N := ["_law_doors_here", "_law_door", "_law_near", "_law_first", "_law_far", "_law_second"]) (sc := defScope s_law_both) (by decide +kernel)) (fun _ _ _ _ _ => (pg_name (i := 1) sc_law_both.nd rfl (Or.inl rfl))) (fun _ _ _ _ _ => pts_nil) (fun _ _ _ _ _ => (pv 1))) (pe_lc (own := [("_law_near", 2), ("_law_first", 3), ("_law_far", 4), ("_law_second", 5)]) (g := gTup K 4 (gCons (gName 2) (gCons (gName 3) (gCons (gName 4) (gCons (gName 5) gNil))))) (tt := tYes) rfl sc_law_both.nd (pi_tup (pv 0)) (blkOk_by (own := [("_law_near", 2), ("_law_first", 3), ("_law_far", 4), ("_law_second", 5)]) (N := ["_law_doors_here", "_law_door", "_law_near", "_law_first", "_law_far", "_law_second"]) (sc := defScope s_law_both) (by decide +kernel)) (fun _ _ _ _ _ => (pg_tup rfl (pgs_cons (pg_name (i := 2) sc_law_both.nd rfl (Or.inl rfl)) (pgs_cons (pg_name (i := 3) sc_law_both.nd rfl (Or.inl rfl)) (pgs_cons (pg_name (i := 4) sc_law_both.nd rfl (Or.inl rfl)) (pgs_cons (pg_name (i := 5) sc_law_both.nd rfl (Or.inl rfl)) pgs_nil)))))) (fun _ _ _ _ _ => pts_nil) (fun _ _ _ _ _ => (pe_tup (pa_cons (pv 4) (pa_cons (pv 5) (pa_cons (pv 2) (pa_cons (pv 3) pa_nil)))))))))), ?_⟩
    refine ⟨_, rfl, a, rfl, ⟨_, SqT.of ha.1⟩, fun D nD => lct (as.map V.ref) (SqT.of ha.1) nD rfl (by rw [List.length_map]; omega) (fun i x y H' Nx No hx hy s1 hn => ?_) (fun H1 s1 hD => ?_)⟩
    · rw [hx] at hy
      cases hy
      exact ⟨rfl, _, rfl, hn _ (Same.refl _)⟩
    · refine ⟨_, rfl, a, rfl, ⟨_, SqT.of (s1 _ _ ha.1)⟩, fun D2 nD2 => lc_tup (K := K) (a := a) (xs := as.map V.ref) (fun i H' => Same H1 H' ∧ ∃ ts, Mat .lst .tup H' D2 ts ((ds.take i).map fun d => d.flip.vs)) ⟨upd_S nD2, [], upd_same, rfl, fun j vs h => by cases h⟩ (fun i H' _ p => SqT.of (p.1 _ _ (s1 _ _ ha.1))) ?_ ?_⟩
      · rintro i x H2 hx ⟨s2, ts, hD2⟩
        obtain ⟨p, d, rfl, h1, h2, h3⟩ := mat_in ha hx
        refine ⟨p, _, rfl, SqT.of (s2 _ _ (s1 _ _ h3)), rfl, _, _, rfl, _, _, rfl, _, _, rfl, _, _, rfl, rfl, rfl, ?_⟩
        refine ⟨_, rfl, _, rfl, _, rfl, _, rfl, (show 4 ≤ sizeLine by decide), fun t nt => ?_⟩
        have hD3 := hD2.same (upd_S nt (o := .tup [iv d.m, .int d.s, iv d.n, .int d.f]))
        refine ⟨_, hD3.1, by rw [List.length_map, mat_len hD2, List.length_take]; omega, same_updN (s2.trans (upd_S nt)) nD2, ts ++ [t], ?_⟩
        rw [take_snoc h2, List.map_append]
        exact mat_snoc_t hD3 upd_same
      · rintro H2 ⟨s2, ts, hD2⟩
        rw [List.length_map, hl, List.take_of_length_le (Nat.le_refl _)] at hD2
        refine ⟨D, D2, _, _, rfl, rfl, s2 _ _ hD, hD2.1, by rw [List.length_map, List.length_map, hl, mat_len hD2]; omega, fun p np => ?_⟩
        have s3 : Same H2 (upd H2 p (.lst (as.map V.ref ++ ts.map V.ref))) := upd_S np
        have s02 := s1.trans s2
        refine k _ p (s02.trans s3) (s02.free np) ⟨as ++ ts, by rw [upd_same, List.map_append], ?_, fun j vs hj => ?_⟩
        · rw [List.length_append, hl, mat_len hD2]
          unfold both
          simp
        · unfold both at hj
          rw [List.map_append] at hj
          by_cases c : j < ds.length
          · rw [List.getElem?_append_left (by rw [List.length_map]; exact c)] at hj
            obtain ⟨q, q1, q2⟩ := ha.2.2 j vs hj
            exact ⟨q, by rw [List.getElem?_append_left (by omega)]; exact q1, s3 _ _ (s02 _ _ q2)⟩
          · rw [List.getElem?_append_right (by rw [List.length_map]; omega), List.length_map, List.map_map] at hj
            obtain ⟨q, q1, q2⟩ := hD2.2.2 (j - ds.length) vs hj
            exact ⟨q, by rw [List.getElem?_append_right (by omega), hl]; exact q1, s3 _ _ q2⟩
end
end PR
/-! text W18 -/
set_option Elab.async false
set_option linter.all false
set_option maxRecDepth 100000
set_option maxHeartbeats 4000000
namespace PR
open PySem PySem.Spec PyProof.Rows L2
theorem sum_set_lt : ∀ {es : List Nat} {n x b : Nat}, es[n]? = some x → b < x → (es.set n b).sum < es.sum
  | e :: es, 0, x, b, h, hb => by
    cases h
    simp only [List.set_cons_zero, List.sum_cons]
    omega
  | e :: es, n + 1, x, b, h, hb => by
    have := sum_set_lt (es := es) (n := n) h hb
    simp only [List.set_cons_succ, List.sum_cons]
    omega
/-- a side's bound -/
def bnd (p : Nat) (d : Dr) (y : Nat) : Nat := vp p d.f.natAbs + (y - vp p d.s.natAbs)
theorem both_ok {R : Nat} {ds : List Dr} (h : ∀ d ∈ ds, DrOk R d) : ∀ d ∈ both ds, DrOk R d := fun d hd => by
  rcases List.mem_append.mp hd with q | q
  · exact h d q
  · obtain ⟨e, he, rfl⟩ := List.mem_map.mp q
    obtain ⟨a, b, c, f⟩ := h e he
    exact ⟨b, a, f, c⟩
/-- the j-th seat from s on -/
def sq (L s j : Nat) : Nat := s / L * L + (s % L + j) % L
theorem sq_0 {L s : Nat} : sq L s 0 = s := by
  unfold sq
  rw [Nat.add_zero, Nat.mod_mod]
  have h1 := Nat.div_add_mod s L
  rw [Nat.mul_comm] at h1
  exact h1
theorem sq_rp {L s : Nat} (hL : 0 < L) (j : Nat) : RK.rp L (sq L s j) = sq L s (j + 1) := by
  unfold sq
  rw [rp_blk (Nat.mod_lt _ hL), Nat.mod_add_mod]
  rfl
theorem sq_ne {L s j : Nat} (h1 : 1 ≤ j) (h2 : j < L) : sq L s j ≠ s := by
  intro e
  have h0 := Nat.div_add_mod s L
  rw [Nat.mul_comm] at h0
  have hm := Nat.mod_lt s (show 0 < L by omega)
  unfold sq at e
  rcases Nat.lt_or_ge (s % L + j) L with c | c
  · rw [Nat.mod_eq_of_lt c] at e
    omega
  · rw [Nat.mod_eq_sub_mod c, Nat.mod_eq_of_lt (by omega)] at e
    omega
theorem sq_L {L s : Nat} : sq L s L = s := by
  have h0 : sq L s 0 = s := sq_0
  unfold sq at h0 ⊢
  rw [Nat.add_mod_right]
  exact h0
theorem sq_lt {N L s : Nat} (hL : 0 < L) (hd : L ∣ N) (hs : s < N) (j : Nat) : sq L s j < N := RK.blk_lt (Nat.mod_lt _ hL) (Nat.div_lt_div_of_lt_of_dvd hd hs) hd
theorem rnd_eq (L s : Nat) : rnd L s = (List.range L).map (sq L s) := rfl
section
variable {P : Program} {w : World} {K : PySem.W.Frag} {mg : Str → Option Value} {base : Heap}
theorem ok_law_lowered (T : Txt K mg) : FnOk P w K mg base CX0 2 T.law_lowered.a T.law_lowered.fd ["_law_doors_here", "_law_prime", "_law_caps"] spLowered := by
  refine T.law_lowered.F.ok sc_law_lowered (fun vs H Q E h => ?_) (fun cdv A0 outer s H vs Q E hr h => ?_)
  · obtain ⟨a, c, p, R, ds, cs, rfl, _⟩ := h
    rfl
  · obtain ⟨a, c, p, R, ds, cs, rfl, ha, hds, hz, hc, lc, p2, p3, k⟩ := h
    have hok := both_ok hds
    refine ⟨_, PSs.nox (pss_cons (ps_par3 (i := 3) (j := 4) (l := 5) rfl sc_law_lowered.nd rfl rfl rfl (by decide) (by decide) (by decide) rfl rfl rfl (pa_cons (pe_callTy call_list_of rfl T.m_list b_list (pa_cons (pv 2) pa_nil)) (pa_cons (T.law_both.call (ok_law_both T) (hr.mono (by decide)) rfl (pa_cons (pv 0) pa_nil)) (pa_cons pe_bl pa_nil))) rfl)
      (pss_cons (ps_while PassesOwn.never (pt_val (pv 5)) (pss_cons (ps_set (i := 5) sc_law_lowered.nd rfl (Or.inl rfl) pe_bl)
      (pss_one (ps_for PassesOwn.never rfl (pi_list (pv 4)) (pg_tup rfl (pgs_cons (pg_name (i := 6) sc_law_lowered.nd rfl (Or.inl rfl)) (pgs_cons (pg_name (i := 7) sc_law_lowered.nd rfl (Or.inl rfl)) (pgs_cons (pg_name (i := 8) sc_law_lowered.nd rfl (Or.inl rfl)) (pgs_cons (pg_name (i := 9) sc_law_lowered.nd rfl (Or.inl rfl)) pgs_nil))))) (pss_cons (ps_set (i := 10) sc_law_lowered.nd rfl (Or.inl rfl) (pe_op op_add (T.law_exponent.call (ok_law_exponent T) (hr.mono (by decide)) rfl (pa_cons (pv 1) (pa_cons (pv 7) pa_nil))) (pe_callB (call_max2 rfl) rfl T.m_max b_max (pa_cons pe_int (pa_cons (pe_op op_sub (pe_ix ix_list (pv 3) (pv 8) (fun _ _ => rfl)) (T.law_exponent.call (ok_law_exponent T) (hr.mono (by decide)) rfl (pa_cons (pv 1) (pa_cons (pv 9) pa_nil)))) pa_nil)))))
      (pss_one (ps_if (pt_cmpR op_lt (pv 10) (pe_ix ix_list (pv 3) (pv 6) (fun _ _ => rfl)) (nomark _)) (pss_one (ps_asg (pe_tup (pa_cons (pv 10) (pa_cons pe_bl pa_nil))) (pg_tup rfl (pgs_cons (pg_sub (pv 3) (pv 6) set_list) (pgs_cons (pg_name (i := 5) sc_law_lowered.nd rfl (Or.inl rfl)) pgs_nil))))) pss_nil)))))))
      (pss_one (ps_ret (pv 3))))), ?_⟩
    refine ⟨_, rfl, c, _, rfl, .inl (SqL.of hc), fun F nF => ?_⟩
    have s1 : Same H (upd H F (.lst (ivs cs))) := upd_S nF
    have hF : upd H F (.lst (ivs cs)) F = some (.lst (ivs cs)) := upd_same
    generalize upd H F (.lst (ivs cs)) = H1 at s1 hF
    refine ⟨_, rfl, a, ds, rfl, ha.same s1, hz, fun H2 B s2 nB ⟨bs, hB⟩ => ⟨_, _, _, rfl, ?_⟩⟩
    have hFB : F ≠ B := ne_of_none hF nB
    have nB0 := s1.free nB
    refine ⟨fun m σ H' => ∃ (es : List Nat) (ag : Bool) (v6 v7 v8 v9 v10 : Option V), m = (if ag = true then es.sum + 1 else 0) ∧ σ = [some (.ref a), some (iv p), some (.ref c), some (.ref F), some (.ref B), some (.bl ag), v6, v7, v8, v9, v10] ∧ Same H H' ∧ H' F = some (.lst (ivs es)) ∧ Mat .lst .tup H' B bs ((both ds).map Dr.vs) ∧
        es.length = R ∧ (∀ (j : Nat) x y, es[j]? = some x → cs[j]? = some y → x ≤ y) ∧ (ag = false → Low p ds es),
      ⟨_, cs, true, _, _, _, _, _, rfl, rfl, s1.trans s2, s2 _ _ hF, hB, lc, fun j x y e1 e2 => by rw [e1] at e2; cases e2; exact Nat.le_refl _, fun h => nomatch h⟩, ?_⟩
    rintro m σ H3 ⟨es, ag, v6, v7, v8, v9, v10, rfl, rfl, s3, hF3, hB3, le3, hc3, hlow⟩
    refine ⟨_, rfl, ag, rfl, ?_⟩
    cases ag with
    | false =>
      exact iteF ⟨_, rfl, k H3 F es s3 nF hF3 le3 hc3 (hlow rfl)⟩
    | true =>
      refine iteT ⟨_, fun σ' H' q => q, ?_⟩
      refine ⟨_, rfl, B, rfl, ⟨_, SqL.of hB3.1⟩, for_list (K := K) (a := B) (xs := bs.map V.ref) (fun i σ H' => ∃ (es' : List Nat) (ag : Bool) (v6 v7 v8 v9 v10 : Option V), σ = [some (.ref a), some (iv p), some (.ref c), some (.ref F), some (.ref B), some (.bl ag), v6, v7, v8, v9, v10] ∧ Same H H' ∧ H' F = some (.lst (ivs es')) ∧ Mat .lst .tup H' B bs ((both ds).map Dr.vs) ∧
          es'.length = R ∧ (∀ (j : Nat) x y, es'[j]? = some x → cs[j]? = some y → x ≤ y) ∧ (ag = false → es' = es ∧ ∀ j d, j < i → (both ds)[j]? = some d → ∃ x y, es[d.n]? = some x ∧ es[d.m]? = some y ∧ x ≤ bnd p d y) ∧ (ag = true → es'.sum < es.sum))
        ⟨es, false, _, _, _, _, _, rfl, s3, hF3, hB3, le3, hc3, fun _ => ⟨rfl, fun j d h => by omega⟩, fun h => nomatch h⟩ (fun i σ H' _ q => ?_) ?_ ?_⟩
      · obtain ⟨_, _, _, _, _, _, _, _, _, _, z, _⟩ := q
        exact SqL.of z.1
      · rintro i x σ H4 hx ⟨es', ag, v6, v7, v8, v9, v10, rfl, s4, hF4, hB4, le4, hc4, hf, ht⟩
        obtain ⟨q, d, rfl, h1, h2, h3⟩ := mat_in hB4 hx
        obtain ⟨dn, dm, zf, zs⟩ := hok d (List.mem_of_getElem? h2)
        obtain ⟨u, hu⟩ : ∃ u, es'[d.n]? = some u := ⟨_, List.getElem?_eq_getElem (by omega)⟩
        obtain ⟨v, hv⟩ : ∃ v, es'[d.m]? = some v := ⟨_, List.getElem?_eq_getElem (by omega)⟩
        have eb : V.int (((vp p d.f.natAbs : Nat) : Int) + (if ((v : Int) - ((vp p d.s.natAbs : Nat) : Int)) > 0 then ((v : Int) - ((vp p d.s.natAbs : Nat) : Int)) else 0)) = iv (bnd p d v) := by
          unfold bnd
          show V.int _ = V.int _
          congr 1
          split <;> omega
        refine ⟨q, _, rfl, SqT.of h3, rfl, _, _, rfl, _, _, rfl, _, _, rfl, _, _, rfl, rfl, ?_⟩
        refine ⟨_, rfl, _, rfl, p, d.f, rfl, p2, p3, zf.nz, _, rfl, _, rfl, F, _, _, _, rfl, rfl, SqL.of hF4, atI_nat (iv_at hv), _, rfl, _, rfl, p, d.s, rfl, p2, p3, zs.nz, _, _, rfl, rfl, _, _, rfl, _, _, rfl, rfl, ?_⟩
        refine st_is [some (.ref a), some (iv p), some (.ref c), some (.ref F), some (.ref B), some (.bl ag), some (iv d.n), some (.int d.f), some (iv d.m), some (.int d.s), some (iv (bnd p d v))] (congrArg (fun z => [some (V.ref a), some (iv p), some (.ref c), some (.ref F), some (.ref B), some (.bl ag), some (iv d.n), some (.int d.f), some (iv d.m), some (.int d.s), some z]) eb) ?_
        by_cases hlt : bnd p d v < u
        · refine ⟨_, rfl, _, rfl, _, rfl, F, _, _, _, rfl, rfl, SqL.of hF4, atI_nat (iv_at hu), _, _, rfl, rfl, true, bl_t (by omega), iteT ?_⟩
          refine ⟨_, rfl, (show 2 ≤ sizeLine by decide), fun t nt => ⟨t, _, rfl, SqT.of upd_same, rfl, ?_⟩⟩
          have s5 : Same H4 (upd H4 t (.tup [iv (bnd p d v), .bl true])) := upd_S nt
          generalize upd H4 t (.tup [iv (bnd p d v), .bl true]) = H5 at s5
          have hF5 := s5 _ _ hF4
          refine ⟨_, _, rfl, _, rfl, _, rfl, F, _, _, _, rfl, rfl, hF5, ixN_nat (n := (ivs es').length) (j := d.n) (by rw [ivs_len]; omega), _, _, rfl, rfl, es'.set d.n (bnd p d v), true, _, _, _, _, _, rfl, same_updN (s4.trans s5) nF, ?_, mat_keep (hB4.same s5) hF5 (Ne.symm hFB), by rw [List.length_set]; exact le4, fun j x y e1 e2 => ?_, (fun h => nomatch h), fun _ => ?_⟩
          · rw [upd_same]
            show some (HO.lst ((es'.map iv).set _ (iv _))) = some (HO.lst ((es'.set _ _).map iv))
            rw [List.map_set]
          · by_cases c : d.n = j
            · subst c
              rw [List.getElem?_set_self (by omega)] at e1
              cases e1
              have := hc4 _ _ _ hu e2
              omega
            · rw [List.getElem?_set_ne c] at e1
              exact hc4 j x y e1 e2
          · have := sum_set_lt hu hlt
            cases ag with
            | true => have := ht rfl; omega
            | false => rw [(hf rfl).1] at this ⊢; exact this
        · refine ⟨_, rfl, _, rfl, _, rfl, F, _, _, _, rfl, rfl, SqL.of hF4, atI_nat (iv_at hu), _, _, rfl, rfl, false, bl_f (by omega), iteF ?_⟩
          refine ⟨es', ag, _, _, _, _, _, rfl, s4, hF4, hB4, le4, hc4, fun e => ?_, ht⟩
          obtain ⟨e1, e2⟩ := hf e
          refine ⟨e1, fun j d' hj hd' => ?_⟩
          by_cases c : j = i
          · subst c
            rw [h2] at hd'
            cases hd'
            rw [e1] at hu hv
            exact ⟨u, v, hu, hv, by omega⟩
          · exact e2 j d' (by omega) hd'
      · rintro σ H4 ⟨es', ag, v6, v7, v8, v9, v10, rfl, s4, hF4, hB4, le4, hc4, hf, ht⟩
        refine ⟨_, ?_, es', ag, _, _, _, _, _, rfl, rfl, s4, hF4, hB4, le4, hc4, fun e => ?_⟩
        · cases ag with
          | true =>
            have := ht rfl
            rw [if_pos rfl, if_pos rfl]
            omega
          | false =>
            rw [if_neg (by decide), if_pos rfl]
            omega
        · obtain ⟨e1, e2⟩ := hf e
          intro d hd
          obtain ⟨j, hj⟩ := List.mem_iff_getElem?.mp hd
          rw [e1]
          exact e2 j d (by rw [List.length_map, mat_len hB4]; exact (List.getElem?_eq_some_iff.mp hj).1) hj
theorem ok_law_round (T : Txt K mg) : FnOk P w K mg base CX0 1 T.law_round.a T.law_round.fd ["_law_rope_here", "_law_seat_here"] spRound := by
  refine T.law_round.F.ok sc_law_round (fun vs H Q E h => ?_) (fun cdv A0 outer s H vs Q E hr h => ?_)
  · obtain ⟨a, N, L, s, rfl, _⟩ := h
    rfl
  · obtain ⟨a, N, L, st, rfl, ha, hL, hd, hs, hN, k⟩ := h
    have hLN : L ≤ N := Nat.le_of_dvd (by omega) hd
    refine ⟨_, PSs.nox (pss_cons (ps_par (i := 2) (j := 3) rfl sc_law_round.nd rfl rfl (by decide) rfl rfl (pa_cons (pe_lst (pa_cons (pv 1) pa_nil)) (pa_cons (pe_ix ix_tup (pv 0) (pv 1) (fun _ _ => rfl)) pa_nil)) rfl)
      (pss_cons (ps_while PassesOwn.never (pt_cmpR op_ne (pv 3) (pv 1) (nomark _)) (pss_cons (ps_expr (pe_bm PySem.F.plainAttrs_list PySem.F.slot_list_append PySem.F.type_list_append mt_append (pv 2) (pa_cons (pv 3) pa_nil)))
      (pss_one (ps_set (i := 3) sc_law_round.nd rfl (Or.inl rfl) (pe_ix ix_tup (pv 0) (pv 3) (fun _ _ => rfl))))))
      (pss_one (ps_ret (pv 2))))), ?_⟩
    refine ⟨_, rfl, (show 1 ≤ sizeLine by decide), fun F nF => ?_⟩
    have s1 : Same H (upd H F (.lst [iv st])) := upd_S nF
    refine ⟨_, rfl, _, rfl, a, _, _, _, rfl, rfl, SqT.of (s1 _ _ ha), atI_nat (rope_at hs), _, _, rfl, ?_⟩
    have e1 : RK.rp L st = sq L st 1 := by
      have := sq_rp (s := st) hL 0
      rw [sq_0] at this
      exact this
    rw [e1]
    refine ⟨fun m σ H' => ∃ j, 1 ≤ j ∧ j ≤ L ∧ m = L - j ∧ σ = [some (.ref a), some (iv st), some (.ref F), some (iv (sq L st j))] ∧ Same H H' ∧ H' F = some (.lst (ivs ((List.range j).map (sq L st)))), ⟨_, 1, Nat.le_refl _, hL, rfl, rfl, s1, ?_⟩, ?_⟩
    · rw [upd_same]
      show some (HO.lst [iv st]) = some (HO.lst [iv (sq L st 0)])
      rw [sq_0]
    rintro m σ H1 ⟨j, j1, j2, rfl, rfl, s2, hF⟩
    by_cases c : j = L
    · subst c
      refine ⟨_, rfl, _, rfl, rfl, false, ?_, iteF ⟨_, rfl, k H1 F s2 nF hF⟩⟩
      rw [sq_L, decide_eq_true rfl]
      rfl
    · refine ⟨_, rfl, _, rfl, rfl, true, ?_, iteT ⟨_, fun σ' H' q => q, _, rfl, .inl ⟨rfl, _, SqL.of hF⟩, _, rfl, F, _, _, rfl, rfl, hF, ?_, ?_⟩⟩
      · rw [decide_eq_false (fun q => sq_ne (s := st) j1 (show j < L by omega) (by have := V.int.inj q; omega))]
        rfl
      · rw [ivs_len, List.length_map, List.length_range, sizeLine_eq]
        omega
      · refine ⟨_, rfl, _, rfl, a, rope N L, _, _, rfl, rfl, SqT.of ?_, atI_nat (rope_at (sq_lt hL hd hs j)), L - (j + 1), by omega, j + 1, by omega, by omega, rfl, ?_, same_updN s2 nF, ?_⟩
        · rw [upd_ne (ne_of (s2 _ _ ha) hF (by intro z; cases z))]
          exact s2 _ _ ha
        · rw [sq_rp hL]
          rfl
        · rw [upd_same, List.range_succ, List.map_append, ivs_snoc]
          rfl
end
end PR
/-! text W19 -/
set_option Elab.async false
set_option linter.all false
set_option maxRecDepth 100000
set_option maxHeartbeats 4000000
namespace PR
open PySem PySem.Spec PyProof.Rows L2
theorem flat_rep (n : Nat) (x : V) : (List.replicate n [x]).flatten = List.replicate n x := by
  induction n with
  | zero => rfl
  | succ n ih => rw [List.replicate_succ, List.flatten_cons, ih, List.replicate_succ]; rfl
theorem rnd_0 {L b : Nat} (hL : 0 < L) : rnd L (b * L) = bk L b L := by
  unfold rnd bk
  refine List.map_congr_left fun j hj => ?_
  have hj := List.mem_range.mp hj
  have e1 : b * L / L = b := Nat.mul_div_cancel _ hL
  have e2 : b * L % L = 0 := Nat.mul_mod_left _ _
  rw [e1, e2, Nat.zero_add, Nat.mod_eq_of_lt hj]
theorem list_eq {l : List Nat} {f : Nat → Nat} {N : Nat} (h : l.length = N) (h2 : ∀ n, n < N → l[n]? = some (f n)) : l = (List.range N).map f := by
  refine List.ext_getElem? fun i => ?_
  rcases Nat.lt_or_ge i N with c | c
  · rw [h2 i c, rng_at c]
  · rw [List.getElem?_eq_none (by omega), List.getElem?_eq_none (by simp; omega)]
section
variable {P : Program} {w : World} {K : PySem.W.Frag} {mg : Str → Option Value} {base : Heap}
theorem ok_law_power (T : Txt K mg) : FnOk P w K mg base CX0 2 T.law_power.a T.law_power.fd ["_law_rope_here", "_law_times_here"] spPower := by
  refine T.law_power.F.ok sc_law_power (fun vs H Q E h => ?_) (fun cdv A0 outer s H vs Q E hr h => ?_)
  · obtain ⟨a, N, L, t, rfl, _⟩ := h
    rfl
  · obtain ⟨a, N, L, t, rfl, ha, hL, hd, hN, k⟩ := h
    have hu := hu_of hr
    have hz := sizeLine_eq
    have hNL : N / L * L = N := Nat.div_mul_cancel hd
    refine ⟨_, PSs.nox (pss_cons (ps_par (i := 2) (j := 3) rfl sc_law_power.nd rfl rfl (by decide) rfl rfl (pa_cons (pe_op op_rep (pe_lst (pa_cons pe_int pa_nil)) (pe_callB call_len_seq rfl T.m_len boot_len (pa_cons (pv 0) pa_nil))) (pa_cons pe_dnewK pa_nil)) rfl)
      (pss_cons (ps_for PassesOwn.never rfl (pi_range1 rfl T.m_range (pa_cons (pe_callB call_len_seq rfl T.m_len boot_len (pa_cons (pv 0) pa_nil)) pa_nil)) (pg_name (i := 4) sc_law_power.nd rfl (Or.inl rfl)) (pss_one (ps_if (pt_cmp (pc_dnotin hu (pv 4) (pv 3))) (pss_cons (ps_set (i := 5) sc_law_power.nd rfl (Or.inl rfl) (T.law_round.call (ok_law_round T) (hr.mono (by decide)) rfl (pa_cons (pv 0) (pa_cons (pv 4) pa_nil))))
      (pss_one (ps_for PassesOwn.never rfl (pi_enum rfl T.m_enumerate (pa_cons (pv 5) pa_nil)) (pg_tup rfl (pgs_cons (pg_name (i := 6) sc_law_power.nd rfl (Or.inl rfl)) (pgs_cons (pg_name (i := 7) sc_law_power.nd rfl (Or.inl rfl)) pgs_nil))) (pss_cons (ps_dput hu (pv 3) (pv 7) pe_bl rfl)
      (pss_one (ps_asg (pe_ix ix_list (pv 5) (pe_op op_mod (pe_callTy call_int1 rfl T.m_int b_int (pa_cons (pe_op op_add (pv 6) (pv 1)) pa_nil)) (pe_callB call_len_seq rfl T.m_len boot_len (pa_cons (pv 5) pa_nil))) (fun _ _ => rfl)) (pg_sub (pv 2) (pv 7) set_list))))))) pss_nil)))
      (pss_one (ps_ret (pv 2))))), ?_⟩
    refine ⟨(show 1 ≤ sizeLine by decide), fun o no => ?_⟩
    have s0 : Same H (upd H o (.lst [.int 0])) := upd_S no
    have ho : upd H o (.lst [.int 0]) o = some (.lst [.int 0]) := upd_same
    generalize upd H o (.lst [.int 0]) = H0 at s0 ho
    refine ⟨_, rfl, a, _, rfl, .inr (SqT.of (s0 _ _ ha)), o, _, _, rfl, rfl, ho, by omega, by rw [rope_len]; omega, by rw [rope_len, Int.toNat_natCast, List.length_singleton]; omega, fun F nF M nM => ⟨_, _, rfl, ?_⟩⟩
    rw [rope_len, Int.toNat_natCast, flat_rep] at nM ⊢
    have hFM : F ≠ M := by
      intro e
      subst e
      rw [upd_same] at nM
      cases nM
    have nF0 := s0.free nF
    have s1 : Same H0 (upd (upd H0 F (.lst (List.replicate N (.int 0)))) M (.dK [])) := (upd_S nF).trans (upd_S nM)
    have nM0 : H M = none := s0.free ((upd_S nF).free nM)
    have hF : upd (upd H0 F (.lst (List.replicate N (.int 0)))) M (.dK []) F = some (.lst (List.replicate N (.int 0))) := by rw [upd_ne hFM, upd_same]
    have hM : upd (upd H0 F (.lst (List.replicate N (.int 0)))) M (.dK []) M = some (.dK []) := upd_same
    generalize upd (upd H0 F (.lst (List.replicate N (.int 0)))) M (.dK []) = H1 at s1 hF hM
    have s01 := s0.trans s1
    refine ⟨_, rfl, a, _, rfl, .inr (SqT.of (s01 _ _ ha)), _, rfl, by rw [rope_len]; omega, by rw [rope_len]; omega, ?_⟩
    rw [rope_len, Int.toNat_natCast]
    refine for_range (lo := 0) (n := N) (fun i σ H' => ∃ (q : Nat) (fl : List Nat) (v4 v5 v6 v7 : Option V), q ≤ N / L ∧ i ≤ q * L ∧ q * L < i + L ∧ σ = [some (.ref a), some (.int t), some (.ref F), some (.ref M), v4, v5, v6, v7] ∧ Same H H' ∧ H' F = some (.lst (ivs fl)) ∧ fl.length = N ∧ (∀ n, n < q * L → fl[n]? = some (RK.pl L t n)) ∧ H' M = some (.dK (mp bt (List.range (q * L)))))
      ⟨0, List.replicate N 0, _, _, _, _, Nat.zero_le _, by omega, by omega, rfl, s01, by rw [hF]; simp, by simp, fun n h => by omega, by rw [hM, Nat.zero_mul]; rfl⟩ ?_ ?_
    · rintro i σ H2 hi ⟨q, fl, v4, v5, v6, v7, q0, q1, q2, rfl, s2, hF2, lf, hf, hM2⟩
      rw [show (0 : Int) + (i : Int) = (i : Int) by omega]
      refine ⟨_, rfl, _, rfl, _, _, rfl, DGet.k (k := ik i) hM2, _, rfl, ?_⟩
      by_cases h : i < q * L
      · rw [mp_in (List.mem_range.mpr h)]
        exact iteF ⟨q, fl, _, _, _, _, q0, by omega, by omega, rfl, s2, hF2, lf, hf, hM2⟩
      · rw [mp_out (fun z => h (List.mem_range.mp z))]
        have ei : i = q * L := by omega
        have hq : q < N / L := by
          refine Nat.lt_of_not_le fun z => ?_
          have := Nat.mul_le_mul_right L z
          omega
        have hle := bl_le hd hq
        refine iteT ⟨_, rfl, _, rfl, a, N, L, i, rfl, s2 _ _ ha, hL, hd, hi, hN, fun H3 r s3 nr hr3 => ?_⟩
        rw [ei, rnd_0 hL] at hr3
        have hF3 := s3 _ _ hF2
        have hM3 := s3 _ _ hM2
        have rF : r ≠ F := Ne.symm (ne_of_none hF2 nr)
        refine ⟨_, rfl, r, _, rfl, SqL.of hr3, for_it (walk_enum (K := K) (a := r) (xs := ivs (bk L q L))) (fun j σ H' => ∃ (fl : List Nat) (v6 v7 : Option V), σ = [some (.ref a), some (.int t), some (.ref F), some (.ref M), some (iv i), some (.ref r), v6, v7] ∧ Same H H' ∧ H' r = some (.lst (ivs (bk L q L))) ∧ H' F = some (.lst (ivs fl)) ∧ fl.length = N ∧ (∀ n, n < q * L + j → fl[n]? = some (RK.pl L t n)) ∧ H' M = some (.dK (mp bt (List.range (q * L + j)))))
          ⟨fl, _, _, rfl, s2.trans s3, hr3, hF3, lf, hf, hM3⟩ (fun j σ H' _ p => ?_) ?_ ?_⟩
        · obtain ⟨_, _, _, _, _, z, _⟩ := p
          exact SqL.of z
        · rintro j x σ H4 H5 hj ⟨fl, v6, v7, rfl, s4, hr4, hF4, lf, hf, hM4⟩ ⟨Tp, x1, x2, rfl, nT, rfl, e1, e2⟩
          cases e1
          have hj : j < L := by simpa [bk_len] using hj
          have ex2 : x2 = iv (q * L + j) := by
            have z := iv_at (bk_at (L := L) (b := q) hj)
            have e2 : (ivs (bk L q L))[j]? = some x2 := e2
            rw [z] at e2
            exact (Option.some.inj e2).symm
          subst ex2
          have s5 : Same H4 (upd H4 Tp (.tup [.int (j : Nat), iv (q * L + j)])) := upd_S nT
          refine ⟨Tp, _, rfl, SqT.of upd_same, rfl, _, _, rfl, _, _, rfl, rfl, ?_⟩
          generalize upd H4 Tp (.tup [.int (j : Nat), iv (q * L + j)]) = H5 at s5
          have hM5 := s5 _ _ hM4
          have hr5 := s5 _ _ hr4
          have hF5 := s5 _ _ hF4
          refine ⟨_, rfl, _, rfl, M, _, rfl, DPut.k (k := ik (q * L + j)) hM5 (by rw [mp_len, List.length_range]; omega), ?_⟩
          rw [show V.bl true = bt (q * L + j) from rfl, mp_put (by simp), ← List.range_succ]
          have hr6 : upd H5 M (.dK (mp bt (List.range (q * L + j + 1)))) r = some (.lst (ivs (bk L q L))) := by
            rw [upd_ne (ne_of hr5 hM5 (by intro z; cases z))]
            exact hr5
          have hF6 : upd H5 M (.dK (mp bt (List.range (q * L + j + 1)))) F = some (.lst (ivs fl)) := by
            rw [upd_ne hFM]
            exact hF5
          have hlen : (ivs (bk L q L)).length = L := by rw [ivs_len, bk_len]
          have hix : (ivs (bk L q L))[((((j : Int) + t) % (L : Int)).toNat)]? = some (iv (RK.pl L t (q * L + j))) := by
            rw [iv_at (bk_at (RK.mod_lt hL _)), pl_blk hj]
          refine ⟨_, rfl, _, rfl, _, rfl, _, _, rfl, rfl, .inl ⟨_, rfl, _, rfl, r, _, rfl, .inl (SqL.of hr6), _, _, rfl, rfl, by rw [hlen]; omega, r, _, _, _, rfl, rfl, SqL.of hr6, at_of (by rw [hlen]; exact (RK.mcst hL _).symm) hix, ?_⟩⟩
          refine ⟨_, rfl, _, rfl, F, _, _, _, rfl, rfl, hF6, ixN_nat (n := (ivs fl).length) (j := q * L + j) (by rw [ivs_len, lf]; omega), fl.set (q * L + j) (RK.pl L t (q * L + j)), _, _, rfl, same_updN (same_updN (s4.trans s5) nM0) nF0, ?_, ?_, by rw [List.length_set]; exact lf, fun n hn => ?_, ?_⟩
          · rw [upd_ne rF]
            exact hr6
          · rw [upd_same]
            show some (HO.lst ((fl.map iv).set _ (iv _))) = some (HO.lst ((fl.set _ _).map iv))
            rw [List.map_set]
          · by_cases c : q * L + j = n
            · subst c
              rw [List.getElem?_set_self (by omega)]
            · rw [List.getElem?_set_ne c]
              exact hf n (by omega)
          · rw [upd_ne (Ne.symm hFM), upd_same]
            rfl
        · rintro σ H4 ⟨fl, v6, v7, rfl, s4, hr4, hF4, lf, hf, hM4⟩
          rw [ivs_len, bk_len] at hf hM4
          exact ⟨q + 1, fl, _, _, _, _, hq, by rw [Nat.succ_mul]; omega, by rw [Nat.succ_mul]; omega, rfl, s4, hF4, lf, by rw [Nat.succ_mul]; exact hf, by rw [Nat.succ_mul]; exact hM4⟩
    · rintro σ H2 ⟨q, fl, v4, v5, v6, v7, q0, q1, q2, rfl, s2, hF2, lf, hf, hM2⟩
      have eq : q * L = N := by
        have := Nat.mul_le_mul_right L q0
        omega
      rw [eq] at hf
      rw [list_eq lf hf] at hF2
      exact ⟨_, rfl, k H2 F s2 nF0 hF2⟩
theorem ok_law_lengths (T : Txt K mg) : FnOk P w K mg base CX0 2 T.law_lengths.a T.law_lengths.fd ["_law_rope_here"] spLengths := by
  refine T.law_lengths.F.ok sc_law_lengths (fun vs H Q E h => ?_) (fun cdv A0 outer s H vs Q E hr h => ?_)
  · obtain ⟨a, N, L, rfl, _⟩ := h
    rfl
  · obtain ⟨a, N, L, rfl, ha, hL, hd, hN0, hN, k⟩ := h
    refine ⟨_, PSs.nox (pss_cons (ps_set (i := 1) sc_law_lengths.nd rfl (Or.inl rfl) (pe_lst pa_nil))
      (pss_cons (ps_for PassesOwn.never rfl (pi_range1 rfl T.m_range (pa_cons (pe_callB call_len_seq rfl T.m_len boot_len (pa_cons (pv 0) pa_nil)) pa_nil)) (pg_name (i := 2) sc_law_lengths.nd rfl (Or.inl rfl)) (pss_cons (ps_set (i := 3) sc_law_lengths.nd rfl (Or.inl rfl) (pe_callB call_len_seq rfl T.m_len boot_len (pa_cons (T.law_round.call (ok_law_round T) (hr.mono (by decide)) rfl (pa_cons (pv 0) (pa_cons (pv 2) pa_nil))) pa_nil)))
      (pss_one (ps_if (pt_cmpR op_notIn_seq (pv 3) (pv 1) rfl) (pss_one (ps_expr (pe_bm PySem.F.plainAttrs_list PySem.F.slot_list_append PySem.F.type_list_append mt_append (pv 1) (pa_cons (pv 3) pa_nil)))) pss_nil))))
      (pss_one (ps_ret (pe_callB cr_sortedI rfl T.m_sorted b_sorted (pa_cons (pv 1) pa_nil)))))), ?_⟩
    refine ⟨(show 0 ≤ sizeLine by decide), fun F nF => ?_⟩
    have s1 : Same H (upd H F (.lst [])) := upd_S nF
    refine ⟨_, rfl, a, _, rfl, .inr (SqT.of (s1 _ _ ha)), _, rfl, by rw [rope_len]; omega, by rw [rope_len]; omega, ?_⟩
    rw [rope_len, Int.toNat_natCast]
    refine for_range (lo := 0) (n := N) (fun i σ H' => ∃ v2 v3 : Option V, σ = [some (.ref a), some (.ref F), v2, v3] ∧ Same H H' ∧ H' F = some (.lst (if i = 0 then [] else [iv L]))) ⟨_, _, rfl, s1, by rw [upd_same, if_pos rfl]⟩ ?_ ?_
    · rintro i σ H2 hi ⟨v2, v3, rfl, s2, hF2⟩
      rw [show (0 : Int) + (i : Int) = (i : Int) by omega]
      refine ⟨_, rfl, _, rfl, a, N, L, i, rfl, s2 _ _ ha, hL, hd, hi, hN, fun H3 r s3 nr hr3 => ⟨r, _, rfl, .inl (SqL.of hr3), ?_⟩⟩
      have el : (ivs (rnd L i)).length = L := by rw [ivs_len, rnd_eq, List.length_map, List.length_range]
      rw [el]
      have hF3 := s3 _ _ hF2
      by_cases c : i = 0
      · rw [if_pos c] at hF3
        refine ⟨_, rfl, _, rfl, F, _, rfl, .inl (SqL.of hF3), rfl, rfl, _, rfl, iteT ?_⟩
        refine ⟨_, rfl, .inl ⟨rfl, _, SqL.of hF3⟩, _, rfl, F, _, _, rfl, rfl, hF3, (show 0 < sizeLine by decide), _, _, rfl, same_updN (s2.trans s3) nF, ?_⟩
        rw [upd_same, if_neg (Nat.succ_ne_zero i)]
        rfl
      · rw [if_neg c] at hF3
        have ei : inV (iv L) [iv L] = true := by
          show (eqV (V.int (L : Int)) (V.int (L : Int)) || false) = true
          rw [Bool.or_false]
          exact decide_eq_true rfl
        refine ⟨_, rfl, _, rfl, F, _, rfl, .inl (SqL.of hF3), rfl, rfl, false, ?_, iteF ⟨_, _, rfl, s2.trans s3, by rw [if_neg (Nat.succ_ne_zero i)]; exact hF3⟩⟩
        show V.bl (if true = true then !inV (iv L) [iv L] else _) = _
        rw [if_pos rfl, ei]
        rfl
    · rintro σ H2 ⟨v2, v3, rfl, s2, hF2⟩
      rw [if_neg (by omega)] at hF2
      refine ⟨_, rfl, F, [(L : Int)], rfl, SqL.of hF2, fun ns' p pm pw np => ?_⟩
      have e : ns' = [(L : Int)] := List.perm_singleton.mp pm
      subst e
      exact k _ p (s2.trans (upd_S np)) (s2.free np) upd_same
theorem ok_law_made (T : Txt K mg) : FnOk P w K mg base CX0 7 T.law_made.a T.law_made.fd ["_law_scope_here"] (spMade T.cHouse) := by
  refine T.law_made.F.ok sc_law_made (fun vs H Q E h => ?_) (fun cdv A0 outer s H vs Q E hr h => ?_)
  · obtain ⟨p, a, R, ds, rfl, _⟩ := h
    rfl
  · obtain ⟨p, a, R, ds, rfl, hp, hd, hds, hz, hR, hR2, hc, k⟩ := h
    refine ⟨_, PSs.nox (pss_one (ps_ret (pe_make T.dHouse.mkr (ok_House_init T) (hr.mono (by decide)) rfl T.dHouse.g T.House_init.b .nil pass0 (pa_cons (pe_ix ix_tup (pv 0) pe_int (fun _ _ => rfl)) (pa_cons (pe_ix ix_tup (pv 0) pe_int (fun _ _ => rfl)) pa_nil))))), ?_⟩
    refine ⟨_, rfl, p, _, 0, _, rfl, rfl, SqT.of hp, rfl, _, rfl, p, _, 1, _, rfl, rfl, SqT.of hp, rfl, fun x dx nx nd ne => ?_⟩
    have s1 : Same H (upd (upd H dx (.own x)) x (.ins T.cHouse dx [])) := same_updN (upd_S nd) nx
    refine ⟨x, dx, a, R, ds, rfl, upd_same, hd.same s1, hds, hz, hR, hR2, hc, fun H1 hx1 k1 => ⟨rfl, ?_⟩⟩
    have s2 : Same H H1 := fun b o e => k1 b o (s1 _ _ e) (ne_of_none e nx)
    exact k H1 x s2 nx ⟨⟨dx, hx1⟩, hd.same s2⟩
end
end PR
/-! text W20 -/
set_option Elab.async false
set_option linter.all false
set_option maxRecDepth 100000
set_option maxHeartbeats 4000000
namespace PR
open PySem PySem.Spec PyProof.Rows L2
theorem perm_map_inv {α β : Type} {f : α → β} {l l2 : List β} (h : l.Perm l2) : ∀ {q : List α}, l2 = q.map f → ∃ q' : List α, q'.Perm q ∧ l = q'.map f := by
  induction h with
  | nil =>
    intro q e
    exact ⟨q, List.Perm.refl _, e⟩
  | cons x _ ih =>
    intro q e
    cases q with
    | nil => cases e
    | cons a q =>
      rw [List.map_cons] at e
      obtain ⟨e1, e2⟩ := List.cons.inj e
      obtain ⟨q', p, e3⟩ := ih e2
      exact ⟨a :: q', p.cons a, by rw [List.map_cons, e1, e3]⟩
  | swap x y l =>
    intro q e
    match q, e with
    | a :: b :: q, e =>
      rw [List.map_cons, List.map_cons] at e
      obtain ⟨e1, e2⟩ := List.cons.inj e
      obtain ⟨e3, e4⟩ := List.cons.inj e2
      exact ⟨b :: a :: q, List.Perm.swap a b q, by rw [List.map_cons, List.map_cons, e1, e3, e4]⟩
  | trans _ _ ih1 ih2 =>
    intro q e
    obtain ⟨q2, p2, e2⟩ := ih2 e
    obtain ⟨q1, p1, e1⟩ := ih1 e2
    exact ⟨q1, p1.trans p2, e1⟩
theorem mat_perm {H : Hp} {F : Addr} {as : List Addr} {ds : List Dr} {ys : List V} (m : Mat .lst .tup H F as (ds.map Dr.vs)) (hp : ys.Perm (as.map V.ref)) :
    ∃ (bs : List Addr) (es : List Dr), ys = bs.map V.ref ∧ es.Perm ds ∧ bs.length = es.length ∧ ∀ (j : Nat) vs, (es.map Dr.vs)[j]? = some vs → ∃ p, bs[j]? = some p ∧ H p = some (.tup vs) := by
  have hl := mat_len m
  have e : as.map V.ref = (as.zip ds).map (fun q => V.ref q.1) := by
    have z : (as.zip ds).map Prod.fst = as := List.map_fst_zip (by omega)
    calc as.map V.ref = ((as.zip ds).map Prod.fst).map V.ref := by rw [z]
      _ = _ := by rw [List.map_map]; rfl
  obtain ⟨q', p', e'⟩ := perm_map_inv hp e
  refine ⟨q'.map Prod.fst, q'.map Prod.snd, by rw [e', List.map_map]; rfl, ?_, by simp, fun j vs hj => ?_⟩
  · have := p'.map Prod.snd
    rwa [List.map_snd_zip (by omega)] at this
  · rw [List.map_map, List.getElem?_map] at hj
    cases eq : q'[j]? with
    | none => rw [eq] at hj; cases hj
    | some r =>
      rw [eq] at hj
      cases hj
      have hm := p'.mem_iff.mp (List.mem_of_getElem? eq)
      obtain ⟨i, hi⟩ := List.mem_iff_getElem?.mp hm
      obtain ⟨e1, e2⟩ := List.getElem?_zip_eq_some.mp hi
      obtain ⟨p, e3, e4⟩ := m.2.2 i r.2.vs (by rw [List.getElem?_map, e2]; rfl)
      rw [e1] at e3
      cases e3
      exact ⟨r.1, by rw [List.getElem?_map, eq]; rfl, e4⟩
/-- a list of tuples stays where only the source changes -/
theorem mat_src {s g c : Addr} {T : Int} {H H' : Hp} {F : Addr} {as : List Addr} {vss : List (List V)} (m : Mat .lst .tup H F as vss) (st : StAt H s g c T) (n : F ≠ g) (e : Chg s g H H') : Mat .lst .tup H' F as vss := by
  obtain ⟨gs, cs, l, t, S, _, _⟩ := st.sr
  refine m.chg e ⟨ne_of m.1 S.hs (by intro z; cases z), n⟩ fun p hp => ?_
  obtain ⟨j, hj⟩ := List.mem_iff_getElem?.mp hp
  obtain ⟨q, vs, e1, e2, e3, e4⟩ := m.item (j := j) (x := .ref p) (by rw [List.getElem?_map, hj]; rfl)
  cases e1
  exact st.ne_tup e4
/-- joined so far -/
def ConnTo (k : Nat) (ds : List Dr) : Prop := ∀ r, 0 < r → r < k → ∃ d ∈ ds, (d.n = r ∧ d.m < r) ∨ (d.m = r ∧ d.n < r)
theorem ConnTo.more {k : Nat} {ds : List Dr} (h : ConnTo k ds) (es : List Dr) : ConnTo k (ds ++ es) := fun r r0 r1 => by
  obtain ⟨d, hd, q⟩ := h r r0 r1
  exact ⟨d, List.mem_append_left _ hd, q⟩
section
variable {P : Program} {w : World} {K : PySem.W.Frag} {mg : Str → Option Value} {base : Heap}
theorem ok_law_doors (T : Txt K mg) : FnOk P w K mg base CX0 5 T.law_doors.a T.law_doors.fd ["_law_state", "_law_rooms_here", "_law_more"] spDoors := by
  refine T.law_doors.F.ok sc_law_doors (fun vs H Q E h => ?_) (fun cdv A0 outer s H vs Q E hr h => ?_)
  · obtain ⟨s, g, c, T0, R, m, rfl, _⟩ := h
    rfl
  · obtain ⟨s, g, c, Tn, R, m, rfl, hR, hR4, hm, hS, hT, k⟩ := h
    obtain ⟨gs, cs, ll, t, S, t0, t1⟩ := hS.sr
    have hz := sizeLine_eq
    unfold tMax at hT
    refine ⟨_, PSs.nox (pss_cons (ps_set (i := 3) sc_law_doors.nd rfl (Or.inl rfl) (pe_lst pa_nil))
      (pss_cons (ps_for PassesOwn.never rfl (pi_range2 rfl T.m_range (pa_cons pe_int (pa_cons (pv 1) pa_nil))) (pg_name (i := 4) sc_law_doors.nd rfl (Or.inl rfl)) (pss_one (ps_expr (pe_bm PySem.F.plainAttrs_list PySem.F.slot_list_append PySem.F.type_list_append mt_append (pv 3) (pa_cons (pe_tup (pa_cons (T.law_draw.call (ok_law_draw T) (hr.mono (by decide)) rfl (pa_cons (pv 0) (pa_cons (pv 4) pa_nil))) (pa_cons (T.law_size.call (ok_law_size T) (hr.mono (by decide)) rfl (pa_cons (pv 0) pa_nil)) (pa_cons (pv 4) (pa_cons (T.law_size.call (ok_law_size T) (hr.mono (by decide)) rfl (pa_cons (pv 0) pa_nil)) pa_nil))))) pa_nil)))))
      (pss_cons (ps_for PassesOwn.never rfl (pi_range1 rfl T.m_range (pa_cons (T.law_draw.call (ok_law_draw T) (hr.mono (by decide)) rfl (pa_cons (pv 0) (pa_cons (pe_op op_add (pv 2) pe_int) pa_nil))) pa_nil)) (pg_name (i := 5) sc_law_doors.nd rfl (Or.inl rfl)) (pss_cons (ps_par (i := 6) (j := 7) rfl sc_law_doors.nd rfl rfl (by decide) rfl rfl (pa_cons (T.law_draw.call (ok_law_draw T) (hr.mono (by decide)) rfl (pa_cons (pv 0) (pa_cons (pv 1) pa_nil))) (pa_cons (T.law_draw.call (ok_law_draw T) (hr.mono (by decide)) rfl (pa_cons (pv 0) (pa_cons (pv 1) pa_nil))) pa_nil)) rfl)
      (pss_one (ps_expr (pe_bm PySem.F.plainAttrs_list PySem.F.slot_list_append PySem.F.type_list_append mt_append (pv 3) (pa_cons (pe_tup (pa_cons (pv 6) (pa_cons (T.law_size.call (ok_law_size T) (hr.mono (by decide)) rfl (pa_cons (pv 0) pa_nil)) (pa_cons (pv 7) (pa_cons (T.law_size.call (ok_law_size T) (hr.mono (by decide)) rfl (pa_cons (pv 0) pa_nil)) pa_nil))))) pa_nil))))))
      (pss_cons (ps_setLc (i := 3) (own := [("_law_item", 8)]) (g := gName 8) (tt := tYes) rfl sc_law_doors.nd rfl rfl (sw_true rfl rfl rfl (by decide +kernel)) (pi_list (pv 3)) (blkOk_by (own := [("_law_item", 8)]) (N := ["_law_state", "_law_rooms_here", "_law_more", "_law_found", "_law_room_here", "_law_turn", "_law_one", "_law_other", "_law_item"]) (sc := defScope s_law_doors) (by decide +kernel)) (fun _ _ _ _ _ => (pg_name (i := 8) sc_law_doors.nd rfl (Or.inl rfl))) (fun _ _ _ _ _ => pts_nil) (fun _ _ _ _ _ => (pe_ifExp (pt_cmpR op_eq (T.law_draw.call (ok_law_draw T) (hr.mono (by decide)) rfl (pa_cons (pv 0) (pa_cons pe_int pa_nil))) pe_int (nomark _)) (pv 8) (pe_tup (pa_cons (pe_ix (r := rIxT K) ix_tup (pv 8) pe_int (fun _ _ => rfl)) (pa_cons (pe_ix (r := rIxT K) ix_tup (pv 8) pe_int (fun _ _ => rfl)) (pa_cons (pe_ix (r := rIxT K) ix_tup (pv 8) pe_int (fun _ _ => rfl)) (pa_cons (pe_ix (r := rIxT K) ix_tup (pv 8) pe_int (fun _ _ => rfl)) pa_nil))))))))
      (pss_one (ps_ret (pe_callTy call_tuple_of rfl T.m_tuple b_tuple (pa_cons (T.law_mixed.call (ok_law_mixed T) (hr.mono (by decide)) rfl (pa_cons (pv 0) (pa_cons (pv 3) pa_nil))) pa_nil)))))))), ?_⟩
    refine ⟨(show 0 ≤ sizeLine by decide), fun F nF => ?_⟩
    have hF0 : upd H F (.lst []) F = some (.lst []) := upd_same
    have s0 : Same H (upd H F (.lst [])) := upd_S nF
    have nFg : F ≠ g := Ne.symm (ne_of_none S.hg nF)
    have hS0 := hS.same s0
    generalize upd H F (.lst []) = H0 at hF0 s0 hS0
    refine ⟨_, rfl, _, _, rfl, by omega, ?_⟩
    have eR : ((R : Int) - 1).toNat = R - 1 := by omega
    rw [eR]
    -- a chain of rooms
    refine for_range (lo := 1) (n := R - 1) (fun i σ H' => ∃ (v4 : Option V) (as : List Addr) (ds : List Dr), σ = [some (.ref s), some (iv R), some (iv m), some (.ref F), v4, none, none, none, none] ∧ Chg s g H H' ∧ StAt H' s g c (Tn + 5 * i) ∧ Mat .lst .tup H' F as (ds.map Dr.vs) ∧ ds.length = i ∧ (∀ d ∈ ds, DrOk R d) ∧ ConnTo (i + 1) ds)
      ⟨_, [], [], rfl, Chg.of s0, hS0.le (by omega), ⟨hF0, rfl, fun j vs h => by cases h⟩, rfl, (fun d h => nomatch h), fun r a b => by omega⟩ ?_ ?_
    · rintro i σ H1 hi ⟨v4, as, ds, rfl, ch, hS1, hF, ld, hds, hc⟩
      rw [show (1 : Int) + (i : Int) = ((i + 1 : Nat) : Int) by omega]
      refine ⟨_, rfl, .inl ⟨rfl, _, SqL.of hF.1⟩, _, rfl, _, rfl, s, g, c, _, _, rfl, by omega, by omega, hS1, by unfold tMax; omega, fun r H2 r0 r1 hS2 ch2 => ?_⟩
      refine ⟨_, rfl, s, g, c, _, rfl, hS2, by unfold tMax; omega, fun z1 H3 hz1 hS3 ch3 => ?_⟩
      refine ⟨_, rfl, _, rfl, s, g, c, _, rfl, hS3, by unfold tMax; omega, fun z2 H4 hz2 hS4 ch4 => ?_⟩
      obtain ⟨n, rfl⟩ : ∃ n : Nat, r = (n : Int) := ⟨r.toNat, by omega⟩
      have hF4 := mat_src (mat_src (mat_src hF hS1 nFg ch2) hS2 nFg ch3) hS3 nFg ch4
      have ch04 := ((ch.trans ch2).trans ch3).trans ch4
      refine ⟨(show 4 ≤ sizeLine by decide), fun t nt => ?_⟩
      have s5 : Same H4 (upd H4 t (.tup [iv n, .int z1, iv (i + 1), .int z2])) := upd_S nt
      have hF5 := hF4.same s5
      have ht : upd H4 t (.tup [iv n, .int z1, iv (i + 1), .int z2]) t = some (.tup (Dr.vs ⟨n, z1, i + 1, z2⟩)) := upd_same
      have hS5 := hS4.same s5
      have ch05 := ch04.trans (Chg.of s5)
      generalize upd H4 t (.tup [iv n, .int z1, iv (i + 1), .int z2]) = H5 at s5 hF5 ht hS5 ch05
      obtain ⟨gs5, cs5, l5, t5, S5, t50, t51⟩ := hS5.sr
      have nFs : F ≠ s := ne_of hF5.1 S5.hs (by intro z; cases z)
      have nFc : F ≠ c := fun e => by
        subst e
        exact absurd hF0 (by rw [s0 _ _ S.hc]; intro z; exact absurd (ne_of_none S.hc nF) (fun q => q rfl))
      refine ⟨F, _, _, rfl, rfl, hF5.1, by rw [List.length_map, mat_len hF5, ld]; omega, _, as ++ [t], ds ++ [⟨n, z1, i + 1, z2⟩], rfl, ?_, ?_, ?_, by rw [List.length_append, ld]; rfl, fun d hd => ?_, fun r r0 r1 => ?_⟩
      · intro b o hb n1 n2
        rw [upd_ne (ne_of_none hb nF)]
        exact ch05 b o hb n1 n2
      · refine (Sr.at (gs := gs5) (cs := cs5) (l := l5) (t := t5) ⟨by rw [upd_ne (Ne.symm nFs)]; exact S5.hs, by rw [upd_ne (Ne.symm nFg)]; exact S5.hg, by rw [upd_ne (Ne.symm nFc)]; exact S5.hc, S5.hn⟩ t50 t51).le (by omega)
      · rw [List.map_append]
        exact mat_snoc_t hF5 ht
      · rcases List.mem_append.mp hd with q | q
        · exact hds d q
        · rw [List.mem_singleton] at q
          subst q
          exact ⟨by show n < R; omega, by show i + 1 < R; omega, hz1, hz2⟩
      · by_cases e : r < i + 1
        · exact hc.more _ r r0 e
        · exact ⟨⟨n, z1, i + 1, z2⟩, by simp, .inr ⟨by show i + 1 = r; omega, by show n < r; omega⟩⟩
    · rintro σ H1 ⟨v4, as, ds, rfl, ch, hS1, hF, ld, hds, hc⟩
      -- some doors more
      refine ⟨_, rfl, _, rfl, _, _, rfl, rfl, s, g, c, _, _, rfl, by omega, by omega, hS1, by unfold tMax; omega, fun nm H2 r0 r1 hS2 ch2 => ⟨_, rfl, by omega, by omega, ?_⟩⟩
      have hF2 := mat_src hF hS1 nFg ch2
      have nFc : F ≠ c := Ne.symm (ne_of_none S.hc nF)
      refine for_range (lo := 0) (n := nm.toNat) (fun i σ H' => ∃ (v4 v5 v6 v7 : Option V) (as : List Addr) (ds : List Dr), σ = [some (.ref s), some (iv R), some (iv m), some (.ref F), v4, v5, v6, v7, none] ∧ Chg s g H H' ∧ StAt H' s g c (Tn + 20 + 6 * i) ∧ Mat .lst .tup H' F as (ds.map Dr.vs) ∧ ds.length = R - 1 + i ∧ (∀ d ∈ ds, DrOk R d) ∧ Conn R ds)
        ⟨_, _, _, _, as, ds, rfl, ch.trans ch2, hS2.le (by omega), hF2, by omega, hds, by rw [show R = R - 1 + 1 by omega]; exact hc⟩ ?_ ?_
      · rintro i σ H3 hi ⟨v4, v5, v6, v7, as, ds, rfl, ch3, hS3, hF3, ld, hds, hc⟩
        refine ⟨_, rfl, _, rfl, s, g, c, _, _, rfl, by omega, by omega, hS3, by unfold tMax; omega, fun u H4 u0 u1 hS4 ch4 => ⟨_, rfl, _, rfl, s, g, c, _, _, rfl, by omega, by omega, hS4, by unfold tMax; omega, fun v H5 v0 v1 hS5 ch5 => ⟨_, _, rfl, ?_⟩⟩⟩
        have hF5 := mat_src (mat_src hF3 hS3 nFg ch4) hS4 nFg ch5
        have ch05 := (ch3.trans ch4).trans ch5
        refine ⟨_, rfl, .inl ⟨rfl, _, SqL.of hF5.1⟩, _, rfl, _, rfl, s, g, c, _, rfl, hS5, by unfold tMax; omega, fun z1 H6 hz1 hS6 ch6 => ?_⟩
        refine ⟨_, rfl, _, rfl, s, g, c, _, rfl, hS6, by unfold tMax; omega, fun z2 H7 hz2 hS7 ch7 => ?_⟩
        have hF7 := mat_src (mat_src hF5 hS5 nFg ch6) hS6 nFg ch7
        have ch07 := (ch05.trans ch6).trans ch7
        obtain ⟨n, rfl⟩ : ∃ n : Nat, u = (n : Int) := ⟨u.toNat, by omega⟩
        obtain ⟨n', rfl⟩ : ∃ n : Nat, v = (n : Int) := ⟨v.toNat, by omega⟩
        refine ⟨(show 4 ≤ sizeLine by decide), fun t nt => ?_⟩
        have s8 : Same H7 (upd H7 t (.tup [iv n, .int z1, iv n', .int z2])) := upd_S nt
        have hF8 := hF7.same s8
        have ht : upd H7 t (.tup [iv n, .int z1, iv n', .int z2]) t = some (.tup (Dr.vs ⟨n, z1, n', z2⟩)) := upd_same
        have hS8 := hS7.same s8
        have ch08 := ch07.trans (Chg.of s8)
        generalize upd H7 t (.tup [iv n, .int z1, iv n', .int z2]) = H8 at s8 hF8 ht hS8 ch08
        obtain ⟨gs8, cs8, l8, t8, S8, t80, t81⟩ := hS8.sr
        have nFs : F ≠ s := ne_of hF8.1 S8.hs (by intro z; cases z)
        refine ⟨F, _, _, rfl, rfl, hF8.1, by rw [List.length_map, mat_len hF8, ld]; omega, _, _, _, _, as ++ [t], ds ++ [⟨n, z1, n', z2⟩], rfl, ?_, ?_, ?_, by rw [List.length_append, ld]; rfl, fun d hd => ?_, ?_⟩
        · intro b o hb n1 n2
          rw [upd_ne (ne_of_none hb nF)]
          exact ch08 b o hb n1 n2
        · refine (Sr.at (gs := gs8) (cs := cs8) (l := l8) (t := t8) ⟨by rw [upd_ne (Ne.symm nFs)]; exact S8.hs, by rw [upd_ne (Ne.symm nFg)]; exact S8.hg, by rw [upd_ne (Ne.symm nFc)]; exact S8.hc, S8.hn⟩ t80 t81).le (by omega)
        · rw [List.map_append]
          exact mat_snoc_t hF8 ht
        · rcases List.mem_append.mp hd with q | q
          · exact hds d q
          · rw [List.mem_singleton] at q
            subst q
            exact ⟨by show n < R; omega, by show n' < R; omega, hz1, hz2⟩
        · intro r r0 r1
          obtain ⟨d, hd, q⟩ := hc r r0 r1
          exact ⟨d, List.mem_append_left _ hd, q⟩
      · rintro σ H3 ⟨v4, v5, v6, v7, as, ds, rfl, ch3, hS3, hF3, ld, hds, hc⟩
        have hl5 : ds.length ≤ 5 := by omega
        have hal := mat_len hF3
        -- some doors turned
        refine ⟨_, rfl, F, rfl, ⟨_, SqL.of hF3.1⟩, fun D nD => lc_list (K := K) (a := F) (xs := as.map V.ref) (fun i H' => ∃ (ts : List Addr) (es : List Dr), Chg s g H3 H' ∧ StAt H' s g c (Tn + 40 + i) ∧ Mat .lst .tup H' F as (ds.map Dr.vs) ∧ Mat .lst .tup H' D ts (es.map Dr.vs) ∧ es.length = i ∧ ∀ (j : Nat) d, j < i → ds[j]? = some d → es[j]? = some d ∨ es[j]? = some d.flip)
          ⟨[], [], Chg.of (upd_S nD), (hS3.le (by omega)).same (upd_S nD), hF3.same (upd_S nD), ⟨upd_same, rfl, fun j vs h => by cases h⟩, rfl, fun j d h => by omega⟩ (fun i H' _ p => ?_) ?_ ?_⟩
        · obtain ⟨_, _, _, _, z, _⟩ := p
          exact SqL.of z.1
        · rintro i x H4 hx ⟨ts, es, ch4, hS4, hF4, hD4, le, hes⟩
          obtain ⟨p, d, rfl, h1, h2, h3⟩ := mat_in hF4 hx
          have hil := (List.getElem?_eq_some_iff.mp h2).1
          obtain ⟨gs3, cs3, l3, t3, S3, _, _⟩ := hS3.sr
          have nDg : D ≠ g := Ne.symm (ne_of_none S3.hg nD)
          have nDc : D ≠ c := Ne.symm (ne_of_none S3.hc nD)
          have nDF : F ≠ D := ne_of_none hF3.1 nD
          have nDs : D ≠ s := Ne.symm (ne_of_none S3.hs nD)
          -- the turn's end: an item e at the tuple q
          have fin : ∀ (H5 : Hp) (q : Addr) (e : Dr), Chg s g H4 H5 → StAt H5 s g c (Tn + 40 + i + 1) → H5 q = some (.tup e.vs) → (e = d ∨ e = d.flip) →
              ∃ acc, H5 D = some (.lst acc) ∧ acc.length < sizeLine ∧ ∃ (ts : List Addr) (es : List Dr), Chg s g H3 (upd H5 D (.lst (acc ++ [.ref q]))) ∧ StAt (upd H5 D (.lst (acc ++ [.ref q]))) s g c (Tn + 40 + ((i + 1 : Nat) : Int)) ∧ Mat .lst .tup (upd H5 D (.lst (acc ++ [.ref q]))) F as (ds.map Dr.vs) ∧ Mat .lst .tup (upd H5 D (.lst (acc ++ [.ref q]))) D ts (es.map Dr.vs) ∧ es.length = i + 1 ∧ ∀ (j : Nat) d, j < i + 1 → ds[j]? = some d → es[j]? = some d ∨ es[j]? = some d.flip := by
            intro H5 q e ch5 hS5 hq he
            have hD5 := mat_src hD4 hS4 nDg ch5
            have hF5 := mat_src hF4 hS4 nFg ch5
            obtain ⟨gs5, cs5, l5, t5, S5, t50, t51⟩ := hS5.sr
            refine ⟨_, hD5.1, by rw [List.length_map, mat_len hD5, le]; omega, ts ++ [q], es ++ [e], ?_, ?_, mat_keep hF5 hD5.1 nDF, ?_, by rw [List.length_append, le]; rfl, fun j d' hj hd' => ?_⟩
            · intro b o hb n1 n2
              rw [upd_ne (ne_of_none hb nD)]
              exact ch5 _ _ (ch4 b o hb n1 n2) n1 n2
            · refine (Sr.at (gs := gs5) (cs := cs5) (l := l5) (t := t5) ⟨by rw [upd_ne (Ne.symm nDs)]; exact S5.hs, by rw [upd_ne (Ne.symm nDg)]; exact S5.hg, by rw [upd_ne (Ne.symm nDc)]; exact S5.hc, S5.hn⟩ t50 t51).le (by omega)
            · rw [List.map_append]
              exact mat_snoc_t hD5 hq
            · by_cases cj : j < i
              · rw [List.getElem?_append_left (by omega)]
                exact hes j d' cj hd'
              · obtain rfl : j = i := by omega
                rw [h2] at hd'
                cases hd'
                rw [List.getElem?_append_right (by omega), le, Nat.sub_self]
                rcases he with rfl | rfl
                · exact .inl rfl
                · exact .inr rfl
          refine ⟨rfl, _, rfl, s, g, c, _, _, rfl, by decide, by decide, hS4, by unfold tMax; omega, fun r H5 r0 r1 hS5 ch5 => ⟨rfl, _, rfl, ?_⟩⟩
          have h35 : H5 p = some (.tup d.vs) := ch5 _ _ h3 (hS4.ne_tup h3).1 (hS4.ne_tup h3).2
          by_cases e : r = 0
          · subst e
            rw [decide_eq_true (show V.int 0 = V.int 0 from rfl)]
            refine iteT ⟨_, rfl, ?_⟩
            exact fin H5 p d ch5 hS5 h35 (.inl rfl)
          · rw [decide_eq_false (fun z => e (V.int.inj z))]
            refine iteF ?_
            refine ⟨_, rfl, p, _, 2, _, rfl, rfl, SqT.of h35, rfl, _, rfl, p, _, 3, _, rfl, rfl, SqT.of h35, rfl, _, rfl, p, _, 0, _, rfl, rfl, SqT.of h35, rfl, _, rfl, p, _, 1, _, rfl, rfl, SqT.of h35, rfl, (show 4 ≤ sizeLine by decide), fun t nt => ?_⟩
            exact fin _ t d.flip (ch5.trans (Chg.of (upd_S nt))) (hS5.same (upd_S nt)) upd_same (.inr rfl)
        · rintro H4 ⟨ts, es, ch4, hS4, hF4, hD4, le, hes⟩
          rw [List.length_map, hal] at le hes hS4
          refine ⟨_, rfl, _, rfl, s, g, c, D, _, _, rfl, hD4.1, by rw [List.length_map, mat_len hD4]; omega, hS4, by unfold tMax; omega, fun H5 p ys hp np hp5 hS5 ch5 => ?_⟩
          obtain ⟨gs3, cs3, l3, t3, S3, _, _⟩ := hS3.sr
          have nDg : D ≠ g := Ne.symm (ne_of_none S3.hg nD)
          have hD5 := mat_src hD4 hS4 nDg ch5
          obtain ⟨bs, fs, e1, e2, e3, e4⟩ := mat_perm hD5 hp
          have lfs : fs.length = ds.length := by rw [e2.length_eq, le]
          have hok : ∀ e ∈ es, DrOk R e := fun e he => by
            obtain ⟨j, hj⟩ := List.mem_iff_getElem?.mp he
            have hjl : j < ds.length := by rw [← le]; exact (List.getElem?_eq_some_iff.mp hj).1
            have hd := List.getElem?_eq_getElem hjl
            obtain ⟨q1, q2, q3, q4⟩ := hds _ (List.mem_of_getElem? hd)
            rcases hes j _ hjl hd with z | z
            · rw [hj] at z
              cases z
              exact ⟨q1, q2, q3, q4⟩
            · rw [hj] at z
              cases z
              exact ⟨q2, q1, q4, q3⟩
          refine ⟨p, _, rfl, .inl ⟨SqL.of hp5, fun l nl => ?_⟩⟩
          have s6 : Same H5 (upd H5 l (.tup ys)) := upd_S nl
          have ch05 := (ch3.trans ch4).trans ch5
          have nl0 : H l = none := by
            cases e : H l with
            | none => rfl
            | some o =>
              by_cases e1 : l = s
              · subst e1
                obtain ⟨gs5, cs5, l5, t5, S5, _, _⟩ := hS5.sr
                rw [S5.hs] at nl
                cases nl
              · by_cases e2 : l = g
                · subst e2
                  obtain ⟨gs5, cs5, l5, t5, S5, _, _⟩ := hS5.sr
                  rw [S5.hg] at nl
                  cases nl
                · rw [ch05 l o e e1 e2] at nl
                  cases nl
          refine k _ l fs nl0 ⟨bs, by rw [upd_same, e1], by rw [List.length_map]; exact e3, fun j vs hj => ?_⟩ (fun d hd => hok d (e2.mem_iff.mp hd)) ?_ (by omega) ((hS5.same s6).le ?_) (ch05.trans (Chg.of s6))
          · obtain ⟨q, q1, q2⟩ := e4 j vs hj
            exact ⟨q, q1, s6 _ _ q2⟩
          · intro r r0 r1
            obtain ⟨d, hd, q⟩ := hc r r0 r1
            obtain ⟨j, hj⟩ := List.mem_iff_getElem?.mp hd
            have hjl := (List.getElem?_eq_some_iff.mp hj).1
            rcases hes j d hjl hj with z | z
            · exact ⟨d, e2.mem_iff.mpr (List.mem_of_getElem? z), q⟩
            · refine ⟨d.flip, e2.mem_iff.mpr (List.mem_of_getElem? z), ?_⟩
              rcases q with ⟨q1, q2⟩ | ⟨q1, q2⟩
              · exact .inr ⟨q1, q2⟩
              · exact .inl ⟨q1, q2⟩
          · rw [List.length_map, mat_len hD4]
            omega
end
end PR
/-! text W21 -/
set_option Elab.async false
set_option linter.all false
set_option maxRecDepth 100000
set_option maxHeartbeats 4000000
namespace PR
open PySem PySem.Spec PyProof.Rows L2
section
variable {P : Program} {w : World} {K : PySem.W.Frag} {mg : Str → Option Value} {base : Heap}
theorem ok_law_scope (T : Txt K mg) : FnOk P w K mg base CX0 6 T.law_scope.a T.law_scope.fd ["_law_state", "_law_most_rooms", "_law_more"] spScope := by
  refine T.law_scope.F.ok sc_law_scope (fun vs H Q E h => ?_) (fun cdv A0 outer s H vs Q E hr h => ?_)
  · obtain ⟨s, g, c, T0, rfl, _⟩ := h
    rfl
  · obtain ⟨s, g, c, Tn, rfl, hS, hT, k⟩ := h
    unfold tMax at hT
    refine ⟨_, PSs.nox (pss_cons (ps_set (i := 3) sc_law_scope.nd rfl (Or.inl rfl) (pe_op op_add pe_int (T.law_draw.call (ok_law_draw T) (hr.mono (by decide)) rfl (pa_cons (pv 0) (pa_cons (pv 1) pa_nil)))))
      (pss_one (ps_ret (pe_tup (pa_cons (pv 3) (pa_cons (T.law_doors.call (ok_law_doors T) (hr.mono (by decide)) rfl (pa_cons (pv 0) (pa_cons (pv 3) (pa_cons (pe_ifExp (pt_cmpR op_gt (pv 3) pe_int (nomark _)) (pv 2) (pe_callB (call_max2 rfl) rfl T.m_max b_max (pa_cons (pv 2) (pa_cons pe_int pa_nil)))) pa_nil)))) pa_nil)))))), ?_⟩
    refine ⟨_, rfl, _, rfl, s, g, c, Tn, 4, rfl, by decide, by decide, hS, by unfold tMax; omega, fun r H1 r0 r1 hS1 ch1 => ?_⟩
    obtain ⟨n, rfl⟩ : ∃ n : Nat, r = (n : Int) := ⟨r.toNat, by omega⟩
    refine ⟨_, _, rfl, rfl, ?_⟩
    have e1 : V.int (1 + (n : Int)) = iv (n + 1) := by
      show V.int _ = V.int _
      congr 1
      omega
    have fin : ∀ (vs : List V), vs = [V.ref s, iv (n + 1), iv 2] → spDoors vs H1 (fun x H2 => 2 ≤ sizeLine ∧ ∀ p, H2 p = none → Q (.ref p) (upd H2 p (.tup [iv (n + 1), x]))) (fun _ _ _ => False) := by
      rintro vs rfl
      refine ⟨s, g, c, Tn + 1, n + 1, 2, rfl, by omega, by omega, by decide, hS1, by unfold tMax; omega, fun H2 a ds na hd hok hcn hl hS2 ch2 => ⟨by decide, fun p np => ?_⟩⟩
      have ch12 := ch1.trans ch2
      have ch := ch12.trans (Chg.of (upd_S np (o := .tup [iv (n + 1), .ref a])))
      have np0 : H p = none := by
        cases e : H p with
        | none => rfl
        | some o =>
          obtain ⟨gs5, cs5, l5, t5, S5, _, _⟩ := hS2.sr
          by_cases q1 : p = s
          · subst q1
            rw [S5.hs] at np
            cases np
          · by_cases q2 : p = g
            · subst q2
              rw [S5.hg] at np
              cases np
            · rw [ch12 p o e q1 q2] at np
              cases np
      exact k _ p a (n + 1) ds np0 upd_same (by omega) (by omega) (hd.same (upd_S np)) hok hcn hl ((hS2.same (upd_S np)).le (by omega)) ch
    dsimp only
    rw [e1]
    refine ⟨_, rfl, _, rfl, _, rfl, ?_⟩
    by_cases c0 : 0 < n
    · refine ⟨_, rfl, _, _, rfl, rfl, true, bl_t (by omega), iteT ⟨_, rfl, ?_⟩⟩
      exact fin _ rfl
    · refine ⟨_, rfl, _, _, rfl, rfl, false, bl_f (by omega), iteF ⟨_, rfl, _, _, rfl, ?_⟩⟩
      exact fin _ rfl
theorem ok_law_begun (T : Txt K mg) : FnOk P w K mg base CX0 1 T.law_begun.a T.law_begun.fd ["_law_script"] (spBegun K) := by
  refine T.law_begun.F.ok sc_law_begun (fun vs H Q E h => ?_) (fun cdv A0 outer s H vs Q E hr h => ?_)
  · obtain ⟨a, ns, rfl, _⟩ := h
    rfl
  · obtain ⟨a, ns, rfl, ha, hn, k⟩ := h
    have hz := sizeLine_eq
    have hat : ∀ (i : Nat) x, (ns.map V.int)[i]? = some x → ∃ z, ns[i]? = some z ∧ x = .int z := fun i x h => by
      rw [List.getElem?_map] at h
      cases e : ns[i]? with
      | none => rw [e] at h; cases h
      | some z => rw [e] at h; exact ⟨z, rfl, (Option.some.inj h).symm⟩
    refine ⟨_, PSs.nox (pss_cons (ps_setLc (i := 1) (own := [("_law_cell", 2)]) (g := gName 2) rfl sc_law_begun.nd rfl rfl (sw_true rfl rfl rfl (by decide +kernel)) (pi_list (pv 0)) (blkOk_by (own := [("_law_cell", 2)]) (N := ["_law_script", "_law_great", "_law_cell"]) (sc := defScope s_law_begun) (by decide +kernel)) (fun _ _ _ _ _ => (pg_name (i := 2) sc_law_begun.nd rfl (Or.inl rfl))) (fun _ _ _ _ _ => pts_one (pt_cmpR op_ge (pe_callB call_abs rfl T.m_abs b_abs (pa_cons (pv 2) pa_nil)) (pe_op op_pow pe_int pe_int) (nomark _))) (fun _ _ _ _ _ => (pe_op op_sub (pe_callB call_abs rfl T.m_abs b_abs (pa_cons (pv 2) pa_nil)) (pe_op op_pow pe_int pe_int))))
      (pss_one (ps_ret (pe_disp (pps_cons pe_str (pv 1) (pps_cons pe_str (pe_lc (own := [("_law_cell", 2)]) (g := gName 2) (tt := tYes) rfl sc_law_begun.nd (pi_list (pv 0)) (blkOk_by (own := [("_law_cell", 2)]) (N := ["_law_script", "_law_great", "_law_cell"]) (sc := defScope s_law_begun) (by decide +kernel)) (fun _ _ _ _ _ => (pg_name (i := 2) sc_law_begun.nd rfl (Or.inl rfl))) (fun _ _ _ _ _ => pts_nil) (fun _ _ _ _ _ => (pe_callB call_abs rfl T.m_abs b_abs (pa_cons (pv 2) pa_nil)))) (pps_cons pe_str pe_int (pps_cons pe_str pe_int pps_nil)))) rfl rfl (fun z => by cases z) (by decide))))), ?_⟩
    refine ⟨_, rfl, a, rfl, ⟨_, ha⟩, fun G nG => lc_list (K := K) (a := a) (xs := ns.map V.int) (fun i H' => Same H H' ∧ ∃ gs : List Int, H' G = some (.lst (gs.map V.int)) ∧ gs.length ≤ i) ⟨upd_S nG, [], upd_same, Nat.le_refl _⟩ (fun i H' _ p => p.1.seq ha) ?_ ?_⟩
    · rintro i x H1 hx ⟨s1, gs, hG, hl⟩
      obtain ⟨z, hz1, rfl⟩ := hat i x hx
      have hil := (List.getElem?_eq_some_iff.mp hz1).1
      refine ⟨rfl, _, rfl, _, rfl, _, _, rfl, rfl, ⟨by decide, by decide, by decide⟩, _, _, rfl, rfl, _, rfl, ite2 (fun _ => ?_) (fun _ => ?_)⟩
      · refine ⟨_, rfl, _, rfl, _, _, rfl, rfl, ⟨by decide, by decide, by decide⟩, _, _, rfl, rfl, _, hG, by rw [List.length_map]; omega, same_updN s1 nG, gs ++ [(if z < 0 then -z else z) - 10 ^ Int.toNat 18], ?_, by rw [List.length_append]; simpa using hl⟩
        rw [upd_same, List.map_append]
        rfl
      · exact ⟨s1, gs, hG, by omega⟩
    · rintro H1 ⟨s1, gs, hG, _⟩
      refine fun s ns0 => ?_
      have s2 : Same H1 (upd H1 s (.dK [])) := upd_S ns0
      have hs2 : upd H1 s (.dK []) s = some (.dK []) := upd_same
      generalize upd H1 s (.dK []) = H2 at s2 hs2
      have s02 := s1.trans s2
      refine ⟨_, rfl, _, rfl, a, rfl, ⟨_, s02.seq ha⟩, fun C nC => lcl ((ns.map fun z => if z < 0 then -z else z).map V.int) (s02.seq ha) nC (by simp) (by rw [List.length_map, List.length_map]; omega) (fun i x y H' Nx No hx hy s3 hnx => ?_) (fun H3 s3 hC => ?_)⟩
      · obtain ⟨z, hz1, rfl⟩ := hat i x hx
        rw [List.getElem?_map, List.getElem?_map, hz1] at hy
        cases hy
        exact ⟨rfl, _, rfl, _, rfl, hnx _ (Same.refl _)⟩
      · have hG3 := s3 _ _ (s2 _ _ hG)
        refine ⟨s3 _ _ hs2, stK G C 0 0, rfl, (show 4 ≤ 15 by decide), ?_⟩
        have nGs : G ≠ s := ne_of_none hG ns0
        have nCs : C ≠ s := Ne.symm (ne_of_none hs2 nC)
        have nCG : C ≠ G := Ne.symm (ne_of_none (s2 _ _ hG) nC)
        have nsH : H s = none := s1.free ns0
        refine k _ s G C (same_updN (s02.trans s3) nsH) nsH nG (s02.free nC) (Sr.at (gs := gs) (cs := ns.map fun z => if z < 0 then -z else z) (l := 0) (t := 0) ⟨upd_same, ?_, ?_, nCG⟩ (by decide) (by decide))
        · rw [upd_ne nGs]
          exact hG3
        · rw [upd_ne nCs]
          exact hC
end
end PR
/-! text Mfit -/
set_option Elab.async false
set_option linter.all false
set_option maxRecDepth 100000
set_option maxHeartbeats 4000000
/-! fitting numbers: exponents of 2, 3 and 5 -/
namespace PR
open PySem PySem.Spec PyProof.Rows L2
def pw (a b c : Nat) : Nat := 2 ^ a * 3 ^ b * 5 ^ c
def Szs : List Nat := [1, 2, 3, 4, 5, 6, 8, 9, 12]
theorem quo_all : ∀ a ∈ List.range 3, ∀ b ∈ List.range 3, ∀ c ∈ List.range 2, ∀ f ∈ Szs, pw a b c / Nat.gcd (pw a b c) f = pw (a - vp 2 f) (b - vp 3 f) (c - vp 5 f) ∧ 5003 * pw a b c / Nat.gcd (5003 * pw a b c) f = 5003 * pw (a - vp 2 f) (b - vp 3 f) (c - vp 5 f) ∧ 0 < pw a b c ∧ pw a b c ≤ 180 ∧ 180 % pw a b c = 0 := by decide +kernel
theorem quo_at {a b c f : Nat} (ha : a ≤ 2) (hb : b ≤ 2) (hc : c ≤ 1) (hf : f ∈ Szs) : pw a b c / Nat.gcd (pw a b c) f = pw (a - vp 2 f) (b - vp 3 f) (c - vp 5 f) ∧ 5003 * pw a b c / Nat.gcd (5003 * pw a b c) f = 5003 * pw (a - vp 2 f) (b - vp 3 f) (c - vp 5 f) :=
  ⟨(quo_all a (by simp; omega) b (by simp; omega) c (by simp; omega) f hf).1, (quo_all a (by simp; omega) b (by simp; omega) c (by simp; omega) f hf).2.1⟩
theorem pw_facts {a b c : Nat} (ha : a ≤ 2) (hb : b ≤ 2) (hc : c ≤ 1) : 0 < pw a b c ∧ pw a b c ≤ 180 ∧ pw a b c ∣ 180 := by
  obtain ⟨_, _, h1, h2, h3⟩ := quo_all a (by simp; omega) b (by simp; omega) c (by simp; omega) 1 (by decide)
  exact ⟨h1, h2, Nat.dvd_of_mod_eq_zero h3⟩
/-- lowered exponents, by rooms -/
def LowF (p : Nat) (ds : List Dr) (e : Nat → Nat) : Prop := ∀ d ∈ both ds, e d.n ≤ vp p d.f.natAbs + (e d.m - vp p d.s.natAbs)
theorem LowF.zero (p : Nat) (ds : List Dr) : LowF p ds fun _ => 0 := fun d _ => Nat.zero_le _
theorem Low.fn {p : Nat} {ds : List Dr} {es : List Nat} (h : Low p ds es) : LowF p ds fun r => es.getD r 0 := fun d hd => by
  obtain ⟨x, y, e1, e2, e3⟩ := h d hd
  simp only [List.getD_eq_getElem?_getD, e1, e2, Option.getD_some]
  exact e3
theorem LowF.eq {p : Nat} {ds : List Dr} {e : Nat → Nat} (h : LowF p ds e) {d : Dr} (hd : d ∈ ds) : e d.n - vp p d.f.natAbs = e d.m - vp p d.s.natAbs := by
  have h1 := h d (List.mem_append_left _ hd)
  have h2 := h d.flip (List.mem_append_right _ (List.mem_map.mpr ⟨d, hd, rfl⟩))
  have h2 : e d.m ≤ vp p d.s.natAbs + (e d.n - vp p d.f.natAbs) := h2
  omega
/-- the numbers after so many primes -/
structure FitSt (ds : List Dr) (i : Nat) (f : Nat → Nat) : Prop where
  ex : ∃ e2 e3 e5 : Nat → Nat, (∀ r, f r = pw (e2 r) (e3 r) (e5 r)) ∧ LowF 2 ds e2 ∧ LowF 3 ds e3 ∧ LowF 5 ds e5 ∧ (∀ r, e2 r ≤ 2 ∧ e3 r ≤ 2 ∧ e5 r ≤ 1) ∧ (i = 0 → ∀ r, e2 r = 0) ∧ (i ≤ 1 → ∀ r, e3 r = 0) ∧ (i ≤ 2 → ∀ r, e5 r = 0)
theorem FitSt.zero (ds : List Dr) : FitSt ds 0 fun _ => 1 :=
  ⟨fun _ => 0, fun _ => 0, fun _ => 0, fun _ => rfl, .zero _ _, .zero _ _, .zero _ _, fun _ => ⟨Nat.zero_le _, Nat.zero_le _, Nat.zero_le _⟩, fun _ _ => rfl, fun _ _ => rfl, fun _ _ => rfl⟩
theorem FitSt.skip {ds : List Dr} {f : Nat → Nat} (h : FitSt ds 2 f) : FitSt ds 3 f := by
  obtain ⟨e2, e3, e5, h1, h2, h3, h4, h5, _⟩ := h.ex
  exact ⟨e2, e3, e5, h1, h2, h3, h4, h5, fun h => by omega, fun h => by omega, fun h => by omega⟩
theorem FitSt.step {ds : List Dr} {i p : Nat} {f : Nat → Nat} (h : FitSt ds i f) (hp : i = 0 ∧ p = 2 ∨ i = 1 ∧ p = 3 ∨ i = 2 ∧ p = 5) {es : List Nat} (hl : Low p ds es) (hb : ∀ x ∈ es, x ≤ 2 ∧ (p = 5 → x ≤ 1)) :
    FitSt ds (i + 1) fun r => f r * p ^ es.getD r 0 := by
  obtain ⟨e2, e3, e5, h1, h2, h3, h4, h5, h6, h7, h8⟩ := h.ex
  have hb' : ∀ r, es.getD r 0 ≤ 2 ∧ (p = 5 → es.getD r 0 ≤ 1) := fun r => by
    rw [List.getD_eq_getElem?_getD]
    cases e : es[r]? with
    | none => exact ⟨by simp, fun _ => by simp⟩
    | some x => exact hb x (List.mem_of_getElem? e)
  rcases hp with ⟨rfl, rfl⟩ | ⟨rfl, rfl⟩ | ⟨rfl, rfl⟩
  · refine ⟨fun r => es.getD r 0, e3, e5, fun r => ?_, hl.fn, h3, h4, fun r => ⟨(hb' r).1, (h5 r).2.1, (h5 r).2.2⟩, fun h => by omega, fun _ => h7 (by omega), fun _ => h8 (by omega)⟩
    rw [h1 r, h6 rfl r]
    simp only [pw, Nat.pow_zero, Nat.one_mul]
    rw [Nat.mul_comm, Nat.mul_assoc]
  · refine ⟨e2, fun r => es.getD r 0, e5, fun r => ?_, h2, hl.fn, h4, fun r => ⟨(h5 r).1, (hb' r).1, (h5 r).2.2⟩, fun h => by omega, fun h => by omega, fun _ => h8 (by omega)⟩
    rw [h1 r, h7 (Nat.le_refl _) r]
    simp only [pw, Nat.pow_zero, Nat.mul_one]
    rw [Nat.mul_assoc, Nat.mul_assoc, Nat.mul_comm (5 ^ e5 r)]
  · refine ⟨e2, e3, fun r => es.getD r 0, fun r => ?_, h2, h3, hl.fn, fun r => ⟨(h5 r).1, (h5 r).2.1, (hb' r).2 rfl⟩, fun h => by omega, fun h => by omega, fun h => by omega⟩
    rw [h1 r, h8 (Nat.le_refl _) r]
    simp only [pw, Nat.pow_zero, Nat.mul_one]
theorem SzOk.mem {z : Int} (h : SzOk z) : z.natAbs ∈ Szs := h
theorem FitSt.fit {ds : List Dr} {i R : Nat} {f : Nat → Nat} (h : FitSt ds i f) (hok : ∀ d ∈ ds, DrOk R d) : FitOk ds ((List.range R).map f) ∧ FitOk ds ((List.range R).map fun r => 5003 * f r) ∧ ∀ n ∈ (List.range R).map f, Num n := by
  obtain ⟨e2, e3, e5, h1, h2, h3, h4, h5, _⟩ := h.ex
  refine ⟨fun d hd => ?_, fun d hd => ?_, fun n hn => ?_⟩
  · obtain ⟨q1, q2, q3, q4⟩ := hok d hd
    refine ⟨f d.n, f d.m, rng_at q1, rng_at q2, ?_⟩
    obtain ⟨a1, a2, a3⟩ := h5 d.n
    obtain ⟨b1, b2, b3⟩ := h5 d.m
    rw [h1, h1, (quo_at a1 a2 a3 q3.mem).1, (quo_at b1 b2 b3 q4.mem).1, h2.eq hd, h3.eq hd, h4.eq hd]
  · obtain ⟨q1, q2, q3, q4⟩ := hok d hd
    refine ⟨5003 * f d.n, 5003 * f d.m, rng_at q1, rng_at q2, ?_⟩
    obtain ⟨a1, a2, a3⟩ := h5 d.n
    obtain ⟨b1, b2, b3⟩ := h5 d.m
    rw [h1, h1, (quo_at a1 a2 a3 q3.mem).2, (quo_at b1 b2 b3 q4.mem).2, h2.eq hd, h3.eq hd, h4.eq hd]
  · obtain ⟨r, _, rfl⟩ := List.mem_map.mp hn
    obtain ⟨a1, a2, a3⟩ := h5 r
    exact ⟨_, _, _, a1, a2, a3, h1 r⟩
theorem Num.facts {n : Nat} (h : Num n) : 0 < n ∧ n ≤ 180 ∧ n ∣ 180 := by
  obtain ⟨a, b, c, ha, hb, hc, rfl⟩ := h
  exact pw_facts ha hb hc
theorem fit_great {ds : List Dr} {R : Nat} {ns : List Nat} (h : FitOk ds ns) (hn : ∀ n ∈ ns, Num n) (hok : ∀ d ∈ ds, DrOk R d) : FitOk ds (ns.map fun n => 5003 * n) := fun d hd => by
  obtain ⟨x, y, e1, e2, e3⟩ := h d hd
  obtain ⟨_, _, q3, q4⟩ := hok d hd
  obtain ⟨a, b, c, ha, hb, hc, rfl⟩ := hn x (List.mem_of_getElem? e1)
  obtain ⟨a', b', c', ha', hb', hc', rfl⟩ := hn y (List.mem_of_getElem? e2)
  refine ⟨5003 * pw a b c, 5003 * pw a' b' c', by rw [List.getElem?_map, e1]; rfl, by rw [List.getElem?_map, e2]; rfl, ?_⟩
  have k1 := quo_at ha hb hc q3.mem
  have k2 := quo_at ha' hb' hc' q4.mem
  have e3 : pw a b c / Nat.gcd (pw a b c) d.f.natAbs = pw a' b' c' / Nat.gcd (pw a' b' c') d.s.natAbs := e3
  rw [k1.2, k2.2, ← k1.1, ← k2.1, e3]
theorem foldl_lcm_dvd_of : ∀ (ns : List Nat) (a m : Nat), a ∣ m → (∀ n ∈ ns, n ∣ m) → ns.foldl Nat.lcm a ∣ m
  | [], a, m, h, _ => h
  | n :: ns, a, m, h, hn => foldl_lcm_dvd_of ns _ m (Nat.lcm_dvd h (hn n (by simp))) fun k hk => hn k (.tail _ hk)
theorem lcm_num {ns : List Nat} (h : ∀ n ∈ ns, Num n) : lcmL ns ≤ 180 :=
  Nat.le_of_dvd (by decide) (foldl_lcm_dvd_of ns 1 180 (Nat.one_dvd _) fun n hn => (h n hn).facts.2.2)
theorem lcm_great {ns : List Nat} (h : ∀ n ∈ ns, Num n) (h0 : 0 < ns.length) : 5000 < lcmL (ns.map fun n => 5003 * n) := by
  cases ns with
  | nil => cases h0
  | cons n ns =>
    have hp : ∀ m ∈ (n :: ns).map fun n => 5003 * n, 0 < m := fun m hm => by
      obtain ⟨k, hk, rfl⟩ := List.mem_map.mp hm
      have := (h k hk).facts.1
      show 0 < 5003 * k
      omega
    have d : 5003 * n ∣ lcmL ((n :: ns).map fun n => 5003 * n) := dvd_lcmL (by simp)
    have := Nat.le_of_dvd (lcmL_pos hp) d
    have := (h n (by simp)).facts.1
    omega
theorem set_map_range {R j v : Nat} {f : Nat → Nat} (h : j < R) : ((List.range R).map f).set j v = (List.range R).map fun r => if r = j then v else f r := by
  refine List.ext_getElem? fun i => ?_
  by_cases c : j = i
  · subst c
    rw [List.getElem?_set_self (by simpa using h), rng_at h, if_pos rfl]
  · rw [List.getElem?_set_ne c]
    rcases Nat.lt_or_ge i R with z | z
    · rw [rng_at z, rng_at z, if_neg (fun q => c q.symm)]
    · rw [List.getElem?_eq_none (by simpa using z), List.getElem?_eq_none (by simpa using z)]
end PR
/-! text Wr9 -/
set_option Elab.async false
set_option linter.all false
set_option maxRecDepth 100000
set_option maxHeartbeats 4000000
namespace PR
open PySem PySem.Spec PyProof.Rows L2
section
variable {X : Cx}
/-- an if whose body is shown once, from what Mid says of the heap -/
def tIfC (c : TT) (t u : TS) : TS := fun D σ H => ∃ Mid : Hp → Prop, c σ H (fun b H1 => if b = true then Mid H1 else u D σ H1) ∧ ∀ H1, Mid H1 → t D σ H1
theorem ps_ifC {c : Expr} {a b : List Stmt} {pos : Pos} {tc : TT} {t u : TS} (hc : PT X c tc) (ha : PSs X a t) (hb : PSs X b u) : PS X (.If c a b pos) (tIfC tc t u) := by
  refine ⟨fun pins s σ H D I h => ?_⟩
  obtain ⟨Mid, h1, h2⟩ := h
  refine wpAny_If (thn (hc.run pins s σ H _ I h1) fun d s1 q => ?_)
  obtain ⟨H1, I1, q1⟩ := q
  cases d with
  | false => exact hb.run pins s1 σ H1 D I1 q1
  | true => exact ha.run pins s1 σ H1 D I1 (h2 H1 q1)
end
end PR
/-! text W22 -/
set_option Elab.async false
set_option linter.all false
set_option maxRecDepth 100000
set_option maxHeartbeats 4000000
namespace PR
open PySem PySem.Spec PyProof.Rows L2
theorem lst_src {s g c : Addr} {T : Int} {H H' : Hp} {F : Addr} {xs : List V} (m : H F = some (.lst xs)) (st : StAt H s g c T) (n : F ≠ g) (e : Chg s g H H') : H' F = some (.lst xs) := by
  obtain ⟨gs, cs, l, t, S, _, _⟩ := st.sr
  exact e _ _ m (ne_of m S.hs (by intro z; cases z)) n
theorem getD_at {l : List Nat} {j x : Nat} (h : l[j]? = some x) : l.getD j 0 = x := by rw [List.getD_eq_getElem?_getD, h]; rfl
section
variable {P : Program} {w : World} {K : PySem.W.Frag} {mg : Str → Option Value} {base : Heap}
theorem ok_law_fitting (T : Txt K mg) : FnOk P w K mg base CX0 4 T.law_fitting.a T.law_fitting.fd ["_law_state", "_law_doors_here", "_law_rooms_here"] spFitting := by
  refine T.law_fitting.F.ok sc_law_fitting (fun vs H Q E h => ?_) (fun cdv A0 outer s H vs Q E hr h => ?_)
  · obtain ⟨s, g, c, a, T0, R, ds, rfl, _⟩ := h
    rfl
  · obtain ⟨s, g, c, a, Tn, R, ds, rfl, hR, hR4, hd, hds, hz, hS, hT, k⟩ := h
    obtain ⟨gs, cs, ll, t, S, t0, t1⟩ := hS.sr
    have hsz := sizeLine_eq
    unfold tMax at hT
    refine ⟨_, PSs.nox (pss_cons (ps_set (i := 3) sc_law_fitting.nd rfl (Or.inl rfl) (pe_op op_rep (pe_lst (pa_cons pe_int pa_nil)) (pv 2)))
      (pss_cons (ps_for PassesOwn.never rfl (pi_list (pe_lst (pa_cons pe_int (pa_cons pe_int (pa_cons pe_int pa_nil))))) (pg_name (i := 4) sc_law_fitting.nd rfl (Or.inl rfl)) (pss_one (ps_ifC (PW.pt (pw_or (pt_cmpR op_lt (pv 4) pe_int (nomark _)) (pw_or1 (pt_cmpR op_eq (T.law_draw.call (ok_law_draw T) (hr.mono (by decide)) rfl (pa_cons (pv 0) (pa_cons pe_int pa_nil))) pe_int (nomark _))))) (C8.pss_cut (ps_set (i := 5) sc_law_fitting.nd rfl (Or.inr rfl) (pe_ifExp (pt_cmpR op_lt (pv 4) pe_int (nomark _)) (pe_lst (pa_cons pe_int (pa_cons pe_int (pa_cons pe_int (pa_cons pe_int pa_nil))))) (pe_lst (pa_cons pe_int (pa_cons pe_int pa_nil)))))
      (pss_cons (ps_set (i := 7) sc_law_fitting.nd rfl (Or.inl rfl) (T.law_lowered.call (ok_law_lowered T) (hr.mono (by decide)) rfl (pa_cons (pv 1) (pa_cons (pv 4) (pa_cons (pe_lc (own := [("_law_room_here", 6)]) (g := gName 6) (tt := tYes) rfl sc_law_fitting.nd (pi_range1 rfl T.m_range (pa_cons (pv 2) pa_nil)) (blkOk_by (own := [("_law_room_here", 6)]) (N := ["_law_state", "_law_doors_here", "_law_rooms_here", "_law_found", "_law_prime", "_law_menu", "_law_room_here", "_law_some", "_law_turn"]) (sc := defScope s_law_fitting) (by decide +kernel)) (fun _ _ _ _ _ => (pg_name (i := 6) sc_law_fitting.nd rfl (Or.inl rfl))) (fun _ _ _ _ _ => pts_nil) (fun _ _ _ _ _ => (T.law_pick.call (ok_law_pick T) (hr.mono (by decide)) rfl (pa_cons (pv 0) (pa_cons (pv 5) pa_nil))))) pa_nil)))))
      (pss_one (ps_for PassesOwn.never rfl (pi_range1 rfl T.m_range (pa_cons (pv 2) pa_nil)) (pg_name (i := 6) sc_law_fitting.nd rfl (Or.inl rfl)) (pss_one (ps_for PassesOwn.never rfl (pi_range1 rfl T.m_range (pa_cons (pe_ix ix_list (pv 7) (pv 6) (fun _ _ => rfl)) pa_nil)) (pg_name (i := 8) sc_law_fitting.nd rfl (Or.inl rfl)) (pss_one (ps_asg (pe_op op_mul (pe_ix ix_list (pv 3) (pv 6) (fun _ _ => rfl)) (pv 4)) (pg_sub (pv 3) (pv 6) set_list))))))))) pss_nil)))
      (pss_one (ps_ret (pe_callTy call_tuple_of rfl T.m_tuple b_tuple (pa_cons (pv 3) pa_nil)))))), ?_⟩
    refine ⟨(show 1 ≤ sizeLine by decide), fun o no => ⟨_, rfl, o, _, _, rfl, rfl, upd_same, by omega, by omega, by rw [Int.toNat_natCast, List.length_singleton]; omega, fun F nF => ?_⟩⟩
    rw [Int.toNat_natCast, flat_rep]
    have s0 : Same H (upd H o (.lst [.int 1])) := upd_S no
    have nF0 := s0.free nF
    have s1 : Same H (upd (upd H o (.lst [.int 1])) F (.lst (List.replicate R (.int 1)))) := s0.trans (upd_S nF)
    have hF : upd (upd H o (.lst [.int 1])) F (.lst (List.replicate R (.int 1))) F = some (.lst (ivs ((List.range R).map fun _ => 1))) := by
      rw [upd_same]
      congr 2
      refine List.ext_getElem? fun i => ?_
      rcases Nat.lt_or_ge i R with z | z
      · rw [List.getElem?_replicate, if_pos z, iv_at (rng_at z)]
        rfl
      · rw [List.getElem?_eq_none (by simpa using z), List.getElem?_eq_none (by simpa using z)]
    generalize upd (upd H o (.lst [.int 1])) F (.lst (List.replicate R (.int 1))) = H1 at s1 hF
    have nFg : F ≠ g := Ne.symm (ne_of_none S.hg nF0)
    have nFs : F ≠ s := Ne.symm (ne_of_none S.hs nF0)
    have nFc : F ≠ c := Ne.symm (ne_of_none S.hc nF0)
    refine ⟨(show 3 ≤ sizeLine by decide), fun p np => ?_⟩
    have s2 : Same H1 (upd H1 p (.lst [.int 2, .int 3, .int 5])) := upd_S np
    have hp : upd H1 p (.lst [.int 2, .int 3, .int 5]) p = some (.lst [.int 2, .int 3, .int 5]) := upd_same
    have nFp : F ≠ p := ne_of_none hF np
    have nP0 : H p = none := s1.free np
    have nPg : p ≠ g := Ne.symm (ne_of_none S.hg nP0)
    generalize upd H1 p (.lst [.int 2, .int 3, .int 5]) = H2 at s2 hp
    have s02 := s1.trans s2
    -- the state after so many primes
    refine ⟨p, rfl, ⟨_, SqL.of hp⟩, for_list (K := K) (a := p) (xs := [.int 2, .int 3, .int 5]) (fun i σ H' => ∃ (f : Nat → Nat) (v4 v5 v6 v7 v8 : Option V), σ = [some (.ref s), some (.ref a), some (iv R), some (.ref F), v4, v5, v6, v7, v8] ∧ Chg s g H H' ∧ StAt H' s g c (Tn + 10 * i) ∧ H' p = some (.lst [.int 2, .int 3, .int 5]) ∧ H' F = some (.lst (ivs ((List.range R).map f))) ∧ FitSt ds i f)
      ⟨fun _ => 1, _, _, _, _, _, rfl, Chg.of s02, (hS.same s02).le (by omega), hp, s2 _ _ hF, .zero ds⟩ (fun i σ H' _ q => ?_) ?_ ?_⟩
    · obtain ⟨_, _, _, _, _, _, _, _, _, z, _⟩ := q
      exact SqL.of z
    · rintro i x σ H3 hx ⟨f, v4, v5, v6, v7, v8, rfl, ch3, hS3, hp3, hF3, hf⟩
      obtain ⟨q, rfl, hq, hi⟩ : ∃ q : Nat, x = iv q ∧ (i = 0 ∧ q = 2 ∨ i = 1 ∧ q = 3 ∨ i = 2 ∧ q = 5) ∧ i < 3 := by
        match i, hx with
        | 0, hx => exact ⟨2, (Option.some.inj hx).symm, .inl ⟨rfl, rfl⟩, by omega⟩
        | 1, hx => exact ⟨3, (Option.some.inj hx).symm, .inr (.inl ⟨rfl, rfl⟩), by omega⟩
        | 2, hx => exact ⟨5, (Option.some.inj hx).symm, .inr (.inr ⟨rfl, rfl⟩), by omega⟩
      refine ⟨fun H' => Chg s g H H' ∧ StAt H' s g c (Tn + 10 * i + 1) ∧ H' p = some (.lst [.int 2, .int 3, .int 5]) ∧ H' F = some (.lst (ivs ((List.range R).map f))), ?_, ?_⟩
      · by_cases c5 : q < 5
        · exact ⟨_, rfl, _, _, rfl, rfl, true, bl_t (by omega), iteT ⟨ch3, hS3.le (by omega), hp3, hF3⟩⟩
        · have e : i = 2 ∧ q = 5 := by omega
          obtain ⟨rfl, rfl⟩ := e
          refine ⟨_, rfl, _, _, rfl, rfl, false, bl_f (by omega), iteF ?_⟩
          refine ⟨_, rfl, s, g, c, _, _, rfl, by decide, by decide, hS3, by unfold tMax; omega, fun r H4 r0 r1 hS4 ch4 => ?_⟩
          have hp4 := lst_src hp3 hS3 nPg ch4
          have hF4 := lst_src hF3 hS3 nFg ch4
          by_cases e : r = 0
          · subst e
            exact ⟨rfl, true, bl_t rfl, iteT ⟨ch3.trans ch4, hS4.le (by omega), hp4, hF4⟩⟩
          · exact ⟨rfl, false, bl_f (fun z => e (V.int.inj z)), iteF ⟨f, _, _, _, _, _, rfl, ch3.trans ch4, hS4.le (by omega), hp4, hF4, hf.skip⟩⟩
      · rintro H4 ⟨ch4, hS4, hp4, hF4⟩
        refine ⟨fun σ H' => ∃ (M : Addr) (ms : List Nat) (v6 v7 v8 : Option V), σ = [some (.ref s), some (.ref a), some (iv R), some (.ref F), some (iv q), some (.ref M), v6, v7, v8] ∧ Same H4 H' ∧ H4 M = none ∧ H' M = some (.lst (ivs ms)) ∧ 0 < ms.length ∧ ms.length < 1000 ∧ ∀ x ∈ ms, x ≤ 2 ∧ (q = 5 → x ≤ 1), ?_, ?_⟩
        · by_cases c5 : q < 5
          · exact ⟨_, rfl, _, _, rfl, rfl, true, bl_t (by omega), iteT ⟨(show 4 ≤ sizeLine by decide), fun M nM => ⟨M, [0, 1, 1, 2], _, _, _, rfl, upd_S nM, nM, upd_same, by decide, by decide, fun x hx => ⟨by revert hx; revert x; decide, fun z => by omega⟩⟩⟩⟩
          · exact ⟨_, rfl, _, _, rfl, rfl, false, bl_f (by omega), iteF ⟨(show 2 ≤ sizeLine by decide), fun M nM => ⟨M, [0, 1], _, _, _, rfl, upd_S nM, nM, upd_same, by decide, by decide, fun x hx => ⟨by revert hx; revert x; decide, fun _ => by revert hx; revert x; decide⟩⟩⟩⟩
        rintro σ H5 ⟨M, ms, v6, v7, v8, rfl, s5, nM4, hM5, m0, m1, hms⟩
        obtain ⟨gs4, cs4, l4, t4, S4, _, _⟩ := hS4.sr
        have nMg : M ≠ g := Ne.symm (ne_of_none S4.hg nM4)
        have hS5 := hS4.same s5
        have ch5 := ch4.trans (Chg.of s5)
        have hp5 := s5 _ _ hp4
        have hF5 := s5 _ _ hF4
        have hd5 : DoorsAt H5 a ds := hd.chgT hS ch5
        refine ⟨_, rfl, _, rfl, _, rfl, _, rfl, by omega, by omega, ?_⟩
        rw [Int.toNat_natCast]
        refine fun D nD => lc_range (lo := 0) (n := R) (fun j H' => ∃ es : List Nat, Chg s g H5 H' ∧ StAt H' s g c (Tn + 10 * i + 1 + j) ∧ H' M = some (.lst (ivs ms)) ∧ H' p = some (.lst [.int 2, .int 3, .int 5]) ∧ H' F = some (.lst (ivs ((List.range R).map f))) ∧ H' D = some (.lst (ivs es)) ∧ es.length = j ∧ ∀ x ∈ es, x ≤ 2 ∧ (q = 5 → x ≤ 1))
          ⟨[], Chg.of (upd_S nD), (hS5.same (upd_S nD)).le (by omega), upd_S nD _ _ hM5, upd_S nD _ _ hp5, upd_S nD _ _ hF5, upd_same, rfl, fun x h => nomatch h⟩ ?_ ?_
        · rintro j H6 hj ⟨es, ch6, hS6, hM6, hp6, hF6, hD6, le6, hes⟩
          obtain ⟨gs5, cs5, l5, t5, S5, _, _⟩ := hS5.sr
          have nDg : D ≠ g := Ne.symm (ne_of_none S5.hg nD)
          have nDs : D ≠ s := Ne.symm (ne_of_none S5.hs nD)
          have nDc : D ≠ c := Ne.symm (ne_of_none S5.hc nD)
          refine ⟨rfl, _, rfl, _, rfl, s, g, c, M, _, _, rfl, hM6, nMg, by rw [ivs_len]; exact m0, by rw [ivs_len]; exact m1, hS6, by unfold tMax; omega, fun v H7 hv hS7 ch7 => ?_⟩
          obtain ⟨x, hx, rfl⟩ := List.mem_map.mp hv
          have hM7 := lst_src hM6 hS6 nMg ch7
          have hp7 := lst_src hp6 hS6 nPg ch7
          have hF7 := lst_src hF6 hS6 nFg ch7
          have hD7 := lst_src hD6 hS6 nDg ch7
          obtain ⟨gs7, cs7, l7, t7, S7, t70, t71⟩ := hS7.sr
          refine ⟨_, hD7, by rw [ivs_len]; omega, es ++ [x], ?_, ?_, ?_, ?_, ?_, ?_, by rw [List.length_append, le6]; rfl, fun y hy => ?_⟩
          · intro b o hb n1 n2
            rw [upd_ne (ne_of_none hb nD)]
            exact ch7 _ _ (ch6 b o hb n1 n2) n1 n2
          · exact (Sr.at (gs := gs7) (cs := cs7) (l := l7) (t := t7) ⟨by rw [upd_ne (Ne.symm nDs)]; exact S7.hs, by rw [upd_ne (Ne.symm nDg)]; exact S7.hg, by rw [upd_ne (Ne.symm nDc)]; exact S7.hc, S7.hn⟩ t70 t71).le (by omega)
          · rw [upd_ne (ne_of_none hM5 nD)]
            exact hM7
          · rw [upd_ne (ne_of_none hp5 nD)]
            exact hp7
          · rw [upd_ne (ne_of_none hF5 nD)]
            exact hF7
          · rw [upd_same, ivs_snoc]
          · rcases List.mem_append.mp hy with z | z
            · exact hes y z
            · rw [List.mem_singleton] at z
              subst z
              exact hms y hx
        · rintro H6 ⟨es, ch6, hS6, hM6, hp6, hF6, hD6, le6, hes⟩
          have hd6 : DoorsAt H6 a ds := hd5.chgT hS5 ch6
          refine ⟨a, D, q, R, ds, es, rfl, hd6, hds, hz, hD6, le6, by omega, by omega, fun H7 Z fs s7 nZ hZ lf hle hlow => ?_⟩
          have hfs : ∀ x ∈ fs, x ≤ 2 ∧ (q = 5 → x ≤ 1) := fun x hx => by
            obtain ⟨j, hj⟩ := List.mem_iff_getElem?.mp hx
            have hjl : j < es.length := by rw [le6, ← lf]; exact (List.getElem?_eq_some_iff.mp hj).1
            have he := List.getElem?_eq_getElem hjl
            have h1 := hle j x _ hj he
            obtain ⟨h2, h3⟩ := hes _ (List.mem_of_getElem? he)
            exact ⟨by omega, fun z => by have := h3 z; omega⟩
          have hF7 := s7 _ _ hF6
          have hp7 := s7 _ _ hp6
          have nFZ : Z ≠ F := Ne.symm (ne_of_none hF6 nZ)
          have hS7 := hS6.same s7
          have ch7 := (ch5.trans ch6).trans (Chg.of s7)
          refine ⟨_, rfl, R, rfl, by omega, by omega, ?_⟩
          rw [Int.toNat_natCast]
          refine for_range (lo := 0) (n := R) (fun j σ H' => ∃ (v6 v8 : Option V), σ = [some (.ref s), some (.ref a), some (iv R), some (.ref F), some (iv q), some (.ref M), v6, some (.ref Z), v8] ∧ Chg s g H H' ∧ StAt H' s g c (Tn + 10 * i + 10) ∧ H' p = some (.lst [.int 2, .int 3, .int 5]) ∧ H' Z = some (.lst (ivs fs)) ∧ H' F = some (.lst (ivs ((List.range R).map fun r => if r < j then f r * q ^ fs.getD r 0 else f r))))
            ⟨_, _, rfl, ch7, hS7.le (by omega), hp7, hZ, ?_⟩ ?_ ?_
          · rw [hF7]
            congr 3
          · rintro j σ H8 hj ⟨v6, v8, rfl, ch8, hS8, hp8, hZ8, hF8⟩
            rw [show (0 : Int) + (j : Int) = (j : Int) by omega]
            obtain ⟨y, hy⟩ : ∃ y, fs[j]? = some y := ⟨_, List.getElem?_eq_getElem (by omega)⟩
            have hy2 := (hfs y (List.mem_of_getElem? hy)).1
            refine ⟨_, rfl, _, rfl, Z, _, _, _, rfl, rfl, SqL.of hZ8, atI_nat (iv_at hy), _, rfl, by omega, by omega, ?_⟩
            rw [Int.toNat_natCast]
            refine for_range (lo := 0) (n := y) (fun n σ H' => ∃ (v8 : Option V), σ = [some (.ref s), some (.ref a), some (iv R), some (.ref F), some (iv q), some (.ref M), some (iv j), some (.ref Z), v8] ∧ Chg s g H H' ∧ StAt H' s g c (Tn + 10 * i + 10) ∧ H' p = some (.lst [.int 2, .int 3, .int 5]) ∧ H' Z = some (.lst (ivs fs)) ∧ H' F = some (.lst (ivs ((List.range R).map fun r => if r < j then f r * q ^ fs.getD r 0 else if r = j then f r * q ^ n else f r))))
              ⟨_, rfl, ch8, hS8, hp8, hZ8, ?_⟩ ?_ ?_
            · rw [hF8]
              congr 4
              funext r
              split
              · rfl
              · split
                · rw [Nat.pow_zero, Nat.mul_one]
                · rfl
            · rintro n σ H9 hn ⟨v8, rfl, ch9, hS9, hp9, hZ9, hF9⟩
              have hat : ((List.range R).map fun r => if r < j then f r * q ^ fs.getD r 0 else if r = j then f r * q ^ n else f r)[j]? = some (f j * q ^ n) := by
                rw [rng_at hj, if_neg (by omega), if_pos rfl]
              obtain ⟨gs9, cs9, l9, t9, S9, t90, t91⟩ := hS9.sr
              refine ⟨_, rfl, _, rfl, F, _, _, _, rfl, rfl, SqL.of hF9, atI_nat (iv_at hat), _, rfl, _, _, rfl, rfl, cmul_r (by omega), ?_⟩
              refine ⟨_, rfl, _, rfl, F, _, _, j, rfl, rfl, hF9, ixN_nat (by rw [ivs_len, List.length_map, List.length_range]; exact hj), _, rfl, ?_, ?_, ?_, ?_, ?_⟩
              · intro b o hb n1 n2
                rw [upd_ne (ne_of_none hb nF0)]
                exact ch9 b o hb n1 n2
              · exact (Sr.at (gs := gs9) (cs := cs9) (l := l9) (t := t9) ⟨by rw [upd_ne (Ne.symm nFs)]; exact S9.hs, by rw [upd_ne (Ne.symm nFg)]; exact S9.hg, by rw [upd_ne (Ne.symm nFc)]; exact S9.hc, S9.hn⟩ t90 t91)
              · rw [upd_ne (Ne.symm nFp)]
                exact hp9
              · rw [upd_ne nFZ]
                exact hZ9
              · rw [upd_same]
                have ev : V.int (((f j * q ^ n : Nat) : Int) * (q : Int)) = iv (f j * q ^ (n + 1)) := by
                  show V.int _ = V.int _
                  congr 1
                  rw [Nat.pow_succ, ← Nat.mul_assoc, Int.natCast_mul (f j * q ^ n) q]
                have e2 : (ivs ((List.range R).map fun r => if r < j then f r * q ^ fs.getD r 0 else if r = j then f r * q ^ n else f r)).set j (iv (f j * q ^ (n + 1))) = ivs ((List.range R).map fun r => if r < j then f r * q ^ fs.getD r 0 else if r = j then f r * q ^ (n + 1) else f r) := by
                  rw [ivs, ← List.map_set, set_map_range hj]
                  congr 2
                  funext r
                  split
                  · next e => subst e; simp
                  · rfl
                show some (HO.lst ((ivs _).set j (V.int (((f j * q ^ n : Nat) : Int) * (q : Int))))) = _
                rw [ev, e2]
            · rintro σ H9 ⟨v8, rfl, ch9, hS9, hp9, hZ9, hF9⟩
              refine ⟨_, _, rfl, ch9, hS9, hp9, hZ9, ?_⟩
              rw [hF9]
              congr 4
              funext r
              by_cases c1 : r < j
              · rw [if_pos c1, if_pos (by omega)]
              · rw [if_neg c1]
                by_cases c2 : r = j
                · subst c2
                  rw [if_pos rfl, if_pos (by omega), getD_at hy]
                · rw [if_neg c2, if_neg (by omega)]
          · rintro σ H8 ⟨v6, v8, rfl, ch8, hS8, hp8, hZ8, hF8⟩
            refine ⟨fun r => f r * q ^ fs.getD r 0, _, _, _, _, _, rfl, ch8, hS8.le (by omega), hp8, ?_, hf.step hq hlow hfs⟩
            rw [hF8]
            congr 3
            refine List.map_congr_left fun r hr => ?_
            rw [if_pos (List.mem_range.mp hr)]
    · rintro σ H3 ⟨f, v4, v5, v6, v7, v8, rfl, ch3, hS3, hp3, hF3, hf⟩
      obtain ⟨h1, h2, h3⟩ := hf.fit (R := R) hds
      refine ⟨_, rfl, F, _, rfl, .inl ⟨SqL.of hF3, fun l nl => ?_⟩⟩
      refine k _ l ((List.range R).map f) ?_ upd_same (by simp) h3 h1 ((hS3.same (upd_S nl)).le (by simp)) (ch3.trans (Chg.of (upd_S nl)))
      cases e : H l with
      | none => rfl
      | some o =>
        obtain ⟨gs5, cs5, l5, t5, S5, _, _⟩ := hS3.sr
        by_cases q1 : l = s
        · subst q1
          rw [S5.hs] at nl
          cases nl
        · by_cases q2 : l = g
          · subst q2
            rw [S5.hg] at nl
            cases nl
          · rw [ch3 l o e q1 q2] at nl
            cases nl
end
end PR
/-! text Wr10 -/
set_option Elab.async false
set_option linter.all false
set_option maxRecDepth 100000
set_option maxHeartbeats 4000000
/-! equal lists and tuples of whole numbers -/
namespace PR
open PySem PySem.Spec PyProof.Rows L2
abbrev dI (ns : List Nat) : List PyData := ns.map fun (n : Nat) => PyData.int (n : Int)
theorem dp_all {K : PySem.W.Frag} {H : Hp} : ∀ ns : List Nat, DpAll K H (ivs ns) (dI ns)
  | [] => .nil
  | n :: ns => .cons (.int n) (dp_all ns)
theorem lay_all : ∀ ns : List Nat, PyData.canLayAll0 (dI ns) = true
  | [] => rfl
  | n :: ns => by
    show (PyData.canLay0 (.int (n : Int)) && PyData.canLayAll0 (dI ns)) = true
    rw [lay_all ns]
    rfl
theorem dep_all : ∀ ns : List Nat, PyData.depthAll (dI ns) = 0
  | [] => rfl
  | n :: ns => by
    show max (PyData.depth (.int (n : Int))) (PyData.depthAll (dI ns)) = 0
    rw [dep_all ns]
    rfl
theorem eqv_all : ∀ ns : List Nat, PyData.eqvAll (dI ns) (dI ns) = true
  | [] => rfl
  | n :: ns => by
    show (PyData.eqv (.int (n : Int)) (.int (n : Int)) && PyData.eqvAll (dI ns) (dI ns)) = true
    rw [eqv_all ns]
    show (((n : Int) == (n : Int)) && true) = true
    simp
theorem shp_list (ns : List Nat) : SeqAt.shaped (.list (dI ns)) = true := by
  unfold SeqAt.shaped
  rw [show PyData.canLay0 (.list (dI ns)) = PyData.canLayAll0 (dI ns) from rfl, lay_all, show PyData.depth (.list (dI ns)) = PyData.depthAll (dI ns) + 1 from rfl, dep_all]
  rfl
theorem shp_tup (ns : List Nat) : SeqAt.shaped (.tuple (dI ns)) = true := by
  unfold SeqAt.shaped
  rw [show PyData.canLay0 (.tuple (dI ns)) = PyData.canLayAll0 (dI ns) from rfl, lay_all, show PyData.depth (.tuple (dI ns)) = PyData.depthAll (dI ns) + 1 from rfl, dep_all]
  rfl
theorem ne_lists {K : PySem.W.Frag} {H : Hp} {a b : Addr} {ns : List Nat} {Q : VK} (ha : SqL K H a (ivs ns)) (hb : SqL K H b (ivs ns)) (q : Q (.bl false) H) : rNeD K (.ref a) (.ref b) H Q := by
  refine ⟨_, _, .lst ha (dp_all ns), .lst hb (dp_all ns), shp_list ns, shp_list ns, ?_⟩
  rw [show PyData.eqv (.list (dI ns)) (.list (dI ns)) = PyData.eqvAll (dI ns) (dI ns) from rfl, eqv_all]
  exact q
theorem ne_tuples {K : PySem.W.Frag} {H : Hp} {a b : Addr} {ns : List Nat} {Q : VK} (ha : SqT K H a (ivs ns)) (hb : SqT K H b (ivs ns)) (q : Q (.bl false) H) : rNeD K (.ref a) (.ref b) H Q := by
  refine ⟨_, _, .tup ha (dp_all ns), .tup hb (dp_all ns), shp_tup ns, shp_tup ns, ?_⟩
  rw [show PyData.eqv (.tuple (dI ns)) (.tuple (dI ns)) = PyData.eqvAll (dI ns) (dI ns) from rfl, eqv_all]
  exact q
abbrev dII (ns : List Nat) : List PyData := ns.map fun (n : Nat) => PyData.list [.int (n : Int)]
theorem dp_all2 {K : PySem.W.Frag} {H : Hp} : ∀ (ns : List Nat) (as : List Addr), as.length = ns.length → (∀ (j : Nat) n, ns[j]? = some n → ∃ p, as[j]? = some p ∧ H p = some (.lst [iv n])) → DpAll K H (as.map V.ref) (dII ns)
  | [], [], _, _ => .nil
  | n :: ns, a :: as, hl, h => by
    obtain ⟨p, e1, e2⟩ := h 0 n rfl
    cases e1
    exact .cons (.lst (SqL.of e2) (.cons (.int n) .nil)) (dp_all2 ns as (Nat.succ.inj hl) fun j m hm => h (j + 1) m hm)
theorem lay_all2 : ∀ ns : List Nat, PyData.canLayAll0 (dII ns) = true
  | [] => rfl
  | n :: ns => by
    show (PyData.canLay0 (.list [.int (n : Int)]) && PyData.canLayAll0 (dII ns)) = true
    rw [lay_all2 ns]
    rfl
theorem dep_all2 : ∀ ns : List Nat, PyData.depthAll (dII ns) ≤ 1
  | [] => Nat.zero_le _
  | n :: ns => Nat.max_le.mpr ⟨Nat.le_refl 1, dep_all2 ns⟩
theorem eqv_all2 : ∀ ns : List Nat, PyData.eqvAll (dII ns) (dII ns) = true
  | [] => rfl
  | n :: ns => by
    show ((((n : Int) == (n : Int)) && true) && PyData.eqvAll (dII ns) (dII ns)) = true
    rw [eqv_all2 ns]
    simp
theorem shp_list2 (ns : List Nat) : SeqAt.shaped (.list (dII ns)) = true := by
  unfold SeqAt.shaped
  rw [show PyData.canLay0 (.list (dII ns)) = PyData.canLayAll0 (dII ns) from rfl, lay_all2, show PyData.depth (.list (dII ns)) = PyData.depthAll (dII ns) + 1 from rfl]
  have := dep_all2 ns
  simp only [Bool.true_and, decide_eq_true_eq]
  omega
theorem ne_nested {K : PySem.W.Frag} {H : Hp} {a b : Addr} {as bs : List Addr} {ns : List Nat} {Q : VK} (ha : Mat .lst .lst H a as (ns.map fun n => [iv n])) (hb : Mat .lst .lst H b bs (ns.map fun n => [iv n])) (q : Q (.bl false) H) : rNeD K (.ref a) (.ref b) H Q := by
  have key : ∀ {c : Addr} {cs : List Addr}, Mat .lst .lst H c cs (ns.map fun n => [iv n]) → DpAll K H (cs.map V.ref) (dII ns) := fun {c cs} m =>
    dp_all2 ns cs (mat_len m) fun j n hn => m.2.2 j [iv n] (by rw [List.getElem?_map, hn]; rfl)
  refine ⟨_, _, .lst (SqL.of ha.1) (key ha), .lst (SqL.of hb.1) (key hb), shp_list2 ns, shp_list2 ns, ?_⟩
  rw [show PyData.eqv (.list (dII ns)) (.list (dII ns)) = PyData.eqvAll (dII ns) (dII ns) from rfl, eqv_all2]
  exact q
/-- sorted: 0, 1, 2 .. -/
theorem sorted_range {ms : List Int} {N : Nat} (hp : ms.Perm (i2 (List.range N))) (hs : ms.Pairwise (· ≤ ·)) : ms.map V.int = ivs (List.range N) := by
  have e : ms = i2 (List.range N) := by
    refine List.Perm.eq_of_pairwise (le := (· ≤ ·)) (fun a b _ _ h1 h2 => Int.le_antisymm h1 h2) hs ?_ hp
    refine List.pairwise_map.mpr ((List.pairwise_lt_range (n := N)).imp fun h => ?_)
    omega
  rw [e, ← i2_ivs]
theorem rgV_range (N : Nat) : rgV 0 (N : Int) = ivs (List.range N) := by
  unfold rgV
  rw [Int.sub_zero, Int.toNat_natCast]
  refine List.map_congr_left fun i _ => ?_
  show V.int _ = V.int _
  congr 1
  omega
end PR
/-! text W23 -/
set_option Elab.async false
set_option linter.all false
set_option maxRecDepth 100000
set_option maxHeartbeats 4000000
namespace PR
open PySem PySem.Spec PyProof.Rows L2
theorem mat_app {i o : List V → HO} {H : Hp} {a b q : Addr} {as bs : List Addr} {us vs : List (List V)} (m : Mat o i H a as us) (n : Mat o i H b bs vs) (hq : H q = some (o ((as ++ bs).map V.ref))) : Mat o i H q (as ++ bs) (us ++ vs) :=
  ⟨hq, by rw [List.length_append, List.length_append, m.2.1, n.2.1], fun j ws h => by
    by_cases c : j < us.length
    · rw [List.getElem?_append_left c] at h
      obtain ⟨p, e1, e2⟩ := m.2.2 j ws h
      exact ⟨p, by rw [List.getElem?_append_left (by rw [m.2.1]; exact c)]; exact e1, e2⟩
    · rw [List.getElem?_append_right (by omega)] at h
      obtain ⟨p, e1, e2⟩ := n.2.2 _ ws h
      exact ⟨p, by rw [List.getElem?_append_right (by rw [m.2.1]; omega), m.2.1]; exact e1, e2⟩⟩
theorem cat_r {K : PySem.W.Frag} {Q : VK} {H : Hp} {ro wa : Addr} {ar aw : List Addr} (hro : H ro = some (.tup (ar.map V.ref))) (hwa : H wa = some (.tup (aw.map V.ref))) (hn : 0 < ar.length) (hz : ar.length + aw.length ≤ sizeLine)
    (h : ∀ q H', Same H H' → H' q = some (.tup ((ar ++ aw).map V.ref)) → Q (.ref q) H') : rCatT K (.ref ro) (.ref wa) H Q := by
  refine ⟨ro, wa, _, _, rfl, rfl, SqT.of hro, SqT.of hwa, fun e => ?_, by rw [List.length_map, List.length_map]; exact hz, fun e => ?_, fun _ p np => h p _ (upd_S np) (by rw [upd_same, List.map_append])⟩
  · rw [List.map_eq_nil_iff.mp e] at hn
    cases hn
  · have e2 : aw = [] := List.map_eq_nil_iff.mp e
    subst e2
    exact h ro H (Same.refl _) (by rw [List.append_nil]; exact hro)
section
variable {P : Program} {w : World} {K : PySem.W.Frag} {mg : Str → Option Value} {base : Heap}
theorem ok_law_is_hall (T : Txt K mg) : FnOk P w K mg base CX0 3 T.law_is_hall.a T.law_is_hall.fd ["_law_rooms_here", "_law_doors_here", "_law_hall_here"] spIsHall := by
  refine T.law_is_hall.F.ok sc_law_is_hall (fun vs H Q E h => ?_) (fun cdv A0 outer s H vs Q E hr h => ?_)
  · obtain ⟨a, ha, ro, wa, N, R, ds, Ls, ws, rfl, _⟩ := h
    rfl
  · obtain ⟨a, ha, ro, wa, N, R, ds, Ls, ws, rfl, ⟨ad, hd⟩, hh, ⟨ar, hro⟩, ⟨aw, hwa⟩, hLs, lLs, hR, hR2, hN, hN5, hz, ⟨lws, hws⟩, k⟩ := h
    have hu := hu_of hr
    have huu := Nat.lt_of_succ_lt hu
    have hu64 := hr.units
    have hsz := sizeLine_eq
    obtain ⟨L0, e0⟩ : ∃ L0, Ls[0]? = some L0 := ⟨_, List.getElem?_eq_getElem (by omega)⟩
    obtain ⟨p0, _, b0, r0⟩ := mat_at hro e0
    have b0' : atI (ar.map V.ref) 0 = some (.ref p0) := atI_nat (j := 0) b0
    have lar := mat_len hro
    have law := mat_len hwa
    have lad := mat_len hd
    refine ⟨_, PSs.nox (pss_cons (ps_asg (pv 2) (pg_tup rfl (pgs_cons (pg_name (i := 3) sc_law_is_hall.nd rfl (Or.inl rfl)) (pgs_cons (pg_name (i := 4) sc_law_is_hall.nd rfl (Or.inr rfl)) pgs_nil))))
      (pss_cons (ps_if (PW.pt (pw_or (pt_not (pt_val (pe_callB call_isi rfl T.m_isinstance b_isinstance (pa_cons (pv 3) (pa_cons (pe_bltn (v := .ty "tuple") rfl T.m_tuple b_tuple rfl) pa_nil))))) (pw_or (pt_not (pt_val (pe_callB call_isi rfl T.m_isinstance b_isinstance (pa_cons (pv 4) (pa_cons (pe_bltn (v := .ty "tuple") rfl T.m_tuple b_tuple rfl) pa_nil))))) (pw_or1 (pt_cmpR op_ne (pe_callB call_len_seq rfl T.m_len boot_len (pa_cons (pv 3) pa_nil)) (pv 0) (nomark _)))))) (pss_one (ps_ret pe_bl)) pss_nil)
      (pss_cons (ps_if (PW.pt (pw_or (pt_cmpR op_ne (pe_callB call_len_seq rfl T.m_len boot_len (pa_cons (pv 4) pa_nil)) (pe_callB call_len_seq rfl T.m_len boot_len (pa_cons (pv 1) pa_nil)) (nomark _)) (pw_or (pt_not (pt_val (pe_callB call_isi rfl T.m_isinstance b_isinstance (pa_cons (pe_ix ix_tup (pv 3) pe_int (fun _ _ => rfl)) (pa_cons (pe_bltn (v := .ty "tuple") rfl T.m_tuple b_tuple rfl) pa_nil))))) (pw_or1 (pt_cmpR op_eq (pe_callB call_len_seq rfl T.m_len boot_len (pa_cons (pe_ix ix_tup (pv 3) pe_int (fun _ _ => rfl)) pa_nil)) pe_int (nomark _)))))) (pss_one (ps_ret pe_bl)) pss_nil)
      (pss_cons (ps_set (i := 5) sc_law_is_hall.nd rfl (Or.inl rfl) (pe_listRg rfl rfl T.m_list (prg_1 rfl T.m_range (pe_callB call_len_seq rfl T.m_len boot_len (pa_cons (pe_ix ix_tup (pv 3) pe_int (fun _ _ => rfl)) pa_nil)))))
      (pss_cons (ps_for PassesOwn.never rfl (pi_tup (pe_op op_catT (pv 3) (pv 4))) (pg_name (i := 6) sc_law_is_hall.nd rfl (Or.inl rfl)) (pss_one (ps_if (PW.pt (pw_or (pt_not (pt_val (pe_callB call_isi rfl T.m_isinstance b_isinstance (pa_cons (pv 6) (pa_cons (pe_bltn (v := .ty "tuple") rfl T.m_tuple b_tuple rfl) pa_nil))))) (pw_or (pt_cmpR (op_ne_nil huu) (pe_lc (own := [("_law_item", 14)]) (g := gName 14) rfl sc_law_is_hall.nd (pi_tup (pv 6)) (blkOk_by (own := [("_law_item", 14)]) (N := ["_law_rooms_here", "_law_doors_here", "_law_hall_here", "_law_ropes_here", "_law_ways_here", "_law_due", "_law_row", "_law_spot", "_law_near", "_law_first", "_law_far", "_law_second", "_law_one", "_law_other", "_law_item"]) (sc := defScope s_law_is_hall) (by decide +kernel)) (fun _ _ _ _ _ => (pg_name (i := 14) sc_law_is_hall.nd rfl (Or.inl rfl))) (fun _ _ _ _ _ => pts_one (pt_not (pt_val (T.law_is_whole.call (ok_law_is_whole T) (hr.mono (by decide)) rfl (pa_cons (pv 14) pa_nil))))) (fun _ _ _ _ _ => pe_int)) (pe_lst pa_nil) (nomark _)) (pw_or1 (pt_cmpR (op_neD hu64) (pe_callB cr_sortedT rfl T.m_sorted b_sorted (pa_cons (pv 6) pa_nil)) (pv 5) (nomark _)))))) (pss_one (ps_ret pe_bl)) pss_nil)))
      (pss_cons (ps_for PassesOwn.never rfl (pi_enumT rfl T.m_enumerate (pa_cons (pv 1) pa_nil)) (pg_tup rfl (pgs_cons (pg_name (i := 7) sc_law_is_hall.nd rfl (Or.inr rfl)) (pgs_cons (pg_tup rfl (pgs_cons (pg_name (i := 8) sc_law_is_hall.nd rfl (Or.inl rfl)) (pgs_cons (pg_name (i := 9) sc_law_is_hall.nd rfl (Or.inl rfl)) (pgs_cons (pg_name (i := 10) sc_law_is_hall.nd rfl (Or.inl rfl)) (pgs_cons (pg_name (i := 11) sc_law_is_hall.nd rfl (Or.inl rfl)) pgs_nil))))) pgs_nil))) (pss_cons (ps_asg (pe_tup (pa_cons (T.law_power.call (ok_law_power T) (hr.mono (by decide)) rfl (pa_cons (pe_ix ix_tup (pv 3) (pv 8) (fun _ _ => rfl)) (pa_cons (pv 9) pa_nil))) (pa_cons (T.law_power.call (ok_law_power T) (hr.mono (by decide)) rfl (pa_cons (pe_ix ix_tup (pv 3) (pv 10) (fun _ _ => rfl)) (pa_cons (pv 11) pa_nil))) pa_nil))) (pg_tup rfl (pgs_cons (pg_name (i := 12) sc_law_is_hall.nd rfl (Or.inr rfl)) (pgs_cons (pg_name (i := 13) sc_law_is_hall.nd rfl (Or.inr rfl)) pgs_nil))))
      (pss_one (ps_if (pt_cmpR (op_ne_nil huu) (pe_lc (own := [("_law_item", 14)]) (g := gName 14) rfl sc_law_is_hall.nd (pi_list (pv 5)) (blkOk_by (own := [("_law_item", 14)]) (N := ["_law_rooms_here", "_law_doors_here", "_law_hall_here", "_law_ropes_here", "_law_ways_here", "_law_due", "_law_row", "_law_spot", "_law_near", "_law_first", "_law_far", "_law_second", "_law_one", "_law_other", "_law_item"]) (sc := defScope s_law_is_hall) (by decide +kernel)) (fun _ _ _ _ _ => (pg_name (i := 14) sc_law_is_hall.nd rfl (Or.inl rfl))) (fun _ _ _ _ _ => pts_one (pt_cmpR op_ne (pe_ix (r := rIxT K) ix_tup (pe_ix (r := rIxT K) ix_tup (pv 4) (pv 7) (fun _ _ => rfl)) (pe_ix (r := rIxL K) ix_list (pv 12) (pv 14) (fun _ _ => rfl)) (fun _ _ => rfl)) (pe_ix (r := rIxL K) ix_list (pv 13) (pe_ix (r := rIxT K) ix_tup (pe_ix (r := rIxT K) ix_tup (pv 4) (pv 7) (fun _ _ => rfl)) (pv 14) (fun _ _ => rfl)) (fun _ _ => rfl)) (nomark _))) (fun _ _ _ _ _ => pe_int)) (pe_lst pa_nil) (nomark _)) (pss_one (ps_ret pe_bl)) pss_nil))))
      (pss_one (ps_ret pe_bl)))))))), ?_⟩
    refine ⟨_, rfl, ha, _, rfl, SqT.of hh, rfl, _, _, rfl, _, _, rfl, rfl, ?_⟩
    refine ⟨_, rfl, _, _, _, _, true, rfl, .ty _, .base (.tup hro.1), kit_ty (by decide +kernel), true, rfl, iteF ?_⟩
    refine ⟨_, rfl, _, _, _, _, true, rfl, .ty _, .base (.tup hwa.1), kit_ty (by decide +kernel), true, rfl, iteF ?_⟩
    refine ⟨_, rfl, ro, _, rfl, .inr (SqT.of hro.1), _, rfl, rfl, false, ?_, iteF ?_⟩
    · rw [List.length_map, lar, lLs, decide_eq_true rfl]
      rfl
    refine ⟨_, rfl, wa, _, rfl, .inr (SqT.of hwa.1), _, rfl, a, _, rfl, .inr (SqT.of hd.1), rfl, false, ?_, iteF ?_⟩
    · rw [List.length_map, List.length_map, law, lad, lws, decide_eq_true rfl]
      rfl
    refine ⟨_, rfl, ro, _, _, _, rfl, rfl, SqT.of hro.1, b0', _, _, _, _, true, rfl, .ty _, .base (.tup r0), kit_ty (by decide +kernel), true, rfl, iteF ?_⟩
    refine ⟨_, rfl, ro, _, _, _, rfl, rfl, SqT.of hro.1, b0', p0, _, rfl, .inr (SqT.of r0), rfl, false, ?_, iteF ?_⟩
    · rw [rope_len, decide_eq_false (fun z => by have := V.int.inj z; omega)]
    refine ⟨_, rfl, ro, _, _, _, rfl, rfl, SqT.of hro.1, b0', p0, _, rfl, .inr (SqT.of r0), _, rfl, ?_, fun D nD => ?_⟩
    · rw [rope_len]
      exact RgOk.of_le (by omega) (by omega) (by omega) (by omega)
    rw [rope_len, rgV_range]
    have s1 : Same H (upd H D (.lst (ivs (List.range N)))) := upd_S nD
    have hD : upd H D (.lst (ivs (List.range N))) D = some (.lst (ivs (List.range N))) := upd_same
    generalize upd H D (.lst (ivs (List.range N))) = H1 at s1 hD
    refine ⟨_, rfl, _, rfl, cat_r (s1 _ _ hro.1) (s1 _ _ hwa.1) (by omega) (by omega) fun q H2 s2 hq => ?_⟩
    have s12 := s1.trans s2
    have mq : Mat .tup .tup H2 q (ar ++ aw) ((Ls.map (RK.ropeL N) ++ ws).map ivs) := by
      rw [List.map_append, List.map_map]
      exact mat_app (hro.same s12) (hwa.same s12) hq
    have hrow : ∀ l ∈ Ls.map (RK.ropeL N) ++ ws, l.Perm (List.range N) := fun l hl => by
      rcases List.mem_append.mp hl with z | z
      · obtain ⟨L, h1, rfl⟩ := List.mem_map.mp z
        exact RK.ropeL_perm (hLs L h1).1 (hLs L h1).2
      · obtain ⟨j, hj⟩ := List.mem_iff_getElem?.mp z
        obtain ⟨_, _, _, _, w⟩ := hws j _ l (List.getElem?_eq_getElem (by rw [← lws]; exact (List.getElem?_eq_some_iff.mp hj).1)) hj
        exact w.perm
    refine ⟨q, rfl, ⟨_, SqT.of hq⟩, for_tup (K := K) (a := q) (xs := (ar ++ aw).map V.ref) (fun i σ H' => ∃ (v6 v7 v8 v9 v10 v11 v12 v13 v14 : Option V), σ = [some (iv R), some (.ref a), some (.ref ha), some (.ref ro), some (.ref wa), some (.ref D), v6, v7, v8, v9, v10, v11, v12, v13, v14] ∧ Same H2 H') ⟨_, _, _, _, _, _, _, _, _, rfl, Same.refl _⟩ (fun i σ H' _ p => ?_) ?_ ?_⟩
    · obtain ⟨_, _, _, _, _, _, _, _, _, _, z⟩ := p
      exact SqT.of (z _ _ hq)
    · rintro i x σ H3 hx ⟨v6, v7, v8, v9, v10, v11, v12, v13, v14, rfl, s3⟩
      obtain ⟨p, l, rfl, h1, h2, h3⟩ := mat_in mq hx
      have hl := hrow l (List.mem_of_getElem? h2)
      have hp3 := s3 _ _ h3
      refine ⟨_, rfl, _, _, _, _, true, rfl, .ty _, .base (.tup hp3), kit_ty (by decide +kernel), true, rfl, iteF ?_⟩
      refine ⟨_, rfl, p, rfl, ⟨_, SqT.of hp3⟩, fun G nG => lc_tup (K := K) (a := p) (xs := ivs l) (fun i H' => Same H3 H' ∧ H' G = some (.lst [])) ⟨upd_S nG, upd_same⟩ (fun i H' _ p => SqT.of (p.1 _ _ hp3)) ?_ ?_⟩
      · rintro j y H4 hy ⟨s4, hG⟩
        obtain ⟨n, _, rfl⟩ := ivs_at hy
        exact ⟨rfl, _, rfl, n, rfl, true, rfl, iteF ⟨s4, hG⟩⟩
      · rintro H4 ⟨s4, hG⟩
        refine ⟨(show 0 ≤ sizeLine by decide), fun e ne => ⟨G, e, [], rfl, rfl, SqL.of (upd_S ne _ _ hG), upd_same, false, rfl, iteF ?_⟩⟩
        have s5 : Same H4 (upd H4 e (.lst [])) := upd_S ne
        generalize upd H4 e (.lst []) = H5 at s5
        have s35 := s4.trans s5
        refine ⟨_, rfl, p, i2 l, rfl, by rw [← i2_ivs]; exact SqT.of (s35 _ _ hp3), fun ms sp pm pw nsp => ⟨_, rfl, ?_⟩⟩
        have em := sorted_range (N := N) (pm.trans (hl.map _)) pw
        rw [em]
        have s6 : Same H5 (upd H5 sp (.lst (ivs (List.range N)))) := upd_S nsp
        refine ne_lists (ns := List.range N) (SqL.of upd_same) (SqL.of (s6 _ _ (s35 _ _ (s3 _ _ (s2 _ _ hD))))) ⟨false, rfl, iteF ⟨_, _, _, _, _, _, _, _, _, rfl, s3.trans (s35.trans s6)⟩⟩
    · rintro σ H3 ⟨v6, v7, v8, v9, v10, v11, v12, v13, v14, rfl, s3⟩
      have s03 := s12.trans s3
      have hD3 := s3 _ _ (s2 _ _ hD)
      refine ⟨_, rfl, a, _, rfl, SqT.of (s03 _ _ hd.1), for_enT (K := K) (a := a) (xs := ad.map V.ref) (fun i σ H' => ∃ (v6 v7 v8 v9 v10 v11 v12 v13 v14 : Option V), σ = [some (iv R), some (.ref a), some (.ref ha), some (.ref ro), some (.ref wa), some (.ref D), v6, v7, v8, v9, v10, v11, v12, v13, v14] ∧ Same H3 H') ⟨_, _, _, _, _, _, _, _, _, rfl, Same.refl _⟩ (fun i σ H' _ p => ?_) ?_ ?_⟩
      · obtain ⟨_, _, _, _, _, _, _, _, _, _, z⟩ := p
        exact SqT.of (z _ _ (s03 _ _ hd.1))
      · rintro i x Tp σ H4 hx ⟨v6, v7, v8, v9, v10, v11, v12, v13, v14, rfl, s4⟩ nT
        obtain ⟨p, d, rfl, h1, h2, h3⟩ := mat_in hd hx
        obtain ⟨wy, hwy⟩ : ∃ wy, ws[i]? = some wy := ⟨_, List.getElem?_eq_getElem (by rw [lws]; exact (List.getElem?_eq_some_iff.mp h2).1)⟩
        obtain ⟨pw, _, w2, w3⟩ := mat_at hwa hwy
        obtain ⟨L1, L2, q1, q2, q3⟩ := hws i d wy h2 hwy
        obtain ⟨l1, d1⟩ := hLs L1 (List.mem_of_getElem? q1)
        obtain ⟨l2, d2⟩ := hLs L2 (List.mem_of_getElem? q2)
        obtain ⟨p1, _, a1, r1⟩ := mat_at hro q1
        obtain ⟨p2, _, a2, r2⟩ := mat_at hro q2
        have s5 : Same H4 (upd H4 Tp (.tup [iv i, .ref p])) := upd_S nT
        refine ⟨Tp, _, rfl, SqT.of upd_same, rfl, _, _, rfl, _, _, rfl, p, _, rfl, SqT.of (s5 _ _ (s4 _ _ (s03 _ _ h3))), rfl, _, _, rfl, _, _, rfl, _, _, rfl, _, _, rfl, rfl, rfl, ?_⟩
        generalize upd H4 Tp (.tup [iv i, .ref p]) = H5 at s5
        have s35 := s4.trans s5
        have s05 := s03.trans s35
        refine ⟨_, rfl, _, rfl, ro, _, _, _, rfl, rfl, SqT.of (s05 _ _ hro.1), atI_nat a1, _, rfl, p1, N, L1, d.f, rfl, s05 _ _ r1, l1, d1, hN5, fun H6 o1 s6 n6 ho1 => ?_⟩
        have s06 := s05.trans s6
        refine ⟨_, rfl, _, rfl, ro, _, _, _, rfl, rfl, SqT.of (s06 _ _ hro.1), atI_nat a2, _, rfl, p2, N, L2, d.s, rfl, s06 _ _ r2, l2, d2, hN5, fun H7 o2 s7 n7 ho2 => ?_⟩
        refine ⟨(show 2 ≤ sizeLine by decide), fun t nt => ⟨t, _, rfl, SqT.of upd_same, rfl, _, _, rfl, _, _, rfl, rfl, ?_⟩⟩
        have s8 : Same H7 (upd H7 t (.tup [.ref o1, .ref o2])) := upd_S nt
        generalize upd H7 t (.tup [.ref o1, .ref o2]) = H8 at s8
        have s38 := s35.trans (s6.trans (s7.trans s8))
        have ho1' := s8 _ _ (s7 _ _ ho1)
        have ho2' := s8 _ _ ho2
        have hwa8 := (s03.trans s38) _ _ hwa.1
        have hpw8 := (s03.trans s38) _ _ w3
        refine ⟨_, rfl, D, rfl, ⟨_, SqL.of (s38 _ _ hD3)⟩, fun G nG => lc_list (K := K) (a := D) (xs := ivs (List.range N)) (fun i H' => Same H8 H' ∧ H' G = some (.lst [])) ⟨upd_S nG, upd_same⟩ (fun i H' _ p => SqL.of (p.1 _ _ (s38 _ _ hD3))) ?_ ?_⟩
        · rintro j y H9 hy ⟨s9, hG⟩
          obtain ⟨hj, rfl⟩ := ivr_at hy
          obtain ⟨z, z1, z2, z3⟩ := q3.fit j hj
          refine ⟨rfl, _, rfl, _, rfl, wa, _, _, _, rfl, rfl, SqT.of (s9 _ _ hwa8), atI_nat w2, _, rfl, _, rfl, o1, _, _, _, rfl, rfl, SqL.of (s9 _ _ ho1'), atI_nat (iv_at (rng_at hj)), pw, _, _, _, rfl, rfl, SqT.of (s9 _ _ hpw8), atI_nat (iv_at z3), ?_⟩
          refine ⟨_, rfl, _, rfl, _, rfl, wa, _, _, _, rfl, rfl, SqT.of (s9 _ _ hwa8), atI_nat w2, _, rfl, pw, _, _, _, rfl, rfl, SqT.of (s9 _ _ hpw8), atI_nat (iv_at z1), o2, _, _, _, rfl, rfl, SqL.of (s9 _ _ ho2'), atI_nat (iv_at (rng_at z2)), rfl, false, ?_, iteF ⟨s9, hG⟩⟩
          rw [decide_eq_true rfl]
          rfl
        · rintro H9 ⟨s9, hG⟩
          refine ⟨(show 0 ≤ sizeLine by decide), fun e ne => ⟨G, e, [], rfl, rfl, SqL.of (upd_S ne _ _ hG), upd_same, false, rfl, iteF ⟨_, _, _, _, _, _, _, _, _, rfl, s38.trans (s9.trans (upd_S ne))⟩⟩⟩
      · rintro σ H4 ⟨v6, v7, v8, v9, v10, v11, v12, v13, v14, rfl, s4⟩
        exact k _ (s03.trans s4)
end
end PR
/-! text W24 -/
set_option Elab.async false
set_option linter.all false
set_option maxRecDepth 100000
set_option maxHeartbeats 4000000
namespace PR
open PySem PySem.Spec PyProof.Rows L2
section
variable {P : Program} {w : World} {K : PySem.W.Frag} {mg : Str → Option Value} {base : Heap}
theorem ok_law_greatest_right (T : Txt K mg) : FnOk P w K mg base CX0 9 T.law_greatest_right.a T.law_greatest_right.fd [] spRight := by
  refine T.law_greatest_right.F.ok sc_law_greatest_right (fun vs H Q E h => ?_) (fun cdv A0 outer s H vs Q E hr h => ?_)
  · obtain ⟨rfl, _⟩ := h
    rfl
  · obtain ⟨rfl, k⟩ := h
    refine ⟨_, PSs.nox (C8.pss_cut (ps_par (i := 0) (j := 1) rfl sc_law_greatest_right.nd rfl rfl (by decide) rfl rfl (pa_cons (pe_ix ix_tup (pe_fld (T.hall_of_returns.call (ok_hall_of_returns T) (hr.mono (by decide)) rfl (pa_cons (pe_make T.dHouse.mkr (ok_House_init T) (hr.mono (by decide)) rfl T.dHouse.g T.House_init.b .nil pass0 (pa_cons pe_int (pa_cons (pe_tup pa_nil) pa_nil))) (pa_cons (pe_tup (pa_cons pe_int pa_nil)) pa_nil))) rfl) pe_int (fun _ _ => rfl)) (pa_cons pe_int pa_nil)) rfl)
      (pss_cons (ps_if (pt_cmpR op_ne (pe_callB call_len_seq rfl T.m_len boot_len (pa_cons (pv 0) pa_nil)) pe_int (nomark _)) (pss_one (ps_ret pe_bl)) pss_nil)
      (pss_cons (ps_for PassesOwn.never rfl (pi_range1 rfl T.m_range (pa_cons pe_int pa_nil)) (pg_name (i := 2) sc_law_greatest_right.nd rfl (Or.inl rfl)) (pss_cons (ps_set (i := 1) sc_law_greatest_right.nd rfl (Or.inl rfl) (pe_ix ix_tup (pv 0) (pv 1) (fun _ _ => rfl)))
      (pss_one (ps_if (pt_cmpR op_eq (pv 1) pe_int (nomark _)) (pss_one (ps_ret pe_bl)) pss_nil))))
      (pss_one (ps_ret (pe_cmp (pc_eqI (pe_ix ix_tup (pv 0) (pv 1) (fun _ _ => rfl)) pe_int) rfl)))))), ?_⟩
    refine ⟨fun σ H' => Same H H' ∧ ∃ p : Addr, σ = [some (.ref p), some (iv 0), none] ∧ H' p = some (.tup (rope 5000 5000)), ?_, ?_⟩
    · refine ⟨(show 0 ≤ sizeLine by decide), fun a na => fun x dx nx nd ne => ?_⟩
      have s1 : Same H (upd H a (.tup [])) := upd_S na
      have ha : upd H a (.tup []) a = some (.tup []) := upd_same
      generalize upd H a (.tup []) = H1 at s1 ha nx nd
      have s2 : Same H1 (upd (upd H1 dx (.own x)) x (.ins T.cHouse dx [])) := same_updN (upd_S nd) nx
      have hx2 : upd (upd H1 dx (.own x)) x (.ins T.cHouse dx []) x = some (.ins T.cHouse dx []) := upd_same
      generalize upd (upd H1 dx (.own x)) x (.ins T.cHouse dx []) = H2 at s2 hx2
      have hd2 : DoorsAt H2 a [] := ⟨[], s2 _ _ ha, rfl, fun j vs h => nomatch h⟩
      refine ⟨x, dx, a, 1, [], rfl, hx2, hd2, (fun d h => nomatch h), by decide, by decide, by decide, fun r r0 r1 => by omega, fun H3 hx3 k3 => ⟨rfl, ?_⟩⟩
      have s3 : Same H H3 := fun b o e => k3 b o (s2 _ _ (s1 _ _ e)) (ne_of_none e (s1.free nx))
      have hd3 : DoorsAt H3 a [] := ⟨[], k3 a _ (s2 _ _ ha) (ne_of_none ha nx), rfl, fun j vs h => nomatch h⟩
      refine ⟨(show 1 ≤ sizeLine by decide), fun t nt => ?_⟩
      have s4 : Same H3 (upd H3 t (.tup [.int 5000])) := upd_S nt
      have ht : upd H3 t (.tup [.int 5000]) t = some (.tup (ivs [5000])) := upd_same
      generalize upd H3 t (.tup [.int 5000]) = H4 at s4 ht
      refine ⟨x, t, 5000, 1, a, [], [5000], rfl, ⟨⟨dx, s4 _ _ hx3⟩, hd3.same s4⟩, ht, fun d h => (nomatch h), fun d h => (nomatch h), fun n hn => ?_, rfl, rfl, by decide, by decide, by decide, .inr ⟨rfl, rfl, rfl⟩, fun H5 y ro wa ws s5 ny hy wok => ?_⟩
      · rw [List.mem_singleton] at hn
        omega
      · obtain ⟨⟨dy, hy⟩, _, ⟨ar, hro⟩, _⟩ := hy
        obtain ⟨p, _, a1, r1⟩ := mat_at hro (j := 0) (y := 5000) rfl
        have a1' : atI (ar.map V.ref) 0 = some (.ref p) := atI_nat (j := 0) a1
        refine ⟨y, T.cHall, dy, _, _, rfl, hy, T.dHall.cl, T.nRopes, lk_ropes x ro wa 5000, ro, _, _, _, rfl, rfl, SqT.of hro.1, a1', _, _, rfl, (s3.trans s4).trans s5, p, rfl, r1⟩
    · rintro σ H1 ⟨s1, p, rfl, hp⟩
      refine ⟨_, rfl, p, _, rfl, .inr (SqT.of hp), rfl, false, ?_, iteF ?_⟩
      · rw [rope_len]
        rfl
      refine ⟨4999, rfl, by decide, by decide, for_range (lo := 0) (n := 4999) (fun i σ H' => H' = H1 ∧ i ≤ 4999 ∧ ∃ v2 : Option V, σ = [some (.ref p), some (iv i), v2]) ⟨rfl, by decide, _, rfl⟩ ?_ ?_⟩
      · rintro i σ H' hi ⟨rfl, _, v2, rfl⟩
        have er : RK.rp 5000 i = i + 1 := by
          unfold RK.rp
          rw [Nat.mod_eq_of_lt (by omega), if_neg (by omega)]
        refine ⟨_, rfl, _, rfl, p, _, _, _, rfl, rfl, SqT.of hp, atI_nat (rope_at (show i < 5000 by omega)), ?_⟩
        rw [er]
        refine ⟨_, rfl, rfl, false, bl_f (fun z => by have := V.int.inj z; omega), iteF ⟨rfl, by omega, _, rfl⟩⟩
      · rintro σ H' ⟨rfl, _, v2, rfl⟩
        have er : RK.rp 5000 4999 = 0 := by decide
        refine ⟨_, rfl, _, rfl, p, _, _, _, rfl, rfl, SqT.of hp, atI_nat (rope_at (show 4999 < 5000 by omega)), ?_⟩
        rw [er]
        exact ⟨0, 0, rfl, rfl, k _ s1⟩
end
end PR
/-! text We1 -/
set_option Elab.async false
set_option linter.all false
set_option maxRecDepth 100000
set_option maxHeartbeats 4000000
/-! TooMany(most): super().__init__('..'), then the field -/
namespace PR
open PySem PySem.Spec PyProof.Rows L2
structure Tm (P : Program) (K : PySem.W.Frag) (mg : Str → Option Value) where
  C : Addr
  f : Addr
  cc : Addr
  cda : Addr
  dV : Value
  kV : Value
  doc : Value
  pm : Value
  ct : Value
  oc : Value
  an : Option Addr
  od : Option Addr
  osl : Array (Option Value)
  g : mg "TooMany" = some (.ref C)
  oex : OexC K C
  ini : PySem.W.findIn K (.ref C) "__init__" = some (some (.ref f))
  tyf : PySem.W.typeIn K (.ref f) = some (.type "function")
  fn : K.lookup f = some ⟨oc, od, .func (PySem.W.ksFn "__init__" "TooMany.__init__" (defArgs s_TooMany_init) (defBody s_TooMany_init) (defScope s_TooMany_init) dV kV doc pm an (.ref cda) ct cc), osl⟩
  code : PySem.W.codeIn K (.ref cda) "TooMany.__init__" = true
  codeF : ∃ ccl cdd vs ccs file tf, K.lookup cda = some ⟨ccl, cdd, .fields vs, ccs⟩ ∧ vs[2]? = some (.str file tf) ∧ ((P.main.file : Str) == file) = true
  cell : ∃ cl cld csl, K.lookup cc = some ⟨cl, cld, .cell (some (.ref C)), csl⟩
  top : (P.main.scope.names.lookup ("super" : Str)).isSome = false
  mro : PySem.W.mroIn K C (.ref C) = some true
  sup : PySem.W.ks_superIn K C C "__init__" = some (some (.builtin "ValueError.__init__"))
  sub : PySem.W.subIn K (.ref C) (.type "ValueError") = some true
  opq : PySem.W.nsIn K cStatics "thirdparty.any" = some none
  noF : PySem.W.findIn K (.ref C) "most" = some none
  b : Binds K (PySem.W.ksFn "__init__" "TooMany.__init__" (defArgs s_TooMany_init) (defBody s_TooMany_init) (defScope s_TooMany_init) dV kV doc pm an (.ref cda) ct cc) ["self", "most"] []
abbrev Tm.fd {P : Program} {K : PySem.W.Frag} {mg : Str → Option Value} (T : Tm P K mg) : FuncData :=
  PySem.W.ksFn "__init__" "TooMany.__init__" (defArgs s_TooMany_init) (defBody s_TooMany_init) (defScope s_TooMany_init) T.dV T.kV T.doc T.pm T.an (.ref T.cda) T.ct T.cc
def spTM (C : Addr) : Sp := fun vs H Q _ => ∃ (a : Addr) (m : Int), vs = [.ref a, .int m] ∧ H a = some (exo a C none) ∧ ∀ d, H d = none → d ≠ a → Q .non (upd (upd H d (exd d [("most", .int m)])) a (exo a C (some d)))
section
variable {P : Program} {w : World} {K : PySem.W.Frag} {mg : Str → Option Value} {base : Heap}
/-- the context of the __init__ -/
def cxT (T : Tm P K mg) (w : World) (base : Heap) (A : Around) (outer : List Env) (s : Shared) (H : Hp) (xe : Value → Shared → Prop) : Cx where
  prog := P
  w := w
  K := K
  mg := mg
  base := base
  A := A.deeper (callEnv T.fd s.heap.objs.size T.f)
  N := ["self", "most"]
  s_0 := s
  H_0 := H
  env := callEnv T.fd s.heap.objs.size T.f
  outer := outer
  stack := callEnv T.fd s.heap.objs.size T.f :: outer
  ex := []
  calm := true
  fn := fun _ => false
  pn := []
  xe := xe
theorem inv_T (T : Tm P K mg) {A : Around} {outer : List Env} {s : Shared} {H : Hp} {xe : Value → Shared → Prop} (hd : A.handled = none) (e0 : Env0 P w K mg base A outer s H) {h0 : Heap} {us : List Value} {vs : List V} {t : Nat} (r : Vals vs us) (hl : vs.length = 2)
    (hns : h0.Ns s.heap.objs.size (fun x => ((["self", "most"] : List Str).zip us).reverse.lookup x)) (hk : ∀ b o, s.heap.get? b = some o → h0.get? b = some o) :
    Inv (cxT T w base A outer s H xe) [] (vs.map some) H { s with heap := h0, toks := t } := by
  obtain ⟨cl, cld, csl, hcell⟩ := T.cell
  have hcb : base.get? T.cc = some _ := e0.mod.kin _ _ hcell
  have hcells : ∀ y c, (cxT T w base A outer s H xe).env.cells.lookup y = some c → y = "__class__" ∧ c = T.cc := fun y c h => by
    have h : (([("__class__", T.cc)] : List (Str × Addr)).lookup y) = some c := h
    rw [List.lookup_cons] at h
    by_cases e : y = ("__class__" : Str)
    · subst e
      simp at h
      exact ⟨rfl, h.symm⟩
    · have e2 : (y == ("__class__" : Str)) = false := by simpa using e
      rw [e2] at h
      cases h
  refine ⟨⟨e0.mod, rfl, rfl, rfl, Nat.le_refl _, fun y z c h1 h2 => ?_, fun y hy => ?_, fun y c h _ => Bool.noConfusion (show false = true from h), fun _ => hd, Around.frames_deeper e0.frames, .inr ⟨rfl, rfl⟩, fun b z => absurd (show b ∈ ([] : List Addr) from z) (by simp), e0.bs, e0.bsz, fun b _ _ z => absurd (show b ∈ ([] : List Addr) from z) (by simp), fun b z => absurd (show b ∈ ([] : List Addr) from z) (by simp), e0.funs, e0.frf⟩,
    rfl, e0.bare, Un.kept hk, ⟨_, hns, fun i y v h1 h2 h3 => ?_⟩, fun y c h => ?_, e0.hok.fresh (Nat.le_refl _), fun y c h => ?_, fun p hp => absurd (show p ∈ ([] : List (Addr × Obj)) from hp) (by simp), e0.hok.kept hk, by show (vs.map some).length = 2; rw [List.length_map]; exact hl⟩
  · rw [(hcells y c h1).1, (hcells z c h2).1]
  · have hy : (defScope s_TooMany_init).names.lookup y = some .cell ∨ (defScope s_TooMany_init).names.lookup y = some .free := hy
    have key : ∀ q ∈ (defScope s_TooMany_init).names, q.2 = .cell ∨ q.2 = .free → q.1 = "__class__" := by decide +kernel
    have ey : y = "__class__" := by
      rcases hy with hy | hy
      · exact key _ (PySem.mem_of_lookup hy) (.inl rfl)
      · exact key _ (PySem.mem_of_lookup hy) (.inr rfl)
    subst ey
    exact ⟨T.cc, rfl⟩
  · rw [List.getElem?_map] at h2
    cases e : vs[i]? with
    | none => rw [e] at h2; cases h2
    | some v' =>
      rw [e] at h2
      cases h2
      obtain ⟨u, hu, rv⟩ := r.get e
      refine ⟨u, rv, .inl ?_⟩
      have hlu : us.length = 2 := by rw [← r.length]; exact hl
      obtain ⟨p, q, rfl⟩ : ∃ p q, us = [p, q] := by
        cases us with
        | nil => cases hlu
        | cons p us =>
          cases us with
          | nil => cases hlu
          | cons q us =>
            cases us with
            | nil => exact ⟨p, q, rfl⟩
            | cons _ _ => cases hlu
      have hi : i < 2 := (List.getElem?_eq_some_iff.mp hu).1
      have k0 : (defScope s_TooMany_init).names.lookup ("self" : Str) = some .local := by decide +kernel
      have k1 : (defScope s_TooMany_init).names.lookup ("most" : Str) = some .local := by decide +kernel
      rcases Nat.lt_or_ge i 1 with c | c
      · obtain rfl : i = 0 := by omega
        have ey : y = "self" := (Option.some.inj h1).symm
        have eu : p = u := Option.some.inj hu
        subst ey eu
        exact ⟨k0, rfl⟩
      · obtain rfl : i = 1 := by omega
        have ey : y = "most" := (Option.some.inj h1).symm
        have eu : q = u := Option.some.inj hu
        subst ey eu
        exact ⟨k1, rfl⟩
  · obtain ⟨_, rfl⟩ := hcells y c h
    exact ⟨_, _, hk _ _ (e0.bs _ _ hcb).1, rfl⟩
  · obtain ⟨_, rfl⟩ := hcells y c h
    exact (e0.bs _ _ hcb).2
theorem call_mw {A : Around} {E : Value → Shared → Prop} {h : Heap} {g : Array GenState} {d : Drawn} {t : Nat} {os : OsState} {nm q : Str} {C N : Addr} {bs bm : List Value} {hdct : Bool} {sn : List Str} {sub : List Value} {ab : Bool} {col : Option Bool} {dd : Option Addr} {k0 k1 k2 k3 k5 : Option Value}
    {u e t0 : Addr} {rest : List Value} {Q : Value → Shared → Prop}
    (hC : h.get? C = some (excClassObj nm q C N bs bm hdct sn sub ab col dd k0 k1 k2 k3 k5 "ValueError.__new__")) (he : h.get? e = some (PySem.HandSPX.excO C t0)) (hu : h.get? u = some (PySem.W.kxs_mw "ValueError.__init__" e)) (hrest : rest.length ≤ sizeLine)
    (hq : ∀ h' t1, (∀ b o, b ≠ e → h.get? b = some o → h'.get? b = some o) → h'.get? e = some (PySem.HandSPX.excO C t1) → Q .none ⟨h', g, d, t, os⟩) :
    wpAny (model P w) A (call (.ref u) rest) Q E ⟨h, g, d, t, os⟩ := by
  refine wpAny_call (codeAny_of_tree ?_)
  show wpAny _ A.in1 (callAny (.ref u) ⟨rest, []⟩) _ _ _
  simp only [callAny]
  refine wpAny_bind (wpAny_load hu ?_)
  simp only [PySem.W.kxs_mw, show (Value.type "method-wrapper" == Value.type "method" || Value.type "method-wrapper" == Value.type "builtin_function_or_method" || Value.type "method-wrapper" == Value.type "method-wrapper") = true by decide, if_true]
  refine PySem.W.KFB.if_so (by decide) ?_
  refine wpAny_bind (PySem.W.check_bound_init F.excBase_ValueError.toExcCallFacts hC he rfl ?_)
  refine wpAny_bind (wpAny_pure (wpAny_pure ?_))
  refine ⟨plainId_quiet F.excBase_ValueError.init.plain _, codeAny_builtin F.excBase_ValueError.initEntry ?_⟩
  rw [Around.under_plainId F.excBase_ValueError.init.plain _]
  wp_walk
  refine hq _ h.objs.size (fun b o hb ho => ?_) ?_
  · rw [Heap.get?_update_other _ _ (Ne.symm hb)]
    exact Heap.get?_push_of_some _ ho
  · rw [Heap.get?_update_self _ (Heap.get?_push_of_some _ he) rfl]
    rfl
end
end PR
/-! text We2 -/
set_option Elab.async false
set_option linter.all false
set_option maxRecDepth 100000
set_option maxHeartbeats 1000000
namespace PR
open PySem PySem.Spec PyProof.Rows L2
section
variable {P : Program} {w : World} {K : PySem.W.Frag} {mg : Str → Option Value} {base : Heap}
theorem ok_TooMany (T : Tm P K mg) (hms : mg "super" = none) : FnOk P w K mg base CX0 1 T.f T.fd ["self", "most"] (spTM T.C) := by
  refine ⟨fun vs H Q E h => by obtain ⟨a, m, rfl, _⟩ := h; rfl, fun A outer s H args us vs Q E hr e0 hb r hsp => ?_⟩
  obtain ⟨a, m, rfl, ha, k⟩ := hsp
  have KX : K.In s.heap := e0.mod.kin.keeps fun b o e => (e0.bs b o e).1
  have lim : s.heap.NoLimit := e0.mod.nolimit.keeps fun b o e => (e0.bs b o e).1
  obtain ⟨nm, q, N, bs, bm, sn, sub, ab, col, dd, k0, k1, k2, k3, k5, hC, hbm⟩ := T.oex.cls
  obtain ⟨ccl, cdd, fvs, ccs, file, tf, hcode, hvs, hfile⟩ := T.codeF
  obtain ⟨cl, cld, csl, hcell⟩ := T.cell
  have hcl : PySem.W.clsIn K T.C = some { name := nm, bases := bs, mro := .ref T.C :: bm, ns := N, qualname := q, hasDict := true, slotNames := sn, subclasses := sub, abstract := ab, collection := col, hasDel := false } := by
    unfold PySem.W.clsIn
    rw [hC]
  have hsup : PySem.W.alongIn K "__init__" (((Value.ref T.C :: bm).dropWhile (· != .ref T.C)).drop 1) = some (some (.builtin "ValueError.__init__")) := by
    have z := T.sup
    unfold PySem.W.ks_superIn at z
    rw [hcl] at z
    exact z
  refine PySem.ks_codeAny_call_defAt (fd := T.fd) (body := defBody s_TooMany_init) (binds := (["self", "most"] : List Str).zip us) hr.depth (KX _ _ T.fn) rfl lim (PySem.W.codeRec_of KX T.code) rfl hb (by show ∀ x ∈ (defScope s_TooMany_init).names, x.2 ≠ .cell; decide +kernel) (fun x hx => ?_) (fun h0 hns hk => ?_) rfl rfl rfl
  · have k0 : ∀ y ∈ (["self", "most"] : List Str), (defScope s_TooMany_init).names.lookup y = some .local := by decide +kernel
    exact k0 _ (List.of_mem_zip hx).1
  generalize hxe : (fun e s' => wpAny (model P w) (A.deeper (callEnv T.fd s.heap.objs.size T.f)) (leaving (callEnv T.fd s.heap.objs.size T.f) e) (fun _ s'' => CR CX0 outer P w H s Q E (.error e) s'') (fun e' s'' => CR CX0 outer P w H s Q E (.error e') s'') s') = xe
  have I := inv_T T (w := w) (xe := xe) (t := s.toks + ((["self", "most"] : List Str).zip us).length) hr.hd e0 r rfl hns hk
  have hns2 : h0.Ns s.heap.objs.size (fun x => ((["self", "most"] : List Str).zip us).reverse.lookup x) := hns
  have hself : ((["self", "most"] : List Str).zip us).reverse.lookup ("self" : Str) = some (.ref a) := by
    cases r with
    | cons r1 r2 =>
      cases r1
      cases r2 with
      | cons r3 r4 =>
        cases r4
        rfl
  obtain ⟨t0, hx0⟩ := exo_at I.hok ha
  have hx0 : h0.get? a = some (PySem.HandSPX.excO T.C t0) := hx0
  have KX0 : K.In h0 := KX.keeps hk
  have IA : PySem.W.InstAt h0 a (PySem.HandSPX.excO T.C t0) T.C none := ⟨hx0, rfl, rfl, trivial⟩
  have hks : (defScope s_TooMany_init).names.lookup ("super" : Str) = some .globalImplicit := by decide +kernel
  have hkc : (defScope s_TooMany_init).names.lookup ("__class__" : Str) = some .free := by decide +kernel
  have hkl : (defScope s_TooMany_init).names.lookup ("self" : Str) = some .local := by decide +kernel
  obtain ⟨mb, hb1, hb2⟩ := e0.mod.blt
  have hbk : ∀ b o, base.get? b = some o → h0.get? b = some o := fun b o e => hk b o (e0.bs b o e).1
  refine PySem.ks_wpAt_execs_cons (PySem.ks_wpAt_Expr_any (PySem.ks_wpAt_MethodCall ?_))
  refine PySem.ks_wpAt_super_base (env := callEnv T.fd s.heap.objs.size T.f) hks hkc (by decide) rfl (KX0 _ _ T.fn) rfl rfl rfl (KX0 _ _ hcode) rfl hvs hfile T.top ?_
  refine PySem.W.ks_loadName_global rfl hks (PySem.Calls.loadGlobal_builtin (mg := mg) (mb := mb) (v := .type "super") (e0.mod.glob.keeps hbk) hms (hb1.keeps hbk) ((hb2 "super" (by decide)).trans (by decide +kernel)) ⟨rfl, ?_⟩)
  refine wpAny_loadName_free rfl hkc rfl ⟨_, KX0 _ _ hcell, rfl⟩ ?_
  refine wpAny_loadName_local rfl hkl hns2 hself ?_
  refine PySem.ks_wpAny_isType_cls (KX0 _ _ hC) rfl ⟨rfl, ?_⟩
  refine PySem.ks_wpAny_call_super (KX0 _ _ hC) rfl hx0 rfl (fun c e => by cases e) (PySem.W.looks_mroIn KX0 T.mro) (fun h1 e1 k1 => ?_)
  have KX1 : K.In h1 := KX0.keeps k1
  have IA1 : PySem.W.InstAt h1 a (PySem.HandSPX.excO T.C t0) T.C none := ⟨k1 _ _ hx0, rfl, rfl, trivial⟩
  refine PySem.W.kxs_getMethod PySem.W.kxs_ValueError e1 (PySem.W.looks_opaque KX1 T.opq) ((PySem.W.looks_clsIn KX1 hcl).andThen .now) rfl KX1 hsup (IA1.type.andThen (PySem.W.looks_subIn KX1 T.sub)) (PySem.W.ks_ne KX1 IA1 hcl) (by decide) ?_
  have k2 : ∀ b o, h0.get? b = some o → (h1.push (PySem.W.kxs_mw "ValueError.__init__" a)).get? b = some o := fun b o e => Heap.get?_push_of_some _ (k1 _ _ e)
  have hu2 : (h1.push (PySem.W.kxs_mw "ValueError.__init__" a)).get? h1.objs.size = some (PySem.W.kxs_mw "ValueError.__init__" a) := Heap.get?_push_at rfl rfl
  generalize h1.push (PySem.W.kxs_mw "ValueError.__init__" a) = h2 at k2 hu2
  generalize h1.objs.size = u at hu2
  have I2 : Inv (cxT T w base A outer s H xe) [] [some (.ref a), some (.int m)] H ⟨h2, s.gens, s.drawn, s.toks + ((["self", "most"] : List Str).zip us).length + 1, s.os⟩ := I.kept (t' := s.toks + ((["self", "most"] : List Str).zip us).length + 1) k2
  -- the wrapper stays while the text is made
  refine PySem.W.kxs_callWith (i := "ValueError.__init__") (x := a) rfl (PySem.Calls.evalArgs_plain (PyProof.Rows.args_cons (PySem.Calls.Constant_str (PyProof.Rows.args_nil ⟨hu2, ?_⟩)) rfl))
  have hx2 : h2.get? a = some (PySem.HandSPX.excO T.C t0) := k2 _ _ hx0
  refine call_mw ((KX0.keeps k2) _ _ hC) hx2 hu2 (by show 1 ≤ sizeLine; decide) fun h3 t1 k3 hx3 => ?_
  have eu : upd H a (exo a T.C none) = H := by
    funext b
    by_cases hb : b = a
    · rw [hb, upd_same, ha]
    · rw [upd_ne hb]
  have I3 := I2.write (t' := s.toks + ((["self", "most"] : List Str).zip us).length + 1 + 1) (x := a) (e := a) (o := exo a T.C none) (by rw [ha]; exact True.intro) (.inl rfl) k3 ⟨_, hx3⟩ (exo_ok hx3)
  rw [eu] at I3
  -- the field
  have st2 : PS (cxT T w base A outer s H xe) ((defBody s_TooMany_init).getD 1 (.Pass ⟨0, 0, 0, 0⟩)) (tOst K "most" (tVar 0) (tVar 1)) := ps_ost (X := cxT T w base A outer s H xe) (pv 0) (pv 1)
  refine PySem.ks_wpAt_execs_cons (wpAt_of_wpAny ?_)
  refine wpAny_mono (st2.run [] _ _ H { nx := fun σ' H' => Q .non H', rt := fun _ _ => False } I3 ⟨_, rfl, _, rfl, a, T.C, rfl, T.oex, T.noF, .inl ⟨ha, fun d nd ne => k d nd ne⟩⟩) (fun fl s' hs => ?_) fun e s' q => ?_
  · cases fl with
    | next =>
      obtain ⟨σ', H', J, q⟩ := hs
      refine wpAt_of_wpAny ?_
      show wpAny _ _ (execs [] _) _ _ _
      rw [execs_nil]
      exact wpAny_pure ⟨.non, H', J.os, J.bare, J.base, J.hok, rfl, q⟩
    | ret u => exact (hs.choose_spec.choose_spec.choose_spec.2.2 : False).elim
    | brk => exact (hs.choose_spec.choose_spec.2 : False).elim
    | cont => exact (hs.choose_spec.choose_spec.2 : False).elim
  · exact q
end
end PR
/-! text We3 -/
set_option Elab.async false
set_option linter.all false
set_option maxRecDepth 100000
set_option maxHeartbeats 1000000
namespace PR
open PySem PySem.Spec PyProof.Rows L2
def spRaise (CH C : Addr) : Sp := fun vs H _ E => ∃ (h la R a : Addr) (ds : List Dr) (Ls : List Nat), vs = [.ref h, .ref la] ∧ HouseAt CH H h R a ds ∧ H la = some (.tup (ivs Ls)) ∧
  FitOk ds Ls ∧ (∀ n ∈ Ls, 0 < n ∧ n < 100000000) ∧ 5000 < lcmL Ls ∧ Ls.length = R ∧ R ≤ 12 ∧ ∀ (H' : Hp) (d : Addr), Same H H' → H d = none → H' d = some (.xd [("most", .int 5000)]) → E (.ref C) (some d) H'
section
variable {P : Program} {w : World} {K : PySem.W.Frag} {mg : Str → Option Value} {base : Heap}
theorem ok_hall_raise (T : Txt K mg) (M : Tm P K mg) : FnOk P w K mg base (L2.CX P w) 8 T.hall_of_returns.a T.hall_of_returns.fd ["house", "fitting"] (spRaise T.cHouse M.C) := by
  refine T.hall_of_returns.F.ok sc_hall_of_returns (fun vs H Q E h => ?_) (fun cdv A0 outer s H vs Q E hr h => ?_)
  · obtain ⟨h, la, R, a, ds, Ls, rfl, _⟩ := h
    rfl
  · obtain ⟨ho, la, R, a, ds, Ls, rfl, hH, hla, hf, hb, hl, lLs, hR2, k⟩ := h
    obtain ⟨tS, mSeats⟩ := T.cSeats
    have hH0 := hH
    obtain ⟨⟨dh, hh⟩, ad, hd⟩ := hH
    refine ⟨_, (pss_cons (ps_expr (T.need_house.call (ok_need_house T) (hr.mono (by decide)) rfl (pa_cons (pv 0) pa_nil)))
      (pss_cons (ps_expr (T.need_fitting.call (ok_need_fitting T) (hr.mono (by decide)) rfl (pa_cons (pv 0) (pa_cons (pv 1) pa_nil))))
      (pss_cons (ps_set (i := 2) sc_hall_of_returns.nd rfl (Or.inl rfl) (T.least_common.call (ok_least_common T) (hr.mono (by decide)) rfl (pa_cons (pv 1) pa_nil)))
      (pss_cons (ps_if (pt_cmpR op_gt (pv 2) (pe_glob (v := .int 5000) rfl mSeats ⟨_, rfl⟩) (nomark _)) (pss_one (ps_raise rfl (takes_of rfl rfl rfl rfl) (pmk_oex M.oex M.ini M.tyf (ok_TooMany M T.m_super) (hr.mono (by decide)) M.b .nil pass0 rfl M.g (pa_cons (pe_glob (v := .int 5000) rfl mSeats ⟨_, rfl⟩) pa_nil)))) pss_nil)
      pss_never)))), ?_⟩
    refine ⟨_, rfl, ho, dh, _, rfl, hh, ?_⟩
    refine ⟨_, rfl, _, rfl, ho, la, R, a, ds, Ls, rfl, hH0, hla, hf, hb, lLs, hR2, fun H1 s1 => ?_⟩
    refine ⟨_, rfl, la, Ls, rfl, .inl (s1 _ _ hla), hb, ?_⟩
    refine ⟨_, rfl, _, _, rfl, rfl, true, bl_t (by omega), iteT ⟨(show 1 ≤ 1000 by decide), fun e ne => ?_⟩⟩
    refine ⟨e, 5000, rfl, upd_same, fun d nd nde => ⟨rfl, d, [("most", .int 5000)], upd_same, ?_, ?_, ?_⟩⟩
    · rw [upd_ne nde, upd_same]
    · rw [upd_ne nde] at nd
      exact nd
    · have nd1 : H1 d = none := by
        rw [upd_ne nde] at nd
        exact nd
      refine k _ d ?_ (s1.free nd1) upd_same
      intro b o hbo
      have h1 := s1 _ _ hbo
      have n1 : b ≠ d := ne_of_none h1 nd1
      have n2 : b ≠ e := ne_of_none h1 ne
      rw [upd_ne n1, del_ne n2, upd_ne n2, upd_ne n1, upd_ne n2]
      exact h1
end
end PR
/-! text We4 -/
set_option Elab.async false
set_option linter.all false
set_option maxRecDepth 100000
set_option maxHeartbeats 1000000
/-! try .. except X as n, the exception kept as a value behind the suite -/
namespace PR
open PySem PySem.Spec PyProof.Rows L2
/-- at a: an exception of the class cls, its dict d -/
def ExA (cls : Value) (d : Option Addr) (a : Addr) : HO := .ext fun h => ∃ (oe : Obj) (vs : Array Value), h.get? a = some oe ∧ Zc cls d oe ∧ oe.data = .fields vs
theorem exA_ok {P : Program} {w : World} {H : Hp} {h : Heap} {a : Addr} {cls : Value} {d : Option Addr} {oe : Obj} {vs : Array Value} (e : h.get? a = some oe) (z : Zc cls d oe) (hd : oe.data = .fields vs) : ObjOk P w H h a (ExA cls d a) :=
  ⟨⟨oe, vs, e, z, hd⟩, ⟨oe, e⟩, fun h1 h2 q k => by
    obtain ⟨o, v, e1, e2, e3⟩ := q
    exact ⟨o, v, k _ e1, e2, e3⟩⟩
theorem exA_at {P : Program} {w : World} {H : Hp} {h : Heap} {a : Addr} {cls : Value} {d : Option Addr} (hok : HOk P w H h) (e : H a = some (ExA cls d a)) : ∃ (oe : Obj) (vs : Array Value), h.get? a = some oe ∧ Zc cls d oe ∧ oe.data = .fields vs := by
  have x : ObjOk P w H h a (.ext fun h => ∃ (oe : Obj) (vs : Array Value), h.get? a = some oe ∧ Zc cls d oe ∧ oe.data = .fields vs) := hok a _ e
  exact x.1
section
variable {X : Cx} {pins : List (Addr × Obj)} {σ : L2.St} {H : Hp} {s : Shared}
/-- an object that was not there at the entry is looked at from now on -/
theorem Inv.track {a : Addr} {o : HO} (I : Inv X pins σ H s) (na : H a = none) (n0 : X.s_0.heap.get? a = none) (nL : a ≠ X.env.locals) (nC : ∀ x c, X.env.cells.lookup x = some c → c ≠ a) (nP : ∀ p ∈ X.pn ++ pins, p.1 ≠ a)
    (ok : ObjOk X.prog X.w (upd H a o) s.heap a o) : Inv X pins σ (upd H a o) s := by
  have sm : ∀ {b : Addr} {u : HO}, H b = some u → upd H a o b = some u := fun {b u} e => by
    rw [upd_ne (ne_of_none e na)]
    exact e
  have nn : ∀ {b : Addr}, H b = none → b ≠ a → upd H a o b = none := fun {b} e n => by
    rw [upd_ne n]
    exact e
  refine ⟨I.ok, I.os, I.bare, ⟨I.base.keep, I.base.slot, fun b ob e n hx => ?_, I.base.there, fun b xs e => sm (I.base.tups b xs e), fun b ob u e => sm (I.base.frzs b ob u e), fun b ps e => ?_⟩, I.loc, I.cell, nn I.free (Ne.symm nL), fun x c e => nn (I.freeC x c e) (nC x c e), fun p hp => ?_, fun b ob e => ?_, I.len⟩
  · refine nn (I.base.free b ob e n hx) fun z => ?_
    rw [z, n0] at e
    cases e
  · obtain ⟨more, q⟩ := I.base.tbls b ps e
    exact ⟨more, sm q⟩
  · obtain ⟨e1, e2, e3, e4, e5⟩ := I.pin p hp
    exact ⟨e1, nn e2 (nP p hp), e3, e4, e5⟩
  · by_cases c : b = a
    · subst c
      rw [upd_same] at e
      cases e
      exact ok
    · rw [upd_ne c] at e
      exact (I.hok b ob e).stay (fun _ _ _ q => q) (fun _ q => sm q) fun _ _ q => sm q
theorem Inv.suite0 (I : Inv X pins σ H s) (a : Addr) : Inv (X.suite a (X.pn ++ pins)) [] σ H s :=
  ⟨I.ok.suite _ _, I.os, I.bare, I.base, I.loc, I.cell, I.free, I.freeC, fun p hp => I.pin p (by rw [List.append_nil] at hp; exact hp), I.hok, I.len⟩
theorem Inv.unsuite0 {a : Addr} {pn' : List (Addr × Obj)} (I : Inv (X.suite a (X.pn ++ pins)) pn' σ H s) (ok : X.Ok) : Inv X pins σ H s :=
  ⟨ok, I.os, I.bare, I.base, I.loc, I.cell, I.free, I.freeC, fun p hp => I.pin p (List.mem_append_left _ hp), I.hok, I.len⟩
end
/-- the wish: the exception is looked at in the suite, and behind it -/
def wTrk (K : PySem.W.Frag) (c : Value) (i L : Nat) (ts : TS) (Wout : WX) (D : Ends) : WX := fun cls d σ H =>
  ∃ b, PySem.W.exmOne K cls c = some b ∧ (b = true → σ.length = L → ∀ a, H a = none → ts { nx := fun σ' H' => D.nx (σ'.set i none) H', rt := D.rt, bk := fun σ' H' => D.bk (σ'.set i none) H', ct := fun σ' H' => D.ct (σ'.set i none) H' } (σ.set i (some (.ref a))) (upd H a (ExA cls d a))) ∧
    (b = false → Wout cls d σ H)
section
variable {X : Cx} {x n : Str} {c : Value} {i : Nat} {body suite : List Stmt} {b₀ : Stmt} {np pos pos' : Pos} {tb : WX → TS} {ts : TS} {Wout : WX}
theorem ps_try_trk (hs : X.stack = X.env :: X.outer) (hf : X.env.frame = some X.env.locals) (hex : X.ex = []) (hN : X.N.Nodup) (hi : X.N[i]? = some n) (hln : X.env.kindOf n = some .local) (hc : Names X x c) (tk : Takes X Wout)
    (hb : ∀ (W : WX) (pn : List (Addr × Obj)) (xe : Value → Shared → Prop), Takes (X.tr pn xe) W → PassesOwn (model X.prog X.w) X.A X.env xe → PSs (X.tr pn xe) body (tb W))
    (hsu : ∀ (a : Addr) (pn : List (Addr × Obj)), PSs (X.suite a pn) (b₀ :: suite) ts) :
    PS X (.Try body [.ExceptHandler (some (.Name x np)) (some n) (b₀ :: suite) pos'] [] [] pos) (fun D σ H => tb (wTrk X.K c i X.N.length ts Wout D) D σ H) := by
  refine ⟨fun pins s σ H D I h => ?_⟩
  have ok := I.ok
  have hfr : X.A.frames = some (X.env :: X.outer) := by rw [ok.frames, hs]
  have hloc : Loc X.env.scope n := .inl hln
  refine wpAny_Try_except ?_
  refine wpAny_mono ((hb (wTrk X.K c i X.N.length ts Wout D) (X.pn ++ pins) (fun e s₁ => wpAny (model X.prog X.w) X.A (noteFrame e X.env) (fun _ s₂ => wpAny (model X.prog X.w) X.A (setFlight e none) (fun _ s₃ =>
    wpAny (model X.prog X.w) X.A (handleBy e X.env [.ExceptHandler (some (.Name x np)) (some n) (b₀ :: suite) pos']) (SP X pins D) X.xe s₃) X.xe s₂) X.xe s₁) (fun u s' xx => ?_) PassesOwn.looking).run [] s σ H D (I.toTry _) h) (fun f s1 hsp => ?_) (fun e s1 he => he)
  · obtain ⟨a, B, sI, pins', σ', H', cls, d, rfl, JT, nb, up, sky, na, os, ag, b, hb1, hyes, hno⟩ := xx
    have J : Inv X pins σ' H' sI := JT.ofTry ok
    have sky' : Sky B (X.env :: X.outer) a (Zc cls d) X.env.locals s'.heap := by rw [← hs]; exact sky
    show wpAny (model X.prog X.w) X.A (noteFrame (.ref a) X.env) _ _ _
    refine Sky.land Zc.steady hfr hf sky' fun h3 fl3 up3 => ?_
    have J3 : Inv X pins σ' H' { s' with heap := h3 } := J.landed nb fl3.1 (up.trans up3) os ag
    obtain ⟨oe3, vs3, he3, hz3, hd3⟩ := fl3.there
    have nfr : a ∉ frs (X.env :: X.outer) := fun hm => by
      obtain ⟨_, o', e', hnf⟩ := fl3.2.2.1.mem hm
      rw [he3] at e'
      cases e'
      exact hnf _ hd3
    have nL : a ≠ X.env.locals := fun z => nfr (List.mem_filterMap.mpr ⟨X.env, List.mem_cons_self, by rw [hf, z]⟩)
    have nF : a ∉ X.fs := fun hm => by
      obtain ⟨e, he, q⟩ := List.mem_filterMap.mp hm
      exact nfr (List.mem_filterMap.mpr ⟨e, List.mem_cons_of_mem _ he, q⟩)
    -- it was not there before
    have nI : sI.heap.get? a = none := by
      cases e : sI.heap.get? a with
      | none => rfl
      | some o =>
        have z := nb a o e (by rw [hs]; exact nfr)
        rw [fl3.2.1] at z
        cases z
    have S3 := J3.suite he3 hd3 na nL nF
    refine wpAny_handleBy_cons (codeAny_handlers_test ?_) (by intro q; cases q)
    have LT : PySem.W.Looks (model X.prog X.w) h3 (typeOf (.ref a)) cls := fun A Q E s k q => wpAny_typeOf_ref (k _ _ he3) (by rw [hz3.1]; exact q)
    have LM := PySem.W.exm_one (M := model X.prog X.w) (J3.kIn) LT hb1
    have test : ∀ {Q : Value → Shared → Prop} {E : Value → Shared → Prop}, Q c { s' with heap := h3 } → wpAny (model X.prog X.w) (X.A.mark (some (.ref a))) (eval (.Name x np) X.env) Q E { s' with heap := h3 } := fun {Q E} q => by
      obtain ⟨hg, hdbg, hm | ⟨hm, hv, hnn⟩⟩ := hc
      · exact ld_glob (X := X.suite a ((a, oe3) :: (X.pn ++ pins))) S3 hg hm q hdbg
      · exact ld_blt (X := X.suite a ((a, oe3) :: (X.pn ++ pins))) S3 hg hm hv q hnn hdbg
    refine test (LM.here ?_)
    cases b with
    | true =>
      refine codeAny_handlers_suite_as ?_
      refine HandSPX.lands_againZ fl3 fun h4 fl4 up4 => ?_
      have J4 : Inv X pins σ' H' { s' with heap := h4 } := J.landed nb fl4.1 ((up.trans up3).trans up4) os ag
      obtain ⟨oe4, vs4, he4, hz4, hd4⟩ := fl4.there
      have n0 : X.s_0.heap.get? a = none := by
        cases e : X.s_0.heap.get? a with
        | none => rfl
        | some o =>
          obtain ⟨o', z⟩ := J.base.there a o e (by rw [hex]; simp)
          rw [nI] at z
          cases z
      have T4 : Inv X pins σ' (upd H' a (ExA cls d a)) { s' with heap := h4 } := by
        refine Inv.track J4 na n0 nL (fun y cc e z => ?_) (fun p hp z => ?_) (exA_ok he4 hz4 hd4)
        · obtain ⟨v, o, ho, hdd⟩ := J4.cell y cc e
          rw [z] at ho
          rw [show h4.get? a = some o from ho] at he4
          cases he4
          rw [hdd] at hd4
          cases hd4
        · have q := (J.pin p hp).1
          rw [z, nI] at q
          cases q
      refine store_ok (X := X.suite a (X.pn ++ pins)) (v := .ref a) (Inv.suite0 T4 a) hN hi hloc rfl (fun s5 S5 => ?_) (.inr hln)
      refine wpAny_mono ((hsu a (X.pn ++ pins)).run [] s5 _ _ _ S5 (hyes rfl J.len a na)) (fun f s6 hsp => ?_) (fun _ _ z => False.elim z)
      have end_ : ∀ {σ6 : L2.St} {H6 : Hp} {Q : Shared → Prop}, Inv (X.suite a (X.pn ++ pins)) [] σ6 H6 s6 → (∀ s7, Inv X pins (σ6.set i none) H6 s7 → Q s7) →
          wpAny (model X.prog X.w) X.A (do bindName X.env n .none; unbindBehindTheSuite X.env n pos') (fun _ s7 => Q s7) X.xe s6 := fun {σ6 H6 Q} S6 hq => gone_ok (Inv.unsuite0 S6 ok) hN hi hln hq
      cases f with
      | next =>
        obtain ⟨σ6, H6, S6, q6⟩ := hsp
        exact end_ S6 fun s7 J7 => ⟨_, _, J7, q6⟩
      | brk =>
        obtain ⟨σ6, H6, S6, q6⟩ := hsp
        exact end_ S6 fun s7 J7 => ⟨_, _, J7, q6⟩
      | cont =>
        obtain ⟨σ6, H6, S6, q6⟩ := hsp
        exact end_ S6 fun s7 J7 => ⟨_, _, J7, q6⟩
      | ret u =>
        obtain ⟨v6, σ6, H6, S6, r6, q6⟩ := hsp
        exact end_ S6 fun s7 J7 => ⟨_, _, _, J7, r6, q6⟩
    | false =>
      show wpAny _ X.A (handleBy (.ref a) X.env []) _ _ _
      refine wpAny_handleBy_nil ?_
      obtain ⟨k1, k2, k3, oe, vs, T, oT, ts', he, hz, hd, h1, hr⟩ := id fl3
      unfold PySem.passOn
      refine wpAny_bind (wpAny_field he hd h1 ?_)
      rw [if_neg (show ¬ ((Value.ref T == Value.none) = true) from by simp)]
      have fin : wpAny (model X.prog X.w) X.A (setFlight (.ref a) X.env.frame) (fun _ s4 => wpAny (model X.prog X.w) X.A (throw (.ref a) : Sem Flow) (SP X pins D) X.xe s4) X.xe { s' with heap := h3 } := by
        rw [hf]
        refine HandSPX.setFlight_upZ fl3 fun h4 hh4 up4 => wpAny_throw (tk _ _ ?_)
        exact ⟨a, B, sI, pins, σ', H', cls, d, rfl, J, nb, (up.trans up3).trans up4, .inr (.inr (by rw [hs]; exact hh4)), na, os, ag, hno rfl⟩
      first
        | exact wpAny_bind (wpAny_pure (wpAny_bind fin))
        | exact wpAny_bind fin
  · cases f with
    | next =>
      obtain ⟨σ', H', JT, q⟩ := hsp
      exact wpAny_execs_nil ⟨σ', H', JT.ofTry ok, q⟩
    | brk =>
      obtain ⟨σ', H', JT, q⟩ := hsp
      exact ⟨σ', H', JT.ofTry ok, q⟩
    | cont =>
      obtain ⟨σ', H', JT, q⟩ := hsp
      exact ⟨σ', H', JT.ofTry ok, q⟩
    | ret u =>
      obtain ⟨v, σ', H', JT, r, q⟩ := hsp
      exact ⟨v, σ', H', JT.ofTry ok, r, q⟩
end
end PR
/-! text We5 -/
set_option Elab.async false
set_option linter.all false
set_option maxRecDepth 100000
set_option maxHeartbeats 1000000
/-! _law_caught, given a lambda -/
namespace PR
open PySem PySem.Spec PyProof.Rows L2
/-- what the def makes of the lambda's reading: it raises -/
def TCaught (K : PySem.W.Frag) (CS : Addr) : (XK → Hp → VK → Prop) → Hp → VK → Prop := fun tl H Q =>
  tl (fun cls d H' => ∃ b, PySem.W.exmOne K cls (.ref CS) = some b ∧ (b = true → ∀ a, H' a = none → Q (.ref a) (upd H' a (ExA cls d a))) ∧ (b = false → False)) H (fun _ H' => ∃ v, (some (some V.non) : Option (Option V)) = some (some v) ∧ Q v H')
section
variable {X : Cx}
theorem caught_gives {q : Str} {CS g : Addr} {cdg : Value} (hme : X.mg "PullError" = some (.ref CS)) :
    LamX.GivesTo X ["_law_work", "_law_caught_here", "error"] "_law_caught" (defScope s_law_caught) g cdg (defBody s_law_caught) "_law_work" q (TCaught X.K CS) := by
  intro f c' s H Q tl act hc h
  refine ⟨_, pss_cons (ps_set (i := 1) sc_law_caught.nd rfl (Or.inl rfl) pe_non)
    (pss_cons (ps_try_trk (X := (cxOf C8.CX0 X.prog X.w X.K X.mg X.base ["_law_work", "_law_caught_here", "error"] "_law_caught" (defScope s_law_caught) g cdg X.A X.stack s H C8.E0).nox) (i := 2) (c := .ref CS) (Wout := fun _ _ _ _ => False)
      (tb := fun W D σ H => ∃ Ech : XK, (∀ cls d σ' H', Ech cls d H' → W cls d σ' H') ∧ σ[0]? = some (some (.ref f)) ∧ H c' = some (LamX.CodeO c' q) ∧ tl Ech H (fun _ H' => D.nx σ H'))
      rfl rfl rfl sc_law_caught.nd rfl (by show (defScope s_law_caught).names.lookup ("error" : Str) = _; decide +kernel) ⟨by show (defScope s_law_caught).names.lookup ("PullError" : Str) = _; decide +kernel, by decide, .inl hme⟩ LamX.takes0 (fun W pn xe tk _ => ?_) (fun a pn => pss_one (ps_set (i := 1) sc_law_caught.nd rfl (Or.inl rfl) (pv 2))))
    (pss_one (ps_ret (pv 1)))), ?_⟩
  · refine ⟨fun pins s' σ H' D I h' => ?_⟩
    obtain ⟨Ech, hW, h1, h2, h3⟩ := h'
    exact (pss_one (ps_expr (act W pn xe Ech _ _ tk hW))).run pins s' σ H' D I ⟨h1, h2, h3⟩
  · refine ⟨fun cls d H' => ∃ b, PySem.W.exmOne X.K cls (.ref CS) = some b ∧ (b = true → ∀ a, H' a = none → Q (.ref a) (upd H' a (ExA cls d a))) ∧ (b = false → False), fun cls d σ' H' hh => ?_, rfl, hc, h⟩
    obtain ⟨b, e1, e2, e3⟩ := hh
    refine ⟨b, e1, fun hb hl a na => ?_, e3⟩
    have hl : σ'.length = 3 := hl
    refine ⟨.ref a, ?_, .ref a, ?_, e2 hb a na⟩
    · rw [List.getElem?_set_self (by omega)]
    · show (((σ'.set 2 (some (V.ref a))).set 1 (some (V.ref a))).set 2 none)[1]? = _
      rw [List.getElem?_set_ne (by decide), List.getElem?_set_self (by rw [List.length_set]; omega)]
end
end PR
/-! text We6 -/
set_option Elab.async false
set_option linter.all false
set_option maxRecDepth 100000
set_option maxHeartbeats 1000000
/-! a caught exception that has its dict: isinstance, a field of it -/
namespace PySem.W
open PySem PySem.Spec PySem.Calls PyProof.Rows
section
variable {prog : Program} {w : World} {A : Around} {E : Value → Shared → Prop} {s : Shared} {K : Frag} {x D : Addr} {ox od : Obj}
theorem prk_class {Q : Option Value → Shared → Prop} (hga : findIn K (.ref D) "__getattribute__" = some (some (.builtin "BaseException.__getattribute__"))) (hgt : findIn K (.ref D) "__getattr__" = some none)
    (hsub : subIn K (.ref D) (.type "BaseException") = some true) (hic : (clsIn K D).isSome = true) (ha : findIn K (.ref D) "__class__" = some (some (.builtin "object.__class__")))
    (hn : specialIn K (.builtin "object.__class__") "__get__" = some (some (.builtin "getset_descriptor.__get__"))) (htk : takesIn K (.builtin "object.__class__") = some true) (hm : mroIn K D (.type "object") = some true)
    (X : K.In s.heap) (I : InstAt s.heap x ox D (some od)) (h : Q (some (.ref D)) { s with toks := s.toks + 1 }) : wpAny (model prog w) A (getAttr? (.ref x) "__class__") Q E s := by
  have hf : findObj K D (some od) "__class__" = some (.bind (.builtin "getset_descriptor.__get__") (.builtin "object.__class__")) := findObj_data hic ha hn htk
  obtain ⟨hp, g, d, t, os⟩ := s
  have T0 := I.type (M := model prog w)
  have T1 := looks_findIn (M := model prog w) X hga
  have T2 := looks_findIn (M := model prog w) X hgt
  have T3 := looks_find (M := model prog w) X I hf
  have sub : Looks (model prog w) hp (isInstance (.ref x) (.type "BaseException")) true := T0.andThen (looks_subIn X hsub)
  have n0 : (false && onTheHeap (Value.builtin "BaseException.__getattribute__")) = false := rfl
  have n2 : (Value.builtin "BaseException.__getattribute__" == Value.builtin "object.__getattribute__") = false := by decide +kernel
  have n1 : (onTheHeap (Value.ref D) && Value.builtin "BaseException.__getattribute__" == Value.builtin "object.__getattribute__") = false := by
    rw [n2]
    rfl
  unfold getAttr? getAttrBy? getAttrBy
  refine wpAny_bind (wpAny_mkText (wpAny_bind (wpAny_attempt (wpAny_holding (wpAny_bind (T0.at (wpAny_bind (T1.at ?_))))))))
  show wpAny _ _ (if (onTheHeap (Value.ref D) && Value.builtin "BaseException.__getattribute__" == Value.builtin "object.__getattribute__") = true then _ else _) _ _ _
  rw [n1, if_neg Bool.false_ne_true]
  unfold getAttrByItsOwn hookBefore
  refine wpAny_bind ?_
  rw [if_pos (show onTheHeap (Value.ref D) = true from rfl)]
  refine T2.at ?_
  refine wpAny_bind (wpAny_attempt (wpAny_holding ?_))
  unfold callGetattribute
  rw [n0, if_neg Bool.false_ne_true]
  unfold boundAndCalled
  rw [PySem.F.excAttr_ValueError.ga.bind (.ref x)]
  refine wpAny_bind (wpAny_pure ?_)
  show wpAny _ _ (call (.builtin "BaseException.__getattribute__") [.ref x, .str "__class__" t]) _ _ _
  refine wpAny_call (codeAny_call_builtin PySem.F.excAttr_ValueError.ga.plain PySem.F.entry_bexc_ga ?_)
  refine @check_slot (model prog w) _ _ ⟨hp, g, d, t + 1, os⟩ "BaseException.__getattribute__" "BaseException" "__getattribute__" (.ref x) [.str "__class__" t] [] _ (by decide +kernel) (by decide +kernel) sub (PySem.F.args_bexc_ga (.ref x) (.str "__class__" t)) ?_
  unfold Builtin.«object.__getattribute__»
  refine wpAny_bind (wpAny_of_eq (a := ((Value.ref x : Value), [Value.str "__class__" t])) (by first | rfl | (simp only [slotArgs]; rfl)) ?_)
  refine wpAny_bind (wpAny_pure (wpAny_bind (T0.at (wpAny_bind (T3.at ?_)))))
  show wpAny _ _ (holding [Value.builtin "object.__class__"] (call (.builtin "getset_descriptor.__get__") [.builtin "object.__class__", .ref x, .ref D]) >>= ret) _ _ _
  refine wpAny_bind (wpAny_holding (wpAny_call (class_get (s := ⟨hp, g, d, t + 1, os⟩) (ox := ox) (od := some od) X I hm ?_)))
  refine wpAny_pure ?_
  show wpAny _ _ (handedOut (.ref D)) _ _ _
  rw [handedOut_of (v := .ref D) rfl]
  first
    | exact wpAny_pure (wpAny_pure h)
    | exact wpAny_pure h
    | exact wpAny_pure (wpAny_bind (wpAny_pure (wpAny_pure h)))
theorem prk_kit (hga : findIn K (.ref D) "__getattribute__" = some (some (.builtin "BaseException.__getattribute__"))) (hgt : findIn K (.ref D) "__getattr__" = some none) (hsub : subIn K (.ref D) (.type "BaseException") = some true) (hic : (clsIn K D).isSome = true) (ha : findIn K (.ref D) "__class__" = some (some (.builtin "object.__class__")))
    (hn : specialIn K (.builtin "object.__class__") "__get__" = some (some (.builtin "getset_descriptor.__get__"))) (htk : takesIn K (.builtin "object.__class__") = some true) (hm : mroIn K D (.type "object") = some true) :
    KitX K (.ref x) (.ref D) (fun h => InstAt h x ox D (some od)) where
  ty := fun _ _ _ I => I.type
  it := fun _ _ X _ => by
    obtain ⟨cdD, hcD⟩ := Option.isSome_iff_exists.mp hic
    unfold clsIn at hcD
    split at hcD
    · rename_i c' d' cd' sl' ho
      intro A' Q' E' s' k q
      unfold isType loadHead
      exact wpAny_bind (wpAny_loadPart (k _ _ (X _ _ ho)) (wpAny_pure q))
    · cases hcD
  ne := fun h tp dd its n sl X htp => by
    obtain ⟨cdD, hcD⟩ := Option.isSome_iff_exists.mp hic
    refine Bool.eq_false_iff.mpr fun q => ?_
    have e : D = tp := Value.ref.inj (beq_iff_eq.mp q)
    subst e
    unfold clsIn at hcD
    split at hcD
    · rename_i c' d' cd' sl' ho
      have z := (X _ _ ho).symm.trans htp
      cases z
    · cases hcD
  ca := fun X I k => prk_class hga hgt hsub hic ha hn htk hm X I k
end
end PySem.W
namespace PR
open PySem PySem.Spec PyProof.Rows L2
/-- what an own exception class must say -/
structure Xc (K : PySem.W.Frag) (D : Addr) : Prop where
  ex : ExcC K D
  xf : XfC K D
  ic : (PySem.W.clsIn K D).isSome = true
theorem exA_inst {P : Program} {w : World} {H : Hp} {h : Heap} {a C d : Addr} {fs : List (Str × V)} (hok : HOk P w H h) (e : H a = some (ExA (.ref C) (some d) a)) (ed : H d = some (.xd fs)) :
    ∃ oe od mA, PySem.W.InstAt h a oe C (some od) ∧ h.get? d = some od ∧ h.Ns1 d mA ∧ ∀ f, RelO (fs.lookup f) (mA f) := by
  obtain ⟨oe, vs, e1, e2, e3⟩ := exA_at hok e
  have hx : ObjOk P w H h d (.xd fs) := hok d _ ed
  obtain ⟨mA, hns, hr⟩ := hx
  obtain ⟨od, es, ep, ho, rr⟩ := id hns
  refine ⟨oe, od, mA, ⟨e1, e2.1, ?_, ?_⟩, ho, hns, hr⟩
  · unfold PySem.W.notCls
    rw [e3]
  · rw [e2.2]
    exact ho
/-- isinstance(e, c), e a caught exception -/
def rIsX (K : PySem.W.Frag) : List V → Hp → VK → Prop := fun xs H Q => ∃ (a C d : Addr) (fs : List (Str × V)) (c : V) (cv : Value) (b : Bool), xs = [.ref a, c] ∧ H a = some (ExA (.ref C) (some d) a) ∧ H d = some (.xd fs) ∧ Xc K C ∧ (∀ u, RelV c u → u = cv) ∧ PySem.W.kitOne K (.ref C) cv = some b ∧ Q (.bl b) H
section
variable {X : Cx}
theorem call_isX : CallR X (.builtin "isinstance") (rIsX X.K) := by
  intro pins s σ H xs us Q I r h
  obtain ⟨a, C, d, fs, c, cv, b, rfl, ea, ed, T, hcv, e, q⟩ := h
  cases r with
  | cons rx rr =>
    cases rr with
    | cons rt rr =>
      cases rr
      cases rx
      have ec := hcv _ rt
      subst ec
      obtain ⟨oe, od, mA, J, _⟩ := exA_inst I.hok ea ed
      exact PySem.W.kia_one (PySem.W.prk_kit T.ex.hg T.ex.hk T.ex.hs T.ic T.ex.ha T.ex.hn T.ex.ht T.ex.hm) I.kIn J e (fun z => nomatch z) fun tk => ⟨.bl b, H, I.kept (t' := tk) fun _ _ z => z, rfl, q⟩
/-- e.f, e a caught exception -/
def tXfd (K : PySem.W.Frag) (f : Str) (te : TE) : TE := fun σ H Q => te σ H fun x H1 => ∃ (a C d : Addr) (fs : List (Str × V)) (v : V), x = .ref a ∧ H1 a = some (ExA (.ref C) (some d) a) ∧ H1 d = some (.xd fs) ∧ Xc K C ∧ PySem.W.findIn K (.ref C) f = some none ∧ fs.lookup f = some v ∧ Q v H1
theorem pe_xfd {e : Expr} {te : TE} {pos : Pos} {f : Str} (he : PE X e te) (hb : attributeBase e f X.env (eval e X.env) = eval e X.env := by rfl) : PE X (.Attribute e f pos) (tXfd X.K f te) := by
  refine ⟨fun pins s σ H Q I h => ?_⟩
  refine attr_of hb (thn (he.run pins s σ H _ I h) fun u s1 hh => ?_)
  obtain ⟨x, H1, I1, rx, a, C, d, fs, v, ex, ea, ed, T, hno, l, q⟩ := hh
  subst ex
  obtain rfl : u = Value.ref a := rx
  obtain ⟨oe, od, mA, J, ho, hns, hr⟩ := exA_inst I1.hok ea ed
  obtain ⟨od2, ho2, hl⟩ := lookIn_ns hns
  rw [ho] at ho2
  cases ho2
  obtain ⟨u, hu, ru⟩ := RelO.some_of (v := v) (o := mA f) (by rw [← l]; exact hr f)
  exact HandSPX.exc_get I1.kIn J T.xf.ga T.xf.gg T.xf.exC (PySem.W.findObj_own T.xf.hdC hno rfl (by rw [hl, hu])) (handed_of ru) ⟨v, H1, I1.tok _, ru, q⟩
end
end PR
/-! text W25 -/
set_option Elab.async false
set_option linter.all false
set_option maxRecDepth 100000
set_option maxHeartbeats 1000000
/-! the law -/
namespace PR
open PySem PySem.Spec PyProof.Rows L2
/-- what the law asks of the top, beyond Txt and Tm -/
structure Tl (P : Program) (K : PySem.W.Frag) (mg : Str → Option Value) (M : Tm P K mg) where
  a : Addr
  c : Addr
  dV : Value
  kV : Value
  doc : Value
  pm : Value
  ct : Value
  oc : Value
  an : Option Addr
  od : Option Addr
  osl : Array (Option Value)
  lk : K.lookup a = some ⟨oc, od, .func (PySem.W.fnOf "law" "law" (defArgs s_law) (defBody s_law) (defScope s_law) dV kV doc pm an (.ref c) ct), osl⟩
  code : PySem.W.codeIn K (.ref c) "law" = true
  CS : Addr
  gCS : mg "PullError" = some (.ref CS)
  exm : PySem.W.exmOne K (.ref M.C) (.ref CS) = some true
  xc : Xc K M.C
  kVE : PySem.W.kitOne K (.ref M.C) (.type "ValueError") = some true
  kTM : PySem.W.kitOne K (.ref M.C) (.ref M.C) = some true
abbrev Tl.fd {P : Program} {K : PySem.W.Frag} {mg : Str → Option Value} {M : Tm P K mg} (L : Tl P K mg M) : FuncData :=
  PySem.W.fnOf "law" "law" (defArgs s_law) (defBody s_law) (defScope s_law) L.dV L.kV L.doc L.pm L.an (.ref L.c) L.ct
abbrev lamQ : Str := "law.<locals>.<lambda>"
def spLaw (K : PySem.W.Frag) (P : Addr) : Sp := fun vs H Q _ => ∃ (a : Addr) (ns : List Int), vs = [.ref a] ∧ SqL K H a (ns.map V.int) ∧ ns.length ≤ 63 ∧ LamX.Tabs [(P, lamQ)] H ∧ ∀ H', Q (.bl true) H'
theorem tabs_chg {P s g c : Addr} {T : Int} {H H' : Hp} {q : Str} (t : LamX.Tabs [(P, q)] H) (st : StAt H s g c T) (e : Chg s g H H') : LamX.Tabs [(P, q)] H' := fun p hp => by
  obtain ⟨ps, h1, h2, h3⟩ := t p hp
  obtain ⟨gs, cs, l, t, a1, a2, _⟩ := st
  refine ⟨ps, e _ _ h1 (ne_of h1 a1 (by intro z; cases z)) (ne_of h1 a2 (by intro z; cases z)), h2, fun pos cv hc => ?_⟩
  obtain ⟨c, e1, e2⟩ := h3 pos cv hc
  refine ⟨c, e1, e _ _ e2 (ne_of e2 a1 (by unfold LamX.CodeO; intro z; cases z)) (ne_of e2 a2 (by unfold LamX.CodeO; intro z; cases z))⟩
theorem house_chg {C s g c x a : Addr} {R : Nat} {ds : List Dr} {T : Int} {H H' : Hp} (h : HouseAt C H x R a ds) (st : StAt H s g c T) (e : Chg s g H H') : HouseAt C H' x R a ds := by
  obtain ⟨⟨dx, h1⟩, h2⟩ := h
  have h2' := h2.chgT st e
  obtain ⟨gs, cs, l, t, a1, a2, _⟩ := st
  exact ⟨⟨dx, e _ _ h1 (ne_of h1 a1 (by intro z; cases z)) (ne_of h1 a2 (by intro z; cases z))⟩, h2'⟩
theorem mat_ext {H H' : Hp} {a : Addr} {vss : List (List V)} (m : MatAt .tup .tup H a vss) (e : LamX.ExtN H H') : MatAt .tup .tup H' a vss := by
  obtain ⟨as, h1, h2, h3⟩ := m
  refine ⟨as, e _ _ h1 (fun ps z => by cases z), h2, fun j vs h => ?_⟩
  obtain ⟨p, q1, q2⟩ := h3 j vs h
  exact ⟨p, q1, e _ _ q2 (fun ps z => by cases z)⟩
/-- what a lap holds on to -/
structure LF (C : Addr) (s g c a x q : Addr) (R : Nat) (ds : List Dr) (ns : List Nat) (T : Int) (H : Hp) : Prop where
  ho : HouseAt C H x R a ds
  nu : H q = some (.tup (ivs ns))
  st : StAt H s g c T
theorem LF.ext {C s g c a x q : Addr} {R : Nat} {ds : List Dr} {ns : List Nat} {T : Int} {H H' : Hp} (f : LF C s g c a x q R ds ns T H) (e : LamX.ExtN H H') : LF C s g c a x q R ds ns T H' := by
  obtain ⟨⟨⟨dx, h1⟩, h2⟩, h3, gs, cs, l, t, a1, a2, a3, a4⟩ := f
  exact ⟨⟨⟨dx, e _ _ h1 (fun ps z => by cases z)⟩, mat_ext h2 e⟩, e _ _ h3 (fun ps z => by cases z), gs, cs, l, t, e _ _ a1 (fun ps z => by cases z), e _ _ a2 (fun ps z => by cases z), e _ _ a3 (fun ps z => by cases z), a4⟩
theorem LF.same {C s g c a x q : Addr} {R : Nat} {ds : List Dr} {ns : List Nat} {T : Int} {H H' : Hp} (f : LF C s g c a x q R ds ns T H) (e : Same H H') : LF C s g c a x q R ds ns T H' := f.ext (LamX.ExtN.of e)
def gK {α : Type} : List α → List α → List α
  | [u], [w] => [u, w]
  | _, _ => []
theorem gK_two {α : Type} {us ws : List α} (h : (gK us ws).length = 2) : ∃ u w, us = [u] ∧ ws = [w] := by
  match us, ws, h with
  | [u], [w], _ => exact ⟨u, w, rfl, rfl⟩
section
variable {P : Program} {w : World} {K : PySem.W.Frag} {mg : Str → Option Value} {base : Heap}
theorem kb_hall (T : Txt K mg) : KBinds K T.hall_of_returns.fd ["house", "fitting"] ["fitting"] gK gK := by
  obtain ⟨oc, od, dV, kV, doc, pm, an, cdv, ct, osl, e, lk, hcd, hD, hK⟩ := T.hall_of_returns.F.ex
  rcases hD with ⟨_, rfl⟩ | ⟨z, _⟩
  · refine ⟨fun s us ws X hl => ?_, fun {vs us zs ws} r1 r2 => ?_⟩
    · obtain ⟨u, w, rfl, rfl⟩ := gK_two hl
      rw [e]
      exact .of_eq rfl
    · cases r1 with
      | nil => cases r2 <;> exact .nil
      | cons a r1 =>
        cases r1 with
        | nil =>
          cases r2 with
          | nil => exact .nil
          | cons b r2 =>
            cases r2 with
            | nil => exact .cons a (.cons b .nil)
            | cons => exact .nil
        | cons => exact .nil
  · exact absurd rfl z
end
end PR
/-! text W26 -/
set_option Elab.async false
set_option linter.all false
set_option maxRecDepth 100000
set_option maxHeartbeats 2000000
/-! the law: the walk -/
namespace PR
open PySem PySem.Spec PyProof.Rows L2
section
variable {P : Program} {w : World} {K : PySem.W.Frag} {mg : Str → Option Value} {base : Heap}
theorem bl_f' {p : Prop} [Decidable p] (h : p) : V.bl (!decide p) = V.bl false := by rw [decide_eq_true h]; rfl
theorem pe_hall_lam (T : Txt K mg) (M : Tm P K mg) {X : Cx} {A : Around} {outer : List Env} {s : Shared} {H : Hp} {E : XK} {scope : Scope} {f c' : Addr} {e : Expr} {es : List Expr} {t : TA} {p pos : Pos} (hP : X.prog = P) (hK : X.K = K) (hmg : X.mg = mg)
    (ha : PA (LamX.lamCx X A outer s H E scope f c') (e :: es) t) (hr : Room 8 (A.deeper (LamX.lamEnv X scope s.heap.objs.size f c'))) (hg : Gl (LamX.lamCx X A outer s H E scope f c') "hall_of_returns")
    (he : starEach (e :: es) (LamX.lamCx X A outer s H E scope f c').env = (false, eval e (LamX.lamCx X A outer s H E scope f c').env) :: starEach es (LamX.lamCx X A outer s H E scope f c').env := by rfl) (hpl : (backTo pos (starEach es (LamX.lamCx X A outer s H E scope f c').env)).any (·.1) = false := by rfl) :
    PE (LamX.lamCx X A outer s H E scope f c') (.Call (.Name "hall_of_returns" p) (e :: es) [] pos) (tCall (spRaise T.cHouse M.C) [] E t) := by
  subst hP
  subst hK
  subst hmg
  exact pe_call (ok_hall_raise T M) hr hg T.hall_of_returns.g T.hall_of_returns.F.kp T.hall_of_returns.b .nil (passes_call (takes_of rfl rfl rfl rfl) fun _ _ _ _ h => h) ha (by decide) he hpl
theorem ok_law (T : Txt K mg) (M : Tm P K mg) (L : Tl P K mg M) {P0 : Addr} (TB : LamX.TabB base mg L.c P0) : FnOk P w K mg base CX0 11 L.a L.fd ["_law_script"] (spLaw K P0) := by
  refine fn_of L.lk L.code sc_law (fun vs H Q E h => ?_) (fun A0 outer s H vs Q E hr h => ?_)
  · obtain ⟨a, ns, rfl, _⟩ := h
    rfl
  · obtain ⟨a, ns0, rfl, hsq, hlen, hT, k⟩ := h
    have hu := hu_of hr
    have huu := Nat.lt_of_succ_lt hu
    have hu64 := hr.units
    have hsz := sizeLine_eq
    obtain ⟨occ, odc, dVc, kVc, docc, pmc, anc, cdvc, ctc, oslc, ec, lkc, hcdc, _, _⟩ := T.law_caught.F.ex
    have bc := T.law_caught.b
    rw [ec] at lkc bc
    refine ⟨_, PSs.nox (pss_cons (ps_set (i := 1) sc_law.nd rfl (Or.inl rfl) (T.law_begun.call (ok_law_begun T) (hr.mono (by decide)) rfl (pa_cons (pv 0) pa_nil)))
      (pss_cons (ps_for PassesOwn.never rfl (pi_range1 rfl T.m_range (pa_cons pe_int pa_nil)) (pg_name (i := 2) sc_law.nd rfl (Or.inl rfl)) (pss_cons (ps_set (i := 3) sc_law.nd rfl (Or.inl rfl) (T.law_scope.call (ok_law_scope T) (hr.mono (by decide)) rfl (pa_cons (pv 1) (pa_cons pe_int (pa_cons pe_int pa_nil)))))
      (pss_cons (ps_asg (pe_tup (pa_cons (T.law_made.call (ok_law_made T) (hr.mono (by decide)) rfl (pa_cons (pv 3) pa_nil)) (pa_cons (T.law_fitting.call (ok_law_fitting T) (hr.mono (by decide)) rfl (pa_cons (pv 1) (pa_cons (pe_ix ix_tup (pv 3) pe_int (fun _ _ => rfl)) (pa_cons (pe_ix ix_tup (pv 3) pe_int (fun _ _ => rfl)) pa_nil)))) pa_nil))) (pg_tup rfl (pgs_cons (pg_name (i := 9) sc_law.nd rfl (Or.inr rfl)) (pgs_cons (pg_name (i := 4) sc_law.nd rfl (Or.inl rfl)) pgs_nil))))
      (pss_cons (ps_set (i := 5) sc_law.nd rfl (Or.inl rfl) (T.law_multiple.call (ok_law_multiple T) (hr.mono (by decide)) rfl (pa_cons (pv 4) pa_nil)))
      (C8.pss_cut (ps_if (pt_cmpR op_le (pv 5) pe_int (nomark _)) (pss_cons (ps_set (i := 6) sc_law.nd rfl (Or.inl rfl) (pe_callK (ok_hall_of_returns T) (hr.mono (by decide)) rfl T.hall_of_returns.g T.hall_of_returns.F.kp (kb_hall T) pass0 (pa_cons (pv 9) pa_nil) (pk_cons (pv 4) pk_nil)))
      (pss_cons (ps_if (PW.pt (pw_or (pt_not (pt_val (pe_callB call_isi rfl T.m_isinstance b_isinstance (pa_cons (pv 6) (pa_cons (pe_glob (v := .ref T.cHall) rfl T.dHall.g rfl) pa_nil))))) (pw_or (pt_not (pt_cmpR (op_eqG (rcG_ins (ok_House_eq T) T.eqHouse T.eqHouseF T.House_eq.b pass0) (hr.mono (by decide))) (pe_fld (pv 6) rfl) (pv 9) (nomark _))) (pw_or1 (pt_cmpR op_ne (pe_fld (pv 6) rfl) (pv 5) (nomark _)))))) (pss_one (ps_ret pe_bl)) pss_nil)
      (pss_cons (ps_if (PW.pt (pw_or (pt_not (pt_val (T.law_is_hall.call (ok_law_is_hall T) (hr.mono (by decide)) rfl (pa_cons (pe_ix ix_tup (pv 3) pe_int (fun _ _ => rfl)) (pa_cons (pe_ix ix_tup (pv 3) pe_int (fun _ _ => rfl)) (pa_cons (pe_tup (pa_cons (pe_fld (pv 6) rfl) (pa_cons (pe_fld (pv 6) rfl) pa_nil))) pa_nil)))))) (pw_or1 (pt_cmpR op_ne (pe_callB call_len_seq rfl T.m_len boot_len (pa_cons (pe_ix ix_tup (pe_fld (pv 6) rfl) pe_int (fun _ _ => rfl)) pa_nil)) (pv 5) (nomark _))))) (pss_one (ps_ret pe_bl)) pss_nil)
      (pss_cons (ps_if (pt_cmpR (op_neD hu64) (pe_lc (own := [("_law_rope_here", 10)]) (g := gName 10) (tt := tYes) rfl sc_law.nd (pi_tup (pe_fld (pv 6) rfl)) (blkOk_by (own := [("_law_rope_here", 10)]) (N := ["_law_script", "_law_state", "_law_lap", "_law_scope_here", "_law_numbers_here", "_law_many", "_law_found", "_law_caught_here", "_law_great", "_law_house_here", "_law_rope_here", "_law_number"]) (sc := defScope s_law) (by decide +kernel)) (fun _ _ _ _ _ => (pg_name (i := 10) sc_law.nd rfl (Or.inl rfl))) (fun _ _ _ _ _ => pts_nil) (fun _ _ _ _ _ => (T.law_lengths.call (ok_law_lengths T) (hr.mono (by decide)) rfl (pa_cons (pv 10) pa_nil)))) (pe_lc (own := [("_law_number", 11)]) (g := gName 11) (tt := tYes) rfl sc_law.nd (pi_tup (pv 4)) (blkOk_by (own := [("_law_number", 11)]) (N := ["_law_script", "_law_state", "_law_lap", "_law_scope_here", "_law_numbers_here", "_law_many", "_law_found", "_law_caught_here", "_law_great", "_law_house_here", "_law_rope_here", "_law_number"]) (sc := defScope s_law) (by decide +kernel)) (fun _ _ _ _ _ => (pg_name (i := 11) sc_law.nd rfl (Or.inl rfl))) (fun _ _ _ _ _ => pts_nil) (fun _ _ _ _ _ => (pe_lst (pa_cons (pv 11) pa_nil)))) (nomark _)) (pss_one (ps_ret pe_bl)) pss_nil)
      (pss_one (ps_if (pt_cmpR (op_neD hu64) (T.returns_of.call (ok_returns_of T) (hr.mono (by decide)) rfl (pa_cons (pv 6) pa_nil)) (pv 4) (nomark _)) (pss_one (ps_ret pe_bl)) pss_nil)))))) pss_nil)
      (pss_cons (ps_set (i := 8) sc_law.nd rfl (Or.inr rfl) (pe_callTy call_tuple_of rfl T.m_tuple b_tuple (pa_cons (pe_lc (own := [("_law_number", 11)]) (g := gName 11) (tt := tYes) rfl sc_law.nd (pi_tup (pv 4)) (blkOk_by (own := [("_law_number", 11)]) (N := ["_law_script", "_law_state", "_law_lap", "_law_scope_here", "_law_numbers_here", "_law_many", "_law_found", "_law_caught_here", "_law_great", "_law_house_here", "_law_rope_here", "_law_number"]) (sc := defScope s_law) (by decide +kernel)) (fun _ _ _ _ _ => (pg_name (i := 11) sc_law.nd rfl (Or.inl rfl))) (fun _ _ _ _ _ => pts_nil) (fun _ _ _ _ _ => (pe_op op_mul pe_int (pv 11)))) pa_nil)))
      (pss_cons (ps_set (i := 7) sc_law.nd rfl (Or.inl rfl) (LamX.pe_lamcall (T := [(P0, lamQ)]) (k := 8) rfl T.law_caught.g T.law_caught.F.kp lkc hcdc bc sc_law_caught rfl (Or.inl rfl) (caught_gives L.gCS) TB rfl (List.mem_singleton.mpr rfl) (fun p hp _ => by rw [List.mem_singleton.mp hp]; rfl) hr (LamX.lamS_by (sc := defScope s_law) (by decide +kernel)) rfl (fun _ _ _ _ _ => rfl) (fun A outer s H E f c' hr2 => pe_hall_lam T M rfl rfl rfl (pa_cons (pv 9) (pa_cons (pv 8) pa_nil)) hr2 rfl)))
      (pss_cons (ps_if (PW.pt (pw_or (pt_not (pt_val (T.law_is_truth.call (ok_law_is_truth T) (hr.mono (by decide)) rfl (pa_cons (T.are_fitting.call (ok_are_fitting T) (hr.mono (by decide)) rfl (pa_cons (pv 9) (pa_cons (pv 8) pa_nil))) (pa_cons pe_bl pa_nil))))) (pw_or1 (pt_not (pt_val (pe_callB call_isX rfl T.m_isinstance b_isinstance (pa_cons (pv 7) (pa_cons (pe_bltn (v := .ty "ValueError") rfl T.m_ValueError b_VE rfl) pa_nil)))))))) (pss_one (ps_ret pe_bl)) pss_nil)
      (pss_one (ps_if (PW.pt (pw_or (pt_not (pt_val (pe_callB call_isX rfl T.m_isinstance b_isinstance (pa_cons (pv 7) (pa_cons (pe_glob (v := .ref M.C) rfl M.g rfl) pa_nil))))) (pw_or1 (pt_cmpR op_ne (pe_xfd (pv 7)) pe_int (nomark _))))) (pss_one (ps_ret pe_bl)) pss_nil))))))))))
      (pss_one (ps_ret (pe_or (pe_cmp (pc_neI (T.law_draw.call (ok_law_draw T) (hr.mono (by decide)) rfl (pa_cons (pv 1) (pa_cons pe_int pa_nil))) pe_int) rfl) (pe_one (T.law_greatest_right.call0 (ok_law_greatest_right T) (hr.mono (by decide)) rfl))))))), ?_⟩
    refine ⟨_, rfl, a, ns0, rfl, hsq, hlen, fun H1 s g c s1 ns_ ng nc hS => ?_⟩
    have hT1 := hT.ext s1
    refine ⟨2, rfl, by decide, by decide, for_range (lo := 0) (n := 2) (fun i σ H' => StAt H' s g c (400 * (i : Int)) ∧ LamX.Tabs [(P0, lamQ)] H' ∧ ∃ (v2 v3 v4 v5 v6 v7 v8 v9 v10 v11 : Option V), σ = [some (.ref a), some (.ref s), v2, v3, v4, v5, v6, v7, v8, v9, v10, v11]) ⟨hS.le (by omega), hT1, _, _, _, _, _, _, _, _, _, _, rfl⟩ ?_ ?_⟩
    · rintro i σ H2 hi ⟨hS2, hT2, v2, v3, v4, v5, v6, v7, v8, v9, v10, v11, rfl⟩
      refine ⟨_, rfl, s, g, c, _, rfl, hS2, by unfold tMax; omega, fun H3 sc aD R ds nsc hsc hR hR2 hD hds hC hl hS3 ch3 => ?_⟩
      have hT3 := tabs_chg hT2 hS2 ch3
      refine ⟨_, rfl, sc, aD, R, ds, rfl, hsc, hD, hds, by omega, hR, by omega, hC, fun H4 x s4 nx hx => ?_⟩
      have hS4 := hS3.same s4
      have hT4 := hT3.ext s4
      have hsc4 := s4 _ _ hsc
      refine ⟨_, rfl, _, rfl, sc, _, _, _, rfl, rfl, SqT.of hsc4, rfl, _, rfl, sc, _, _, _, rfl, rfl, SqT.of hsc4, rfl, s, g, c, aD, _, R, ds, rfl, hR, hR2, hD.same s4, hds, by omega, hS4, by unfold tMax; omega, fun H5 q ns nq hq hns hnum hfit hS5 ch5 => ?_⟩
      have hT5 := tabs_chg hT4 hS4 ch5
      have hx5 := house_chg hx hS4 ch5
      have hsc5 := ch5 _ _ hsc4 (hS4.ne_tup hsc4).1 (hS4.ne_tup hsc4).2
      refine ⟨(show 2 ≤ sizeLine by decide), fun p np => ⟨p, _, rfl, SqT.of upd_same, rfl, ?_⟩⟩
      have s6 : Same H5 (upd H5 p (.tup [.ref x, .ref q])) := upd_S np
      generalize upd H5 p (.tup [.ref x, .ref q]) = H6 at s6
      have f6 : LF T.cHouse s g c aD x q R ds ns (400 * (i : Int) + 200 + 100) H6 := ⟨hx5.same s6, s6 _ _ hq, hS5.same s6⟩
      have hT6 := hT5.ext s6
      have hsc6 := s6 _ _ hsc5
      have hnb : ∀ n ∈ ns, 0 < n ∧ n < 100000000 := fun n hn => by
        have z := (hnum n hn).facts
        exact ⟨z.1, by omega⟩
      have hlc := lcm_num hnum
      have hlp := lcmL_pos fun n hn => (hnb n hn).1
      refine ⟨_, _, rfl, _, _, rfl, rfl, ?_⟩
      refine ⟨_, rfl, q, ns, rfl, f6.nu, hnb, ?_⟩
      refine ⟨fun σ H' => LF T.cHouse s g c aD x q R ds ns (400 * (i : Int) + 200 + 100) H' ∧ LamX.Tabs [(P0, lamQ)] H' ∧ ∃ v2 v6 v7 v8 v10 v11 : Option V, σ = [some (.ref a), some (.ref s), v2, some (.ref sc), some (.ref q), some (iv (lcmL ns)), v6, v7, v8, some (.ref x), v10, v11], ?_, ?_⟩
      · refine ⟨_, rfl, _, _, rfl, rfl, ?_⟩
        by_cases hm : lcmL ns ≤ 120
        · refine ⟨true, bl_t (by show ((lcmL ns : Nat) : Int) ≤ 120; omega), iteT ?_⟩
          refine ⟨_, rfl, _, rfl, x, q, lcmL ns, R, aD, ds, ns, rfl, f6.ho, f6.nu, hds, hfit, hnb, rfl, hns, hR, by omega, by omega, .inl (by omega), fun H7 y ro wa ws s7 ny hy wok => ?_⟩
          obtain ⟨⟨dy, hy7⟩, hH7, ⟨ar, hro⟩, hwa⟩ := hy
          have hH7' := hH7
          obtain ⟨⟨dx, hx7⟩, hD7⟩ := hH7
          have lar : ar.length = ns.length := mat_len hro
          have hLs : LsOk (lcmL ns) ns := fun n hn => ⟨(hnb n hn).1, dvd_lcmL hn⟩
          obtain ⟨L0, e0⟩ : ∃ L0, ns[0]? = some L0 := ⟨_, List.getElem?_eq_getElem (by omega)⟩
          obtain ⟨p0, _, b0, r0⟩ := mat_at hro e0
          have b0' : atI (ar.map V.ref) 0 = some (.ref p0) := atI_nat (j := 0) b0
          have hsc7 := s7 _ _ hsc6
          refine ⟨_, rfl, _, _, _, _, true, rfl, .own _, .base (.ins hy7 T.dHall.cl T.dHall.ha T.hn T.htk T.dHall.hm), T.dHall.ki, true, rfl, iteF ?_⟩
          refine ⟨_, rfl, y, T.cHall, dy, _, _, rfl, hy7, T.dHall.cl, T.nHouse, lk_house x ro wa (lcmL ns), ?_⟩
          refine ⟨_, rfl, ⟨x, x, dx, dx, _, _, rfl, rfl, hx7, hx7, rfl, R, aD, ds, hH7'⟩, fun H8 s8 => ⟨true, rfl, iteF ?_⟩⟩
          have s8 : Same H7 H8 := s8
          have hy8 := s8 _ _ hy7
          have hro8 := hro.same s8
          refine ⟨_, rfl, y, T.cHall, dy, _, _, rfl, hy8, T.dHall.cl, T.nSeats, lk_seats x ro wa (lcmL ns), _, rfl, rfl, false, bl_f' rfl, iteF ?_⟩
          refine ⟨_, rfl, sc, _, _, _, rfl, rfl, SqT.of (s8 _ _ hsc7), rfl, _, rfl, sc, _, _, _, rfl, rfl, SqT.of (s8 _ _ hsc7), rfl, ?_⟩
          refine ⟨_, rfl, y, T.cHall, dy, _, _, rfl, hy8, T.dHall.cl, T.nRopes, lk_ropes x ro wa (lcmL ns), _, rfl, y, T.cHall, dy, _, _, rfl, hy8, T.dHall.cl, T.nWays, lk_ways x ro wa (lcmL ns), (show 2 ≤ sizeLine by decide), fun ha nha => ?_⟩
          have s9 : Same H8 (upd H8 ha (.tup [.ref ro, .ref wa])) := upd_S nha
          have hha : upd H8 ha (.tup [.ref ro, .ref wa]) ha = some (.tup [.ref ro, .ref wa]) := upd_same
          generalize upd H8 ha (.tup [.ref ro, .ref wa]) = H9 at s9 hha
          have s79 := s8.trans s9
          refine ⟨aD, ha, ro, wa, lcmL ns, R, ds, ns, ws, rfl, hD7.same s79, hha, ⟨ar, hro.same s79⟩, hwa.same s79, hLs, hns, hR, by omega, hlp, by omega, by omega, wok, fun H10 s10 => ⟨true, rfl, iteF ?_⟩⟩
          have s710 := s79.trans s10
          have hy10 := s710 _ _ hy7
          have hro10 := hro.same s710
          refine ⟨_, rfl, y, T.cHall, dy, _, _, rfl, hy10, T.dHall.cl, T.nRopes, lk_ropes x ro wa (lcmL ns), ro, _, _, _, rfl, rfl, SqT.of hro10.1, b0', p0, _, rfl, .inr (SqT.of (s710 _ _ r0)), _, rfl, rfl, false, ?_, iteF ?_⟩
          · rw [rope_len]
            exact bl_f' rfl
          refine ⟨_, rfl, y, T.cHall, dy, _, _, rfl, hy10, T.dHall.cl, T.nRopes, lk_ropes x ro wa (lcmL ns), ?_⟩
          have hq10 := s710 _ _ (s7 _ _ f6.nu)
          refine ⟨ro, rfl, ⟨_, SqT.of hro10.1⟩, fun G nG => lc_tup (K := K) (a := ro) (xs := ar.map V.ref) (fun j H' => Same H10 H' ∧ ∃ gs, Mat .lst .lst H' G gs ((ns.take j).map fun n => [iv n]) ∧ G ∉ gs) ⟨upd_S nG, [], ⟨upd_same, rfl, fun j vs h => by cases h⟩, by simp⟩ (fun j H' _ p => SqT.of (p.1 _ _ hro10.1)) ?_ ?_⟩
          · rintro j z H11 hz ⟨s11, gs, hG, nGs⟩
            obtain ⟨pr, n, rfl, h1, h2, h3⟩ := mat_in hro10 hz
            have hn := hnb n (List.mem_of_getElem? h2)
            refine ⟨rfl, _, rfl, pr, lcmL ns, n, rfl, s11 _ _ h3, hn.1, dvd_lcmL (List.mem_of_getElem? h2), hlp, by omega, fun H12 r s12 nr hr12 => ?_⟩
            have hG12 := hG.same s12
            refine ⟨_, hG12.1, by rw [List.length_map, mat_len hG, List.length_take]; omega, same_updN (s11.trans s12) nG, gs ++ [r], ?_, ?_⟩
            · rw [take_snoc h2, List.map_append]
              exact mat_snoc hG12 hr12 (ne_of_none hG.1 nr).symm nGs
            · rw [List.mem_append, List.mem_singleton]
              rintro (z | z)
              · exact nGs z
              · exact ne_of_none hG.1 nr z
          · rintro H11 ⟨s11, gs, hG, _⟩
            rw [List.length_map, lar, List.take_of_length_le (Nat.le_refl _)] at hG
            have hq11 := s11 _ _ hq10
            refine ⟨_, rfl, q, rfl, ⟨_, SqT.of hq11⟩, fun G2 nG2 => lc_tup (K := K) (a := q) (xs := ivs ns) (fun j H' => Same H11 H' ∧ ∃ gs, Mat .lst .lst H' G2 gs ((ns.take j).map fun n => [iv n]) ∧ G2 ∉ gs) ⟨upd_S nG2, [], ⟨upd_same, rfl, fun j vs h => by cases h⟩, by simp⟩ (fun j H' _ p => SqT.of (p.1 _ _ hq11)) ?_ ?_⟩
            · rintro j z H12 hz ⟨s12, gs2, hG2, nGs⟩
              obtain ⟨n, hn, rfl⟩ := ivs_at hz
              refine ⟨rfl, _, rfl, (show 1 ≤ sizeLine by decide), fun r nr => ?_⟩
              have s13 : Same H12 (upd H12 r (.lst [iv n])) := upd_S nr
              have hr13 : upd H12 r (.lst [iv n]) r = some (.lst [iv n]) := upd_same
              have hG13 := hG2.same s13
              refine ⟨_, hG13.1, by rw [List.length_map, mat_len hG2, List.length_take]; omega, same_updN (s12.trans s13) nG2, gs2 ++ [r], ?_, ?_⟩
              · rw [take_snoc hn, List.map_append]
                exact mat_snoc hG13 hr13 (ne_of_none hG2.1 nr).symm nGs
              · rw [List.mem_append, List.mem_singleton]
                rintro (z | z)
                · exact nGs z
                · exact ne_of_none hG2.1 nr z
            · rintro H12 ⟨s12, gs2, hG2, _⟩
              rw [ivs, List.length_map, List.take_of_length_le (Nat.le_refl _)] at hG2
              refine ne_nested (hG.same s12) hG2 ⟨false, rfl, iteF ?_⟩
              have s112 := s11.trans s12
              have s712 := s710.trans s112
              refine ⟨_, rfl, y, dy, x, ro, wa, lcmL ns, ns, rfl, s712 _ _ hy7, ⟨ar, hro.same s712⟩, hLs, hlp, by omega, by omega, fun H13 e s13 ne he => ?_⟩
              have s613 := (s7.trans s712).trans s13
              refine ⟨_, rfl, ne_tuples (SqT.of he) (SqT.of (s613 _ _ f6.nu)) ⟨false, rfl, iteF ?_⟩⟩
              exact ⟨f6.same s613, hT6.ext s613, _, _, _, _, _, _, rfl⟩
        · refine ⟨false, bl_f (by show ¬ ((lcmL ns : Nat) : Int) ≤ 120; omega), iteF ⟨f6, hT6, _, _, _, _, _, _, rfl⟩⟩
      · rintro σ H7 ⟨f7, hT7, v2', v6, v7, v8, v10, v11, rfl⟩
        refine ⟨_, rfl, q, rfl, ⟨_, SqT.of f7.nu⟩, fun G nG => lc_tup (K := K) (a := q) (xs := ivs ns) (fun j H' => Same H7 H' ∧ H' G = some (.lst (ivs ((ns.map fun n => 5003 * n).take j)))) ⟨upd_S nG, upd_same⟩ (fun j H' _ p => SqT.of (p.1 _ _ f7.nu)) ?_ ?_⟩
        · rintro j y H8 hy ⟨s8, hG⟩
          obtain ⟨n, hn, rfl⟩ := ivs_at hy
          refine ⟨rfl, _, rfl, _, _, rfl, rfl, cmul_r (by have := hnb n (List.mem_of_getElem? hn); omega), _, hG, ?_, same_updN s8 nG, ?_⟩
          · have h1 : (ivs ((ns.map fun n => 5003 * n).take j)).length ≤ ns.length := by
              rw [List.length_map, List.length_take, List.length_map]
              omega
            omega
          · have hn2 : (ns.map fun n => 5003 * n)[j]? = some (5003 * n) := by
              rw [List.getElem?_map, hn]
              rfl
            rw [upd_same, take_snoc hn2, ivs, ivs, List.map_append]
            congr 3
        · rintro H8 ⟨s8, hG⟩
          have hG' : H8 G = some (.lst (ivs (ns.map fun n => 5003 * n))) := by
            rw [hG, List.take_of_length_le (by rw [ivs, List.length_map, List.length_map]; omega)]
          refine ⟨G, _, rfl, .inl ⟨SqL.of hG', fun l nl => ?_⟩⟩
          have s9 : Same H7 (upd H8 l (.tup (ivs (ns.map fun n => 5003 * n)))) := s8.trans (upd_S nl)
          have hl9 : upd H8 l (.tup (ivs (ns.map fun n => 5003 * n))) l = some (.tup (ivs (ns.map fun n => 5003 * n))) := upd_same
          generalize upd H8 l (.tup (ivs (ns.map fun n => 5003 * n))) = H9 at s9 hl9
          have f9 := f7.same s9
          refine ⟨hT7.ext s9, fun H10 e10 hT10 => ?_⟩
          have f10 := f9.ext e10
          have hl10 := e10 _ _ hl9 (fun ps z => by cases z)
          have hgb : ∀ n ∈ ns.map (fun n => 5003 * n), 0 < n ∧ n < 100000000 := fun m hm => by
            obtain ⟨n, hn, rfl⟩ := List.mem_map.mp hm
            have z := (hnum n hn).facts
            show 0 < 5003 * n ∧ 5003 * n < 100000000
            exact ⟨by omega, by omega⟩
          have hfg := fit_great hfit hnum hds
          refine ⟨_, rfl, _, rfl, x, l, R, aD, ds, ns.map (fun n => 5003 * n), rfl, f10.ho, hl10, hfg, hgb, lcm_great hnum (by omega), by rw [List.length_map]; exact hns, (show R ≤ 12 from Nat.le_trans hR2 (by decide)), fun H11 d s11 nd hd => ?_⟩
          refine ⟨true, L.exm, fun _ e ne => ?_, fun z => by cases z⟩
          have s12 : Same H11 (upd H11 e (ExA (.ref M.C) (some d) e)) := upd_S ne
          have he12 : upd H11 e (ExA (.ref M.C) (some d) e) e = some (ExA (.ref M.C) (some d) e) := upd_same
          generalize upd H11 e (ExA (.ref M.C) (some d) e) = H12 at s12 he12
          have f12 := (f10.same s11).same s12
          have hl12 := s12 _ _ (s11 _ _ hl10)
          have hd12 := s12 _ _ hd
          have hT12 := (hT10.ext s11).ext s12
          refine ⟨_, rfl, _, rfl, x, l, R, aD, ds, ns.map (fun n => 5003 * n), rfl, f12.ho, hl12, hfg, hgb, by rw [List.length_map]; exact hns, by omega, fun H13 s13 => ?_⟩
          refine ⟨rfl, true, rfl, iteF ?_⟩
          have he13 := s13 _ _ he12
          have hd13 := s13 _ _ hd12
          have f13 := f12.same s13
          have hT13 := hT12.ext s13
          refine ⟨_, rfl, e, M.C, d, _, .ty "ValueError", .type "ValueError", true, rfl, he13, hd13, L.xc, (fun u r => r), L.kVE, true, rfl, iteF ?_⟩
          refine ⟨_, rfl, e, M.C, d, _, .ref M.C, .ref M.C, true, rfl, he13, hd13, L.xc, (fun u r => r), L.kTM, true, rfl, iteF ?_⟩
          refine ⟨_, rfl, e, M.C, d, _, .int 5000, rfl, he13, hd13, L.xc, M.noF, rfl, ?_⟩
          exact ⟨rfl, false, bl_f' rfl, iteF ⟨f13.st.le (by omega), hT13, _, _, _, _, _, _, _, _, _, _, rfl⟩⟩
    · rintro σ H2 ⟨hS2, hT2, v2, v3, v4, v5, v6, v7, v8, v9, v10, v11, rfl⟩
      refine ⟨_, rfl, s, g, c, _, 6, rfl, by decide, by decide, hS2, by unfold tMax; omega, fun r H3 r0 r1 hS3 ch => ?_⟩
      refine ⟨_, _, rfl, rfl, _, rfl, ?_⟩
      split
      · exact k _
      · exact ⟨rfl, fun _ _ => k _⟩
end
end PR
/-! text H1 -/
set_option Elab.async false
set_option linter.all false
set_option maxRecDepth 100000
set_option maxHeartbeats 1000000
/-! Txt, Tm, Tl of the head's facts -/
namespace PR
open PySem PySem.Spec PyProof.Rows L2
section
variable {K : PySem.W.Frag} {mg : Str → Option Value} {h : Heap} {f : Str}
theorem txt_of (X : K.In h) (G : h.Ns mainGlobals mg) (c : SaysY faY_ fnY_ f h K) : Nonempty (Txt K mg) := by
  obtain ⟨fd_is_number, F_is_number⟩ := c.d.def_ 0 (d := dd_is_number) rfl
  obtain ⟨fd_is_below, F_is_below⟩ := c.d.def_ 1 (d := dd_is_below) rfl
  obtain ⟨fd_are_numbers, F_are_numbers⟩ := c.d.def_ 2 (d := dd_are_numbers) rfl
  obtain ⟨fd_least_common, F_least_common⟩ := c.d.def_ 3 (d := dd_least_common) rfl
  obtain ⟨fd_is_door, F_is_door⟩ := c.d.def_ 4 (d := dd_is_door) rfl
  obtain ⟨fd_are_doors, F_are_doors⟩ := c.d.def_ 5 (d := dd_are_doors) rfl
  obtain ⟨fd_joined_rooms, F_joined_rooms⟩ := c.d.def_ 6 (d := dd_joined_rooms) rfl
  obtain ⟨fd_need_house, F_need_house⟩ := c.d.def_ 7 (d := dd_need_house) rfl
  obtain ⟨fd_is_arrangement, F_is_arrangement⟩ := c.d.def_ 8 (d := dd_is_arrangement) rfl
  obtain ⟨fd_are_arrangements, F_are_arrangements⟩ := c.d.def_ 9 (d := dd_are_arrangements) rfl
  obtain ⟨fd_seats_of, F_seats_of⟩ := c.d.def_ 10 (d := dd_seats_of) rfl
  obtain ⟨fd_round_from, F_round_from⟩ := c.d.def_ 11 (d := dd_round_from) rfl
  obtain ⟨fd_rounds_in, F_rounds_in⟩ := c.d.def_ 12 (d := dd_rounds_in) rfl
  obtain ⟨fd_pulled, F_pulled⟩ := c.d.def_ 13 (d := dd_pulled) rfl
  obtain ⟨fd_fits, F_fits⟩ := c.d.def_ 14 (d := dd_fits) rfl
  obtain ⟨fd_need_hall, F_need_hall⟩ := c.d.def_ 15 (d := dd_need_hall) rfl
  obtain ⟨fd_return_of, F_return_of⟩ := c.d.def_ 16 (d := dd_return_of) rfl
  obtain ⟨fd_returns_of, F_returns_of⟩ := c.d.def_ 17 (d := dd_returns_of) rfl
  obtain ⟨fd_fits_doors, F_fits_doors⟩ := c.d.def_ 18 (d := dd_fits_doors) rfl
  obtain ⟨fd_are_fitting, F_are_fitting⟩ := c.d.def_ 19 (d := dd_are_fitting) rfl
  obtain ⟨fd_need_fitting, F_need_fitting⟩ := c.d.def_ 20 (d := dd_need_fitting) rfl
  obtain ⟨fd_even_rounds, F_even_rounds⟩ := c.d.def_ 21 (d := dd_even_rounds) rfl
  obtain ⟨fd_paired, F_paired⟩ := c.d.def_ 22 (d := dd_paired) rfl
  obtain ⟨fd_hall_of_rounds, F_hall_of_rounds⟩ := c.d.def_ 23 (d := dd_hall_of_rounds) rfl
  obtain ⟨fd_hall_of_returns, F_hall_of_returns⟩ := c.d.def_ 24 (d := dd_hall_of_returns) rfl
  obtain ⟨fd_law_begun, F_law_begun⟩ := c.d.def_ 25 (d := dd_law_begun) rfl
  obtain ⟨fd_law_blended, F_law_blended⟩ := c.d.def_ 26 (d := dd_law_blended) rfl
  obtain ⟨fd_law_draw, F_law_draw⟩ := c.d.def_ 27 (d := dd_law_draw) rfl
  obtain ⟨fd_law_pick, F_law_pick⟩ := c.d.def_ 28 (d := dd_law_pick) rfl
  obtain ⟨fd_law_mixed, F_law_mixed⟩ := c.d.def_ 29 (d := dd_law_mixed) rfl
  obtain ⟨fd_law_caught, F_law_caught⟩ := c.d.def_ 30 (d := dd_law_caught) rfl
  obtain ⟨fd_law_is_truth, F_law_is_truth⟩ := c.d.def_ 31 (d := dd_law_is_truth) rfl
  obtain ⟨fd_law_is_whole, F_law_is_whole⟩ := c.d.def_ 32 (d := dd_law_is_whole) rfl
  obtain ⟨fd_law_common, F_law_common⟩ := c.d.def_ 33 (d := dd_law_common) rfl
  obtain ⟨fd_law_multiple, F_law_multiple⟩ := c.d.def_ 34 (d := dd_law_multiple) rfl
  obtain ⟨fd_law_size, F_law_size⟩ := c.d.def_ 35 (d := dd_law_size) rfl
  obtain ⟨fd_law_doors, F_law_doors⟩ := c.d.def_ 36 (d := dd_law_doors) rfl
  obtain ⟨fd_law_exponent, F_law_exponent⟩ := c.d.def_ 37 (d := dd_law_exponent) rfl
  obtain ⟨fd_law_both, F_law_both⟩ := c.d.def_ 38 (d := dd_law_both) rfl
  obtain ⟨fd_law_lowered, F_law_lowered⟩ := c.d.def_ 39 (d := dd_law_lowered) rfl
  obtain ⟨fd_law_fitting, F_law_fitting⟩ := c.d.def_ 40 (d := dd_law_fitting) rfl
  obtain ⟨fd_law_scope, F_law_scope⟩ := c.d.def_ 41 (d := dd_law_scope) rfl
  obtain ⟨fd_law_round, F_law_round⟩ := c.d.def_ 42 (d := dd_law_round) rfl
  obtain ⟨fd_law_power, F_law_power⟩ := c.d.def_ 43 (d := dd_law_power) rfl
  obtain ⟨fd_law_is_hall, F_law_is_hall⟩ := c.d.def_ 44 (d := dd_law_is_hall) rfl
  obtain ⟨fd_law_lengths, F_law_lengths⟩ := c.d.def_ 45 (d := dd_law_lengths) rfl
  obtain ⟨fd_law_made, F_law_made⟩ := c.d.def_ 46 (d := dd_law_made) rfl
  obtain ⟨fd_law_greatest_right, F_law_greatest_right⟩ := c.d.def_ 47 (d := dd_law_greatest_right) rfl
  obtain ⟨fd_House_init, F_House_init⟩ := c.d.def_ 48 (d := dd_House_init) rfl
  obtain ⟨fd_House_eq, F_House_eq⟩ := c.d.def_ 49 (d := dd_House_eq) rfl
  obtain ⟨fd_Hall_init, F_Hall_init⟩ := c.d.def_ 50 (d := dd_Hall_init) rfl
  exact ⟨{
    is_number := ⟨_, fd_is_number, F_is_number, (He.glo_ok X G (c.d.fact 0 (f := .glo "is_number") rfl)), FunD.bindsN (ps := ["value"]) F_is_number fun _ _ _ _ _ _ us hl => match us, hl with | [_], _ => rfl⟩,
    is_below := ⟨_, fd_is_below, F_is_below, (He.glo_ok X G (c.d.fact 1 (f := .glo "is_below") rfl)), FunD.bindsN (ps := ["value", "size"]) F_is_below fun _ _ _ _ _ _ us hl => match us, hl with | [_, _], _ => rfl⟩,
    are_numbers := ⟨_, fd_are_numbers, F_are_numbers, (He.glo_ok X G (c.d.fact 2 (f := .glo "are_numbers") rfl)), FunD.bindsN (ps := ["value"]) F_are_numbers fun _ _ _ _ _ _ us hl => match us, hl with | [_], _ => rfl⟩,
    least_common := ⟨_, fd_least_common, F_least_common, (He.glo_ok X G (c.d.fact 3 (f := .glo "least_common") rfl)), FunD.bindsN (ps := ["numbers"]) F_least_common fun _ _ _ _ _ _ us hl => match us, hl with | [_], _ => rfl⟩,
    is_door := ⟨_, fd_is_door, F_is_door, (He.glo_ok X G (c.d.fact 4 (f := .glo "is_door") rfl)), FunD.bindsN (ps := ["value", "rooms"]) F_is_door fun _ _ _ _ _ _ us hl => match us, hl with | [_, _], _ => rfl⟩,
    are_doors := ⟨_, fd_are_doors, F_are_doors, (He.glo_ok X G (c.d.fact 5 (f := .glo "are_doors") rfl)), FunD.bindsN (ps := ["value", "rooms"]) F_are_doors fun _ _ _ _ _ _ us hl => match us, hl with | [_, _], _ => rfl⟩,
    joined_rooms := ⟨_, fd_joined_rooms, F_joined_rooms, (He.glo_ok X G (c.d.fact 6 (f := .glo "joined_rooms") rfl)), FunD.bindsN (ps := ["doors"]) F_joined_rooms fun _ _ _ _ _ _ us hl => match us, hl with | [_], _ => rfl⟩,
    need_house := ⟨_, fd_need_house, F_need_house, (He.glo_ok X G (c.d.fact 7 (f := .glo "need_house") rfl)), FunD.bindsN (ps := ["house"]) F_need_house fun _ _ _ _ _ _ us hl => match us, hl with | [_], _ => rfl⟩,
    is_arrangement := ⟨_, fd_is_arrangement, F_is_arrangement, (He.glo_ok X G (c.d.fact 8 (f := .glo "is_arrangement") rfl)), FunD.bindsN (ps := ["value"]) F_is_arrangement fun _ _ _ _ _ _ us hl => match us, hl with | [_], _ => rfl⟩,
    are_arrangements := ⟨_, fd_are_arrangements, F_are_arrangements, (He.glo_ok X G (c.d.fact 9 (f := .glo "are_arrangements") rfl)), FunD.bindsN (ps := ["value", "many", "seats"]) F_are_arrangements fun _ _ _ _ _ _ us hl => match us, hl with | [_, _, _], _ => rfl⟩,
    seats_of := ⟨_, fd_seats_of, F_seats_of, (He.glo_ok X G (c.d.fact 10 (f := .glo "seats_of") rfl)), FunD.bindsN (ps := ["ropes"]) F_seats_of fun _ _ _ _ _ _ us hl => match us, hl with | [_], _ => rfl⟩,
    round_from := ⟨_, fd_round_from, F_round_from, (He.glo_ok X G (c.d.fact 11 (f := .glo "round_from") rfl)), FunD.bindsN (ps := ["arrangement", "seat"]) F_round_from fun _ _ _ _ _ _ us hl => match us, hl with | [_, _], _ => rfl⟩,
    rounds_in := ⟨_, fd_rounds_in, F_rounds_in, (He.glo_ok X G (c.d.fact 12 (f := .glo "rounds_in") rfl)), FunD.bindsN (ps := ["arrangement"]) F_rounds_in fun _ _ _ _ _ _ us hl => match us, hl with | [_], _ => rfl⟩,
    pulled := ⟨_, fd_pulled, F_pulled, (He.glo_ok X G (c.d.fact 13 (f := .glo "pulled") rfl)), FunD.bindsN (ps := ["arrangement", "times"]) F_pulled fun _ _ _ _ _ _ us hl => match us, hl with | [_, _], _ => rfl⟩,
    fits := ⟨_, fd_fits, F_fits, (He.glo_ok X G (c.d.fact 14 (f := .glo "fits") rfl)), FunD.bindsN (ps := ["ropes", "way", "door"]) F_fits fun _ _ _ _ _ _ us hl => match us, hl with | [_, _, _], _ => rfl⟩,
    need_hall := ⟨_, fd_need_hall, F_need_hall, (He.glo_ok X G (c.d.fact 15 (f := .glo "need_hall") rfl)), FunD.bindsN (ps := ["hall"]) F_need_hall fun _ _ _ _ _ _ us hl => match us, hl with | [_], _ => rfl⟩,
    return_of := ⟨_, fd_return_of, F_return_of, (He.glo_ok X G (c.d.fact 16 (f := .glo "return_of") rfl)), FunD.bindsN (ps := ["rope"]) F_return_of fun _ _ _ _ _ _ us hl => match us, hl with | [_], _ => rfl⟩,
    returns_of := ⟨_, fd_returns_of, F_returns_of, (He.glo_ok X G (c.d.fact 17 (f := .glo "returns_of") rfl)), FunD.bindsN (ps := ["hall"]) F_returns_of fun _ _ _ _ _ _ us hl => match us, hl with | [_], _ => rfl⟩,
    fits_doors := ⟨_, fd_fits_doors, F_fits_doors, (He.glo_ok X G (c.d.fact 18 (f := .glo "fits_doors") rfl)), FunD.bindsN (ps := ["house", "numbers"]) F_fits_doors fun _ _ _ _ _ _ us hl => match us, hl with | [_, _], _ => rfl⟩,
    are_fitting := ⟨_, fd_are_fitting, F_are_fitting, (He.glo_ok X G (c.d.fact 19 (f := .glo "are_fitting") rfl)), FunD.bindsN (ps := ["house", "thing"]) F_are_fitting fun _ _ _ _ _ _ us hl => match us, hl with | [_, _], _ => rfl⟩,
    need_fitting := ⟨_, fd_need_fitting, F_need_fitting, (He.glo_ok X G (c.d.fact 20 (f := .glo "need_fitting") rfl)), FunD.bindsN (ps := ["house", "fitting"]) F_need_fitting fun _ _ _ _ _ _ us hl => match us, hl with | [_, _], _ => rfl⟩,
    even_rounds := ⟨_, fd_even_rounds, F_even_rounds, (He.glo_ok X G (c.d.fact 21 (f := .glo "even_rounds") rfl)), FunD.bindsN (ps := ["seats", "length", "pulls"]) F_even_rounds fun _ _ _ _ _ _ us hl => match us, hl with | [_, _, _], _ => rfl⟩,
    paired := ⟨_, fd_paired, F_paired, (He.glo_ok X G (c.d.fact 22 (f := .glo "paired") rfl)), FunD.bindsN (ps := ["near", "far", "pairs"]) F_paired fun _ _ _ _ _ _ us hl => match us, hl with | [_, _, _], _ => rfl⟩,
    hall_of_rounds := ⟨_, fd_hall_of_rounds, F_hall_of_rounds, (He.glo_ok X G (c.d.fact 23 (f := .glo "hall_of_rounds") rfl)), FunD.bindsN (ps := ["house", "lengths", "seats", "pairs"]) F_hall_of_rounds fun _ _ _ _ _ _ us hl => match us, hl with | [_, _, _, _], _ => rfl⟩,
    hall_of_returns := ⟨_, fd_hall_of_returns, F_hall_of_returns, (He.glo_ok X G (c.d.fact 24 (f := .glo "hall_of_returns") rfl)), FunD.bindsN (ps := ["house", "fitting"]) F_hall_of_returns fun _ _ _ _ _ _ us hl => match us, hl with | [_, _], _ => rfl⟩,
    law_begun := ⟨_, fd_law_begun, F_law_begun, (He.glo_ok X G (c.d.fact 25 (f := .glo "_law_begun") rfl)), FunD.bindsN (ps := ["_law_script"]) F_law_begun fun _ _ _ _ _ _ us hl => match us, hl with | [_], _ => rfl⟩,
    law_blended := ⟨_, fd_law_blended, F_law_blended, (He.glo_ok X G (c.d.fact 26 (f := .glo "_law_blended") rfl)), FunD.bindsN (ps := ["_law_state"]) F_law_blended fun _ _ _ _ _ _ us hl => match us, hl with | [_], _ => rfl⟩,
    law_draw := ⟨_, fd_law_draw, F_law_draw, (He.glo_ok X G (c.d.fact 27 (f := .glo "_law_draw") rfl)), FunD.bindsN (ps := ["_law_state", "_law_size_here"]) F_law_draw fun _ _ _ _ _ _ us hl => match us, hl with | [_, _], _ => rfl⟩,
    law_pick := ⟨_, fd_law_pick, F_law_pick, (He.glo_ok X G (c.d.fact 28 (f := .glo "_law_pick") rfl)), FunD.bindsN (ps := ["_law_state", "_law_several"]) F_law_pick fun _ _ _ _ _ _ us hl => match us, hl with | [_, _], _ => rfl⟩,
    law_mixed := ⟨_, fd_law_mixed, F_law_mixed, (He.glo_ok X G (c.d.fact 29 (f := .glo "_law_mixed") rfl)), FunD.bindsN (ps := ["_law_state", "_law_several"]) F_law_mixed fun _ _ _ _ _ _ us hl => match us, hl with | [_, _], _ => rfl⟩,
    law_caught := ⟨_, fd_law_caught, F_law_caught, (He.glo_ok X G (c.d.fact 30 (f := .glo "_law_caught") rfl)), FunD.bindsN (ps := ["_law_work"]) F_law_caught fun _ _ _ _ _ _ us hl => match us, hl with | [_], _ => rfl⟩,
    law_is_truth := ⟨_, fd_law_is_truth, F_law_is_truth, (He.glo_ok X G (c.d.fact 31 (f := .glo "_law_is_truth") rfl)), FunD.bindsN (ps := ["_law_found", "_law_due"]) F_law_is_truth fun _ _ _ _ _ _ us hl => match us, hl with | [_, _], _ => rfl⟩,
    law_is_whole := ⟨_, fd_law_is_whole, F_law_is_whole, (He.glo_ok X G (c.d.fact 32 (f := .glo "_law_is_whole") rfl)), FunD.bindsN (ps := ["_law_item"]) F_law_is_whole fun _ _ _ _ _ _ us hl => match us, hl with | [_], _ => rfl⟩,
    law_common := ⟨_, fd_law_common, F_law_common, (He.glo_ok X G (c.d.fact 33 (f := .glo "_law_common") rfl)), FunD.bindsN (ps := ["_law_one", "_law_other"]) F_law_common fun _ _ _ _ _ _ us hl => match us, hl with | [_, _], _ => rfl⟩,
    law_multiple := ⟨_, fd_law_multiple, F_law_multiple, (He.glo_ok X G (c.d.fact 34 (f := .glo "_law_multiple") rfl)), FunD.bindsN (ps := ["_law_several"]) F_law_multiple fun _ _ _ _ _ _ us hl => match us, hl with | [_], _ => rfl⟩,
    law_size := ⟨_, fd_law_size, F_law_size, (He.glo_ok X G (c.d.fact 35 (f := .glo "_law_size") rfl)), FunD.bindsN (ps := ["_law_state"]) F_law_size fun _ _ _ _ _ _ us hl => match us, hl with | [_], _ => rfl⟩,
    law_doors := ⟨_, fd_law_doors, F_law_doors, (He.glo_ok X G (c.d.fact 36 (f := .glo "_law_doors") rfl)), FunD.bindsN (ps := ["_law_state", "_law_rooms_here", "_law_more"]) F_law_doors fun _ _ _ _ _ _ us hl => match us, hl with | [_, _, _], _ => rfl⟩,
    law_exponent := ⟨_, fd_law_exponent, F_law_exponent, (He.glo_ok X G (c.d.fact 37 (f := .glo "_law_exponent") rfl)), FunD.bindsN (ps := ["_law_prime", "_law_number"]) F_law_exponent fun _ _ _ _ _ _ us hl => match us, hl with | [_, _], _ => rfl⟩,
    law_both := ⟨_, fd_law_both, F_law_both, (He.glo_ok X G (c.d.fact 38 (f := .glo "_law_both") rfl)), FunD.bindsN (ps := ["_law_doors_here"]) F_law_both fun _ _ _ _ _ _ us hl => match us, hl with | [_], _ => rfl⟩,
    law_lowered := ⟨_, fd_law_lowered, F_law_lowered, (He.glo_ok X G (c.d.fact 39 (f := .glo "_law_lowered") rfl)), FunD.bindsN (ps := ["_law_doors_here", "_law_prime", "_law_caps"]) F_law_lowered fun _ _ _ _ _ _ us hl => match us, hl with | [_, _, _], _ => rfl⟩,
    law_fitting := ⟨_, fd_law_fitting, F_law_fitting, (He.glo_ok X G (c.d.fact 40 (f := .glo "_law_fitting") rfl)), FunD.bindsN (ps := ["_law_state", "_law_doors_here", "_law_rooms_here"]) F_law_fitting fun _ _ _ _ _ _ us hl => match us, hl with | [_, _, _], _ => rfl⟩,
    law_scope := ⟨_, fd_law_scope, F_law_scope, (He.glo_ok X G (c.d.fact 41 (f := .glo "_law_scope") rfl)), FunD.bindsN (ps := ["_law_state", "_law_most_rooms", "_law_more"]) F_law_scope fun _ _ _ _ _ _ us hl => match us, hl with | [_, _, _], _ => rfl⟩,
    law_round := ⟨_, fd_law_round, F_law_round, (He.glo_ok X G (c.d.fact 42 (f := .glo "_law_round") rfl)), FunD.bindsN (ps := ["_law_rope_here", "_law_seat_here"]) F_law_round fun _ _ _ _ _ _ us hl => match us, hl with | [_, _], _ => rfl⟩,
    law_power := ⟨_, fd_law_power, F_law_power, (He.glo_ok X G (c.d.fact 43 (f := .glo "_law_power") rfl)), FunD.bindsN (ps := ["_law_rope_here", "_law_times_here"]) F_law_power fun _ _ _ _ _ _ us hl => match us, hl with | [_, _], _ => rfl⟩,
    law_is_hall := ⟨_, fd_law_is_hall, F_law_is_hall, (He.glo_ok X G (c.d.fact 44 (f := .glo "_law_is_hall") rfl)), FunD.bindsN (ps := ["_law_rooms_here", "_law_doors_here", "_law_hall_here"]) F_law_is_hall fun _ _ _ _ _ _ us hl => match us, hl with | [_, _, _], _ => rfl⟩,
    law_lengths := ⟨_, fd_law_lengths, F_law_lengths, (He.glo_ok X G (c.d.fact 45 (f := .glo "_law_lengths") rfl)), FunD.bindsN (ps := ["_law_rope_here"]) F_law_lengths fun _ _ _ _ _ _ us hl => match us, hl with | [_], _ => rfl⟩,
    law_made := ⟨_, fd_law_made, F_law_made, (He.glo_ok X G (c.d.fact 46 (f := .glo "_law_made") rfl)), FunD.bindsN (ps := ["_law_scope_here"]) F_law_made fun _ _ _ _ _ _ us hl => match us, hl with | [_], _ => rfl⟩,
    law_greatest_right := ⟨_, fd_law_greatest_right, F_law_greatest_right, (He.glo_ok X G (c.d.fact 47 (f := .glo "_law_greatest_right") rfl)), FunD.bindsN (ps := []) F_law_greatest_right fun _ _ _ _ _ _ us hl => match us, hl with | [], _ => rfl⟩,
    House_init := ⟨_, fd_House_init, F_House_init, FunD.bindsN (ps := ["self", "rooms", "doors"]) F_House_init fun _ _ _ _ _ _ us hl => match us, hl with | [_, _, _], _ => rfl⟩,
    House_eq := ⟨_, fd_House_eq, F_House_eq, FunD.bindsN (ps := ["self", "other"]) F_House_eq fun _ _ _ _ _ _ us hl => match us, hl with | [_, _], _ => rfl⟩,
    Hall_init := ⟨_, fd_Hall_init, F_Hall_init, FunD.bindsN (ps := ["self", "house", "ropes", "ways"]) F_Hall_init fun _ _ _ _ _ _ us hl => match us, hl with | [_, _, _, _], _ => rfl⟩,
    cHouse := He.ga K "House",
    cHall := He.ga K "Hall",
    dHouse := ⟨(He.cls_ok (c.d.fact 48 (f := .cls "House") rfl)), (He.glo_ok X G (c.d.fact 49 (f := .glo "House") rfl)), (He.mkr_ok (c.d.fact 50 (f := .mkr "House") rfl)), He.eqO_ok (ex_at c.more 0), of_decide_eq_true (ex_at c.more 1), of_decide_eq_true (ex_at c.more 2)⟩,
    dHall := ⟨(He.cls_ok (c.d.fact 51 (f := .cls "Hall") rfl)), (He.glo_ok X G (c.d.fact 52 (f := .glo "Hall") rfl)), (He.mkr_ok (c.d.fact 53 (f := .mkr "Hall") rfl)), He.eqO_ok (ex_at c.more 3), of_decide_eq_true (ex_at c.more 4), of_decide_eq_true (ex_at c.more 5)⟩,
    hn := He.eqO_ok (ex_at c.more 6),
    htk := of_decide_eq_true (ex_at c.more 7),
    eqHouse := (He.meth_ok (c.d.fact 54 (f := .meth "House" "__eq__") rfl)).1,
    eqHouseF := (He.meth_ok (c.d.fact 54 (f := .meth "House" "__eq__") rfl)).2,
    nRooms := (He.noat_ok (c.d.fact 55 (f := .noat "House" "rooms") rfl)),
    nDoors := (He.noat_ok (c.d.fact 56 (f := .noat "House" "doors") rfl)),
    nHouse := (He.noat_ok (c.d.fact 57 (f := .noat "Hall" "house") rfl)),
    nRopes := (He.noat_ok (c.d.fact 58 (f := .noat "Hall" "ropes") rfl)),
    nWays := (He.noat_ok (c.d.fact 59 (f := .noat "Hall" "ways") rfl)),
    nSeats := (He.noat_ok (c.d.fact 60 (f := .noat "Hall" "seats") rfl)),
    gcd := PySem.W.mg_of X G (He.eqO_ok (ex_at c.more 8)),
    cRooms := (He.int_ok X G (c.d.fact 61 (f := .int "MOST_ROOMS" 12) rfl)),
    cDoors := (He.int_ok X G (c.d.fact 62 (f := .int "MOST_DOORS" 20) rfl)),
    cGreatest := (He.int_ok X G (c.d.fact 63 (f := .int "GREATEST" 999) rfl)),
    cSeats := (He.int_ok X G (c.d.fact 64 (f := .int "MOST_SEATS" 5000) rfl)),
    m_isinstance := (He.free_ok X G (c.d.fact 65 (f := .free "isinstance") rfl)),
    m_int := (He.free_ok X G (c.d.fact 66 (f := .free "int") rfl)),
    m_bool := (He.free_ok X G (c.d.fact 67 (f := .free "bool") rfl)),
    m_tuple := (He.free_ok X G (c.d.fact 68 (f := .free "tuple") rfl)),
    m_all := (He.free_ok X G (c.d.fact 69 (f := .free "all") rfl)),
    m_abs := (He.free_ok X G (c.d.fact 70 (f := .free "abs") rfl)),
    m_len := (He.free_ok X G (c.d.fact 71 (f := .free "len") rfl)),
    m_range := (He.free_ok X G (c.d.fact 72 (f := .free "range") rfl)),
    m_set := (He.free_ok X G (c.d.fact 73 (f := .free "set") rfl)),
    m_enumerate := (He.free_ok X G (c.d.fact 74 (f := .free "enumerate") rfl)),
    m_max := (He.free_ok X G (c.d.fact 75 (f := .free "max") rfl)),
    m_any := (He.free_ok X G (c.d.fact 76 (f := .free "any") rfl)),
    m_list := (He.free_ok X G (c.d.fact 77 (f := .free "list") rfl)),
    m_zip := (He.free_ok X G (c.d.fact 78 (f := .free "zip") rfl)),
    m_sorted := (He.free_ok X G (c.d.fact 79 (f := .free "sorted") rfl)),
    m_super := (He.free_ok X G (c.d.fact 80 (f := .free "super") rfl)),
    m_ValueError := (He.free_ok X G (c.d.fact 81 (f := .free "ValueError") rfl))
  }⟩
theorem tm_of {P : Program} (hf : P.main.file = f) (htop : (P.main.scope.names.lookup ("super" : Str)).isSome = false) (X : K.In h) (G : h.Ns mainGlobals mg) (c : SaysY faY_ fnY_ f h K) : ∃ M : Tm P K mg, M.C = tmC K := by
  obtain ⟨oc, od, osl, kV, doc, pm, an, cda, ct, cc, lk, hc, hfl, hce⟩ := fn_tm c.y (ex_at c.more 16)
  subst hf
  exact ⟨{
    C := tmC K
    f := tmF K
    cc := cc
    cda := cda
    dV := .none
    kV := kV
    doc := doc
    pm := pm
    ct := ct
    oc := oc
    an := an
    od := od
    osl := osl
    g := (He.glo_ok X G (c.d.fact 82 (f := .glo "TooMany") rfl))
    oex := ⟨oexB_ok (ex_at c.more 9), He.eqO_ok (ex_at c.more 10), of_decide_eq_true (ex_at c.more 11), of_decide_eq_true (ex_at c.more 12), ex_at c.more 13⟩
    ini := He.eqO_ok (ex_at c.more 14)
    tyf := of_decide_eq_true (ex_at c.more 15)
    fn := lk
    code := hc
    codeF := fileB_ok hfl
    cell := cellB_ok hce
    top := htop
    mro := of_decide_eq_true (ex_at c.more 17)
    sup := He.eqO_ok (ex_at c.more 18)
    sub := of_decide_eq_true (ex_at c.more 19)
    opq := He.eqO_ok (ex_at c.more 20)
    noF := He.eqO_ok (ex_at c.more 21)
    b := .all fun us hl => match us, hl with | [_, _], _ => rfl }, rfl⟩
theorem law_glo (X : K.In h) (G : h.Ns mainGlobals mg) (c : SaysY faY_ fnY_ f h K) : mg "law" = some (.ref (He.ga K "law")) := (He.glo_ok X G (c.d.fact 84 (f := .glo "law") rfl))
theorem tl_of {P : Program} (M : Tm P K mg) (hM : M.C = tmC K) (X : K.In h) (G : h.Ns mainGlobals mg) (c : SaysY faY_ fnY_ f h K) : ∃ L : Tl P K mg M, L.a = He.ga K "law" ∧ L.c = (He.cT K ("law", none)).1 ∧ ∀ (s : Shared) (u : Value), BindsTo s L.fd ⟨[u], []⟩ [("_law_script", u)] := by
  obtain ⟨fd, F⟩ := c.d.def_ 51 (d := dd_law) rfl
  have hb := FunD.bindsA (ps := ["_law_script"]) F fun _ _ _ _ _ _ us hl => match us, hl with | [_], _ => rfl
  obtain ⟨oc, od, dV, kV, doc, pm, an, cdv, ct, osl, e, lk, hcd, hD, hK⟩ := F.ex
  obtain ⟨a, rfl⟩ := He.codeIn_ref hcd
  subst e
  refine ⟨{
             a := He.ga K "law"
             c := a
             dV := dV
             kV := kV
             doc := doc
             pm := pm
             ct := ct
             oc := oc
             an := an
             od := od
             osl := osl
             lk := lk
             code := hcd
             CS := He.ga K "PullError"
             gCS := (He.glo_ok X G (c.d.fact 83 (f := .glo "PullError") rfl))
             exm := by
              rw [hM]
              exact (He.exm_ok (c.d.fact 85 (f := .exm "TooMany" "PullError" true) rfl))
             xc := by
              rw [hM]
              exact ⟨⟨He.eqO_ok (ex_at c.more 24), He.eqO_ok (ex_at c.more 25), of_decide_eq_true (ex_at c.more 11), ex_at c.more 26, He.eqO_ok (ex_at c.more 27), He.eqO_ok (ex_at c.more 6), of_decide_eq_true (ex_at c.more 7), of_decide_eq_true (ex_at c.more 28)⟩, ⟨He.eqO_ok (ex_at c.more 24), He.eqO_ok (ex_at c.more 25), of_decide_eq_true (ex_at c.more 11), ex_at c.more 26⟩, ex_at c.more 29⟩
             kVE := by
              rw [hM]
              exact of_decide_eq_true (ex_at c.more 22)
             kTM := by
              rw [hM]
              exact of_decide_eq_true (ex_at c.more 23) }, rfl, (He.codeOf_eq (p := ("law", none)) lk rfl).symm, fun s u => hb s [u] rfl⟩
end
end PR
/-! text H3 -/
set_option Elab.async false
set_option linter.all false
set_option maxRecDepth 100000
set_option maxHeartbeats 0
/-! the end -/
namespace PR
open PySem PySem.Spec PyProof.Rows L2
theorem sp_of {K : PySem.W.Frag} {P0 : Addr} {H : Hp} {a : Addr} {ns : List Int} (hl : ns.length ≤ 63) (hT : H P0 = some (.tbl #[])) (hS : SqL K H a (ns.map V.int)) : spLaw K P0 [.ref a] H (fun v _ => v = .bl true) fun _ _ _ => False :=
  ⟨a, ns, rfl, hS, hl, fun p hp => by rw [List.mem_singleton.mp hp]; exact LamX.TabS.nil hT, fun _ => rfl⟩
theorem law_at {l : PySem.W.OpenLaw} {w : World} {K : PySem.W.Frag} {mg : Str → Option Value} {h : Heap} {fa : Addr} {f : Str} (hf : l.prog.main.file = f) (htop : (l.prog.main.scope.names.lookup ("super" : Str)).isSome = false) (X : K.In h) (G : h.Ns mainGlobals mg) (hfa : mg ("law" : Str) = some (.ref fa)) (c : SaysY faY_ fnY_ f h K) :
    LamX.LawAtS l w K CX0 11 63 "_law_script" mg fa h := by
  obtain ⟨T⟩ := txt_of X G c
  obtain ⟨M, hM⟩ := tm_of (P := l.prog) hf htop X G c
  obtain ⟨L, hLa, hLc, hb⟩ := tl_of M hM X G c
  have e : fa = L.a := by
    rw [hLa]
    exact Value.ref.inj (Option.some.inj (hfa.symm.trans (law_glo X G c)))
  subst e
  refine ⟨L.fd, [He.cT K ("law", none)], spLaw K (He.cT K ("law", none)).2, fun p hp => ?_, fun p hp => ?_, fun p hp => ?_, hb, fun H a ns hl _ hT hS => ?_, fun base KB NB TB => ?_⟩
  · rw [List.mem_singleton.mp hp]
    exact c.empty
  · rw [List.mem_singleton.mp hp]
    exact c.out
  · rw [List.mem_singleton.mp hp]
    exact PySem.W.codeHd_of_K X c.hd
  · exact sp_of hl (hT _ (List.mem_singleton.mpr rfl)) hS
  · refine ok_law T M L ?_
    rw [hLc]
    exact TB _ (List.mem_singleton.mpr rfl)
end PR
open PySem PySem.W PySem.Calls PyProof.Rows
theorem PySem.Challenge.cw_pulledrooms_k63_whole_each_fitting_has_a_holds : PySem.Challenge.rw_pulledrooms_k63_whole_each_fitting_has_a.Holds := by
  w_on; o_law
  refine HandSHeadRun.head_imp (r := OpenLaw.row PySem.Challenge.rw_pulledrooms_k63_whole_each_fitting_has_a) (q := PR.qv) (H := PR.hk) (ob := PR.ob) (M := 6000) (loose := PR.names) (d := HandSHeadRun.topDef PR.Rw.prog 72) (kwd := []) PR.ob_eq PR.run
    (by kernel_rfl) (by kernel_rfl) (by kernel_rfl) (by rfl) (by first | assumption | decide +kernel) (by decide +kernel) ⟨rfl, rfl, rfl, rfl, rfl, by decide +kernel⟩ ?hw ?hc
  case hw => w_witness2
  case hc =>
    refine LamX.walk_ofTsE (l := PySem.Challenge.rw_pulledrooms_k63_whole_each_fitting_has_a) (n := 63) (k := 11) (x := "_law_script") (CX := fun _ => L2.CX0) rfl (by decide) (by kernel_rfl) ⟨rfl, by decide, by decide⟩ ?F (fun _ _ _ _ _ z => z)
    intro w mg fa h Y G hmg0
    obtain ⟨K, KX, c⟩ := Y
    have hmg : mg ("law" : PySem.Str) = some (.ref fa) := by
      have e : (HandSHeadRun.topDef PR.Rw.prog 72).name = ("law" : PySem.Str) := by kernel_rfl
      rw [← e]
      exact hmg0
    refine ⟨K, KX, PR.law_at (f := PR.fileP) ?hf ?htop KX G hmg c⟩
    case hf => rfl
    case htop => kernel_rfl
