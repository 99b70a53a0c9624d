/-
  The plain law of chapter 16's statements. Conditions: none; no program in sight.
-/
import Derived.Test.YtehlfgikcipdaaaGreatM24
import Derived.Test.YtehlfgikcipdaaaGreatMB
set_option linter.all false
namespace Go.Carom
open Go Go.AL

theorem cps_pts (x y u v : Int) : cps x y x y u v u v = ⟨sat x, sat y, sat u, sat v⟩ := by
  have h0 : cb0 x y u v u v = ⟨sat x, sat y, sat u, sat v⟩ := by unfold cb0; rw [(cp_pt _ _ _ _).1, (cp_pt _ _ _ _).2, sat_sat, sat_sat]
  have h1 : cb1 x y u v u v = ⟨sat x, sat y, sat u, sat v⟩ := by unfold cb1; rw [(cp_pt _ _ _ _).1, (cp_pt _ _ _ _).2, sat_sat, sat_sat]
  have h2 : cb2 x y x y u v = ⟨sat x, sat y, sat u, sat v⟩ := by unfold cb2; rw [(cp_pt _ _ _ _).1, (cp_pt _ _ _ _).2, sat_sat, sat_sat]
  have h3 : cb3 x y x y u v = ⟨sat x, sat y, sat u, sat v⟩ := by unfold cb3; rw [(cp_pt _ _ _ _).1, (cp_pt _ _ _ _).2, sat_sat, sat_sat]
  unfold cps
  split
  · rename_i h
    have hn := segx_near h
    simp only [sat_sat] at hn
    have e1 : imin (sat u) (sat u) = sat u := imin_self _
    have e2 : imax (sat u) (sat u) = sat u := imax_self _
    have e3 : imin (sat v) (sat v) = sat v := imin_self _
    have e4 : imax (sat v) (sat v) = sat v := imax_self _
    rw [e1, e2, e3, e4] at hn
    rw [flerp_self, flerp_self, sat_sat, sat_sat]
    have a : sat x = sat u := by omega
    have b : sat y = sat v := by omega
    rw [← a, ← b]
  · have p : ∀ q : Q4, pick4 q q = q := fun q => by unfold pick4; rw [if_neg (Int.lt_irrefl _)]
    show pick4 (cb3 x y x y u v) (pick4 (cb2 x y x y u v) (pick4 (cb1 x y u v u v) (cb0 x y u v u v))) = _
    rw [h0, h1, h2, h3, p, p, p]
theorem circ_core' (R x y a : Int) (h : 2048 ≤ R) (h' : R ≤ 524288) : core 1 R [(0, 0)] x y a = [(sat x, sat y)] := by
  rw [core_if (circ_ok h h'), List.map_cons, List.map_nil]
  unfold tp apx apy
  simp only [(rt_0 _ _).1, (rt_0 _ _).2]
  unfold fadd
  rw [sat_zero, Int.zero_add, Int.zero_add, sat_sat, sat_sat]
def gap2 (r s px py qx qy : Int) : Int := fsub (fsub (vlen (fsub qx px) (fsub qy py)) r) s
theorem collS_circ {r s : Int} (px py qx qy a b : Int) (h : 2048 ≤ r ∧ r ≤ 524288) (h' : 2048 ≤ s ∧ s ≤ 524288) :
    (¬ gap2 r s px py qx qy ≤ 1024 → collS 1 r [(0, 0)] px py a 1 s [(0, 0)] qx qy b = Mf.z) ∧
    (gap2 r s px py qx qy ≤ 1024 → ∃ x y u v, collS 1 r [(0, 0)] px py a 1 s [(0, 0)] qx qy b = ⟨x, y, [⟨u, v, gap2 r s px py qx qy, 0⟩]⟩) := by
  have hc : collS 1 r [(0, 0)] px py a 1 s [(0, 0)] qx qy b = rndQ (cps (sat px) (sat py) (sat px) (sat py) (sat qx) (sat qy) (sat qx) (sat qy)) r s := by
    unfold collS
    rw [circ_core' r px py a h.1 h.2, circ_core' s qx qy b h'.1 h'.2, coll_rnd (k := 1) (k' := 1) (c := [(sat px, sat py)]) (c' := [(sat qx, sat qy)]) (Nat.le_refl 1) (Nat.le_refl 1) (by decide) (by decide)]
    rfl
  have hs : rndS ⟨sat (sat px), sat (sat py), sat (sat qx), sat (sat qy)⟩ r s = gap2 r s px py qx qy := by
    unfold rndS gap2
    simp only
    have e : ∀ a b, fsub (sat (sat a)) (sat (sat b)) = fsub a b := fun a b => by unfold fsub; rw [sat_sat, sat_sat, sat_sat, sat_sat]
    rw [e, e]
  rw [hc, cps_pts]
  refine ⟨fun hg => ?_, fun hg => ?_⟩
  · exact fin1_out (by rw [hs]; exact hg)
  · have hf : rndQ ⟨sat (sat px), sat (sat py), sat (sat qx), sat (sat qy)⟩ r s = _ := fin1_in (by rw [hs]; exact hg)
    rw [hf, hs]
    exact ⟨_, _, _, _, rfl⟩
theorem Mf.flip_ok (m : Mf) : m.flip.ok = m.ok := by
  unfold Mf.flip
  split
  · rename_i h; simp [Mf.ok, h, Mf.z]
  · rfl
theorem collS_cp {k r : Int} {ps : List (Int × Int)} {px py a k' r' : Int} {qs : List (Int × Int)} {ux uy b : Int} (h : k = 1) (h' : k' = 3) :
    collS k r ps px py a k' r' qs ux uy b = (collS k' r' qs ux uy b k r ps px py a).flip ∧ (collS k' r' qs ux uy b k r ps px py a).Bd := by
  by_cases hv : sval k r ps = 0 ∧ sval k' r' qs = 0
  · have ok := core_ok px py a hv.1
    have ok' := core_ok ux uy b hv.2
    unfold collS
    subst h
    rw [coll_cp ok.pos ok'.pos h', coll_pc ok'.pos ok.pos h']
    exact ⟨rfl, pc_bd _ _ _ _⟩
  · have hn := Decidable.not_and_iff_not_or_not.1 hv
    rw [collS_no hn, collS_no hn.symm]
    exact ⟨rfl, Mf.Bd.z⟩
theorem collS_okv {k r : Int} {ps : List (Int × Int)} {px py a k' r' : Int} {qs : List (Int × Int)} {ux uy b : Int} (h : ¬ (collS k r ps px py a k' r' qs ux uy b).ps.length = 0) : sval k r ps = 0 ∧ sval k' r' qs = 0 := by
  refine Classical.byContradiction fun hv => h ?_
  rw [collS_no (Decidable.not_and_iff_not_or_not.1 hv)]; rfl
theorem collS_ok (k r : Int) (ps : List (Int × Int)) (px py a k' r' : Int) (qs : List (Int × Int)) (ux uy b : Int) : MOk (collS k r ps px py a k' r' qs ux uy b) := coll_ok _ _ _ _ _ _
theorem collS_ex1 : collS 1 65536 [(0, 0)] 0 0 0 1 65536 [(0, 0)] 65536 0 0 = ⟨65536, 0, [⟨32768, 0, -65536, 0⟩]⟩ := by kernel_rfl
theorem collS_ex2 : collS 1 65536 [(0, 0)] 0 0 0 1 65536 [(0, 0)] 196608 0 0 = Mf.z := by kernel_rfl
theorem two_cases {l : List CPt} (h : l.length ≤ 2) : l = [] ∨ (∃ a, l = [a]) ∨ ∃ a b, l = [a, b] := by
  match l, h with
  | [], _ => exact .inl rfl
  | [a], _ => exact .inr (.inl ⟨a, rfl⟩)
  | [a, b], _ => exact .inr (.inr ⟨a, b, rfl⟩)
end Go.Carom
