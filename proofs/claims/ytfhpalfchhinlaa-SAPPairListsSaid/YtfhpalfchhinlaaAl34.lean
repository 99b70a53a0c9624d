/-
  The abstract logic: slices.SortFunc on a row of one's own, the comparison parting whatever two of the row are not one. Conditions: the library's function is the shelf's.
-/
import Derived.Test.YtfhpalfchhinlaaAl26
set_option linter.all false
namespace Go.AL
open Go.RowKit Go.Proofs Go.Shelf Go.Lib

section
variable {β : Type} {P : Program} {ρ : Ren}
/-- the elements of l (or some one, where there is none). -/
abbrev Among (l : List β) (d : β) : Type := { x : β // x ∈ l ∨ (l = [] ∧ x = d) }
def Among.one (l : List β) (d : β) : Among l d := match l with
  | [] => ⟨d, .inr ⟨rfl, rfl⟩⟩
  | a :: _ => ⟨a, .inl (List.mem_cons_self ..)⟩
theorem cst_sortD (L : SlLaysF0.n6 P ρ) (k : Nat) (k0 : 0 < k) (aE : ∀ w, (isAgg (ρ.t 24)).run P w = .ok true w) (zE : ∀ w, (Go.sizeOf (ρ.t 24)).run P w = .ok k w) (enc : β → List Value) (hkl : ∀ x, (enc x).length = k) (h1 : ∀ x, ∀ v ∈ enc x, v.oneCell' = true)
    (cf : β → β → Int) (hO : Go.Sort.SWO (ltOf cf)) (d : β) {l : List β} (hT : ∀ x ∈ l, ∀ y ∈ l, (ltOf cf) x y = false → (ltOf cf) y x = false → x = y) {f fs : Nat} (hfs : ρ.f 6 = fs) {Hl : HH} {nx b e ver : Nat} (F : β → AV) (hF : ∀ x, F x = .agg ((enc x).map .sc))
    (hb : hk Hl b = some (.row e k ver (l.map F))) (hcmp : ∀ x y, PCall P f [F x, F y] (.i (cf x y))) (hlen : l.length < 4611686018427387904) (hent : entB P fs = true) {K : Res → Prop}
    (hK : K ⟨.tup [], [(b, .row e k ver ((l.mergeSort fun x y => !(ltOf cf) y x).map F))], 0, [b]⟩) : cst P (hk Hl) nx (.clo fs []) [.ow b ver, .clo f []] K := by
  letI : Inhabited (Among l d) := ⟨Among.one l d⟩
  let l' : List (Among l d) := l.attach.map fun x => ⟨x.1, .inl x.2⟩
  have hl' : l'.map Subtype.val = l := by
    show (l.attach.map fun x => (⟨x.1, .inl x.2⟩ : Among l d)).map Subtype.val = l
    rw [List.map_map]
    exact (List.map_congr_left (fun x _ => rfl)).trans (List.attach_map_subtype_val l)
  have hmap : ∀ G : β → AV, l'.map (fun x => G x.1) = l.map G := fun G => by
    have := congrArg (List.map G) hl'
    rw [List.map_map] at this
    exact this
  have hms : (l'.mergeSort fun x y => !(ltOf (fun (x y : Among l d) => cf x.1 y.1)) y x).map (fun x => F x.1) = (l.mergeSort fun x y => !(ltOf cf) y x).map F := by
    have h2 := List.map_mergeSort (f := Subtype.val) (l := l') (r := fun x y => !(ltOf (fun (x y : Among l d) => cf x.1 y.1)) y x) (s := fun x y => !(ltOf cf) y x) (fun a _ b _ => rfl)
    rw [hl'] at h2
    rw [← h2, List.map_map]; rfl
  have hc := calls_sort (α := Among l d) L k k0 aE zE (fun x => enc x.1) (fun x => hkl x.1) (fun x => h1 x.1) (fun x y => cf x.1 y.1) ⟨fun x => hO.irrefl x.1, fun x y z => hO.trans x.1 y.1 z.1, fun x y z => hO.ntrans x.1 y.1 z.1⟩
    (fun x y hx hy => by
      obtain ⟨x, hxm⟩ := x
      obtain ⟨y, hym⟩ := y
      refine Subtype.ext ?_
      rcases hxm with hxm | ⟨h0, hxm⟩ <;> rcases hym with hym | ⟨h0', hym⟩
      · exact hT x hxm y hym hx hy
      · rw [h0'] at hxm; cases hxm
      · rw [h0] at hym; cases hym
      · exact hxm.trans hym.symm) hfs (Hl := Hl) (nx := nx) (b := b) (e := e) (ver := ver) (l := l') (fun x => F x.1) (fun x => hF x.1) (by rw [hmap F]; exact hb) (fun x y => hcmp x.1 y.1)
    (by rw [show l'.length = l.length by have := congrArg List.length hl'; rwa [List.length_map] at this]; exact hlen) hent
  rw [hms] at hc
  exact ⟨_, by rw [List.append_nil]; exact hc, hK⟩
end
end Go.AL
