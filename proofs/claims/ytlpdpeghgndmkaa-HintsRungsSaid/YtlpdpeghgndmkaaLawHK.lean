/- The example works. -/
import Derived.Test.YtlpdpeghgndmkaaLawHJ
set_option linter.unusedVariables false
set_option linter.unusedSimpArgs false
namespace Go.Proofs.Ytlpdpeghgndmkaa.Pad
open Go
def Ex : Riddle := ⟨[⟨2, 4⟩, ⟨1, 4⟩], [[3, 1], [1]], [[⟨2, 0, 1, 4, 0, [], false⟩], []], [⟨0, 1, 1, 0⟩]⟩
def ExA : Aid := ⟨0, ⟨1, 0, 0, 3, 0, [], false⟩⟩
def Ex2 : Riddle := ⟨[⟨2, 4⟩, ⟨1, 4⟩], [[3, 1], [1]], [[⟨2, 0, 1, 4, 0, [], false⟩, ⟨1, 0, 0, 3, 0, [], false⟩], []], [⟨0, 1, 1, 0⟩]⟩
noncomputable def trc (c : Clue) (code : List Int) : Bool := (gc_ c code).getD false
theorem trc_eq {l : CodeLock} (hl : Lk l) {c : Clue} {code : List Int} (hc : df_ l c = true) (hk : cp_ l code = true) : tr c code = trc c code := by
  unfold trc; rw [tr_holds hl hc hk]; rfl
theorem rdg_c {l : CodeLock} (hl : Lk l) {cl : List Clue} (hc : ∀ c ∈ cl, df_ l c = true) : rdg l cl = (ff_ l.Symbols.toNat l.Wheels.toNat).filter fun c => cl.all (trc · c) := by
  unfold rdg
  refine List.filter_congr fun c hm => ?_
  have hk := (codes_ok hl).1 hm
  refine Bool.eq_iff_iff.2 ?_
  rw [List.all_eq_true, List.all_eq_true]
  exact ⟨fun h q hq => by rw [← trc_eq hl (hc q hq) hk]; exact h q hq, fun h q hq => by rw [trc_eq hl (hc q hq) hk]; exact h q hq⟩
theorem lk24 : Lk ⟨2, 4⟩ := ⟨by decide, by decide, by decide, by decide⟩
theorem lk14 : Lk ⟨1, 4⟩ := ⟨by decide, by decide, by decide, by decide⟩
theorem okq1 : ∀ c ∈ ([⟨2, 0, 1, 4, 0, [], false⟩] : List Clue), df_ ⟨2, 4⟩ c = true := by
  intro c hc; rw [List.mem_singleton.1 hc]; kernel_rfl
theorem okq2 : ∀ c ∈ ([⟨2, 0, 1, 4, 0, [], false⟩, ⟨1, 0, 0, 3, 0, [], false⟩] : List Clue), df_ ⟨2, 4⟩ c = true := by
  intro c hc
  rcases List.mem_cons.1 hc with rfl | hc
  · kernel_rfl
  · rw [List.mem_singleton.1 hc]; kernel_rfl
theorem rdgs_Ex : fb_ Ex = [[[1, 3], [2, 2], [3, 1]], [[0], [1], [2], [3]]] := by
  show [rdg _ _, rdg _ _] = _
  rw [rdg_c lk24 okq1, rdg_c lk14 (by simp)]
  kernel_rfl
theorem rdgs_Ex2 : fb_ Ex2 = [[[3, 1]], [[0], [1], [2], [3]]] := by
  show [rdg _ _, rdg _ _] = _
  rw [rdg_c lk24 okq2, rdg_c lk14 (by simp)]
  kernel_rfl
theorem ok31 : cp_ ⟨2, 4⟩ [3, 1] = true := by kernel_rfl
theorem good_Ex : Good Ex := by
  refine ⟨by decide, by decide, rfl, rfl, by decide, ?_, ?_⟩
  · intro i l c k h1 h2 h3
    match i with
    | 0 =>
      obtain rfl := Option.some.inj h1; obtain rfl := Option.some.inj h2; obtain rfl := Option.some.inj h3
      refine ⟨lk24, ok31, by decide, okq1, fun q hq => ?_⟩
      rw [trc_eq lk24 (okq1 q hq) ok31, List.mem_singleton.1 hq]; kernel_rfl
    | 1 =>
      obtain rfl := Option.some.inj h1; obtain rfl := Option.some.inj h2; obtain rfl := Option.some.inj h3
      exact ⟨lk14, by kernel_rfl, by decide, by simp, by simp⟩
    | i + 2 => simp [Ex] at h1
  · intro t ht
    rw [List.mem_singleton.1 ht]; kernel_rfl
theorem fit_Ex : fitW Ex = true := by
  unfold fitW lens; rw [rdgs_Ex]; kernel_rfl
theorem Wc_Ex : Wc Ex = [[[1, 3], [3]], [[2, 2], [2]], [[3, 1], [1]]] := by
  unfold Wc; rw [rdgs_Ex]; kernel_rfl
theorem Wc_Ex2 : Wc Ex2 = [[[3, 1], [1]]] := by
  unfold Wc; rw [rdgs_Ex2]; kernel_rfl
theorem valid_Ex : hf_ Ex ExA = true := by
  show (true && (df_ ⟨2, 4⟩ ⟨1, 0, 0, 3, 0, [], false⟩ && tr ⟨1, 0, 0, 3, 0, [], false⟩ [3, 1])) = true
  rw [trc_eq lk24 (okq2 _ (by simp)) ok31]
  kernel_rfl
theorem law07_works_eq : fy_ = some true := by
  have hs : st Ex = 0 := st_good good_Ex fit_Ex
  have hb : behE Ex ExA = 0 := by
    unfold behE; rw [if_pos hs, valid_Ex]; rfl
  have ht : told Ex ExA = Ex2 := rfl
  have hp : (idxs (kk_ Ex Ex2) 2).filter (fun x => !(x == (0 : Int))) = [1] := by
    have h0 : kk_ Ex Ex2 0 = true := by
      unfold kk_ poss mayBe; rw [rdgs_Ex, rdgs_Ex2, Wc_Ex, Wc_Ex2]; kernel_rfl
    have h1 : kk_ Ex Ex2 1 = true := by
      unfold kk_ poss mayBe; rw [rdgs_Ex, rdgs_Ex2, Wc_Ex, Wc_Ex2]; kernel_rfl
    rw [kf_, kf_, h0, h1]; rfl
  have hw : hj_ Ex = some (3, 0) := by
    rw [hints_Worlds_eq, if_pos hs, Wc_Ex]; rfl
  have hp2 : fz_ Ex ExA = some ([1], 0) := by
    rw [hints_Spoils_eq, if_pos hb, ht, show Ex.Locks.length = 2 from rfl, show ExA.Lock = 0 from rfl, hp]
  unfold fy_
  rw [show hz_ = some Ex from rfl, Option.bind_some, hw, Option.bind_some, Option.bind_some, show fz_ Ex ⟨0, ⟨1, 0, 0, 3, 0, [], false⟩⟩ = some ([1], 0) from hp2, Option.bind_some]
  simp only
  rw [if_pos (by rfl), if_pos (by rfl), if_pos (by rfl), iq_]
  rfl
end Go.Proofs.Ytlpdpeghgndmkaa.Pad
