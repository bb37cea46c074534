/- alive() returns true, and leaves all that was as it was. Condition: the variable MaxLen holds an int. -/
import Derived.KernelRfl
import Derived.Test.YtchaedgajgdchaaGreatDoorQR0
import Derived.Test.YtchaedgajgdchaaGreatDoorQR1
import Derived.Test.YtchaedgajgdchaaGreatDoorQR2
import Derived.Test.YtchaedgajgdchaaGreatDoorQR3
import Derived.Test.YtchaedgajgdchaaGreatDoorQR4
import Derived.Test.YtchaedgajgdchaaGreatDoorQR5
import Derived.Test.YtchaedgajgdchaaGreatDoorQR6
import Derived.Test.YtchaedgajgdchaaGreatDoorQR7
import Derived.Test.YtchaedgajgdchaaGreatDoorQR8
import Derived.Test.YtchaedgajgdchaaGreatDoorQR9
import Derived.Test.YtchaedgajgdchaaGreatDoorQR10
import Derived.Test.YtchaedgajgdchaaGreatDoorQR11
import Derived.Test.YtchaedgajgdchaaGreatDoorQM
section
set_option linter.unusedVariables false
set_option linter.unusedSimpArgs false
namespace Go.Proofs
open Go.Qe
def AllM (κ : Nat → Value) (P : Program) (B : Bd) (G : Nat) (L : List (Nat × Memo)) : Prop := ∀ f m, (f, m) ∈ L → MemoOk κ P B G f m
theorem AllM.nil {κ : Nat → Value} {P : Program} {B : Bd} {G : Nat} : AllM κ P B G [] := fun f m h => by cases h
theorem AllM.cons {κ : Nat → Value} {P : Program} {B : Bd} {G : Nat} {f : Nat} {m : Memo} {L : List (Nat × Memo)} (h : MemoOk κ P B G f m) (k : AllM κ P B G L) : AllM κ P B G ((f, m) :: L) := fun g x hm => by
  rcases List.mem_cons.1 hm with e | hm
  · cases e; exact h
  · exact k g x hm
section
variable {κ : Nat → Value} {B : Bd}
theorem Tryz.all0 (_hE : EnvOk κ Tryz.qenv B) : AllM κ Tryz.prog B Tryz.qenv.G Tryz.ml0 := .nil
theorem Tryz.all1 (hE : EnvOk κ Tryz.qenv B) : AllM κ Tryz.prog B Tryz.qenv.G Tryz.ml1 := .cons (memo_ok (E := Tryz.me0) (hE.memos Tryz.ml0 (Tryz.all0 hE)) Tryz.run_m0) (Tryz.all0 hE)
theorem Tryz.all2 (hE : EnvOk κ Tryz.qenv B) : AllM κ Tryz.prog B Tryz.qenv.G Tryz.ml2 := .cons (memo_ok (E := Tryz.me1) (hE.memos Tryz.ml1 (Tryz.all1 hE)) Tryz.run_m1) (Tryz.all1 hE)
theorem Tryz.all3 (hE : EnvOk κ Tryz.qenv B) : AllM κ Tryz.prog B Tryz.qenv.G Tryz.ml3 := .cons (memo_ok (E := Tryz.me2) (hE.memos Tryz.ml2 (Tryz.all2 hE)) Tryz.run_m2) (Tryz.all2 hE)
theorem Tryz.all4 (hE : EnvOk κ Tryz.qenv B) : AllM κ Tryz.prog B Tryz.qenv.G Tryz.ml4 := .cons (memo_ok (E := Tryz.me3) (hE.memos Tryz.ml3 (Tryz.all3 hE)) Tryz.run_m3) (Tryz.all3 hE)
theorem Tryz.all5 (hE : EnvOk κ Tryz.qenv B) : AllM κ Tryz.prog B Tryz.qenv.G Tryz.ml5 := .cons (memo_ok (E := Tryz.me4) (hE.memos Tryz.ml4 (Tryz.all4 hE)) Tryz.run_m4) (Tryz.all4 hE)
theorem Tryz.all6 (hE : EnvOk κ Tryz.qenv B) : AllM κ Tryz.prog B Tryz.qenv.G Tryz.ml6 := .cons (memo_ok (E := Tryz.me5) (hE.memos Tryz.ml5 (Tryz.all5 hE)) Tryz.run_m5) (Tryz.all5 hE)
theorem Tryz.all7 (hE : EnvOk κ Tryz.qenv B) : AllM κ Tryz.prog B Tryz.qenv.G Tryz.ml7 := .cons (memo_ok (E := Tryz.me6) (hE.memos Tryz.ml6 (Tryz.all6 hE)) Tryz.run_m6) (Tryz.all6 hE)
theorem Tryz.all8 (hE : EnvOk κ Tryz.qenv B) : AllM κ Tryz.prog B Tryz.qenv.G Tryz.ml8 := .cons (memo_ok (E := Tryz.me7) (hE.memos Tryz.ml7 (Tryz.all7 hE)) Tryz.run_m7) (Tryz.all7 hE)
theorem Tryz.all9 (hE : EnvOk κ Tryz.qenv B) : AllM κ Tryz.prog B Tryz.qenv.G Tryz.ml9 := .cons (memo_ok (E := Tryz.me8) (hE.memos Tryz.ml8 (Tryz.all8 hE)) Tryz.run_m8) (Tryz.all8 hE)
theorem Tryz.all10 (hE : EnvOk κ Tryz.qenv B) : AllM κ Tryz.prog B Tryz.qenv.G Tryz.ml10 := .cons (memo_ok (E := Tryz.me9) (hE.memos Tryz.ml9 (Tryz.all9 hE)) Tryz.run_m9) (Tryz.all9 hE)
theorem Tryz.all11 (hE : EnvOk κ Tryz.qenv B) : AllM κ Tryz.prog B Tryz.qenv.G Tryz.ml11 := .cons (memo_ok (E := Tryz.me10) (hE.memos Tryz.ml10 (Tryz.all10 hE)) Tryz.run_m10) (Tryz.all10 hE)
theorem Tryz.all12 (hE : EnvOk κ Tryz.qenv B) : AllM κ Tryz.prog B Tryz.qenv.G Tryz.ml12 := .cons (memo_ok (E := Tryz.me11) (hE.memos Tryz.ml11 (Tryz.all11 hE)) Tryz.run_m11) (Tryz.all11 hE)
theorem Tryz.env12 (hE : EnvOk κ Tryz.qenv B) : EnvOk κ Tryz.me12 B := hE.memos Tryz.ml12 (Tryz.all12 hE)
end
theorem Tryz.top_run : isRet (callD Tryz.me12 60 (.fn 13 []) 1000 .e) = true := by kernel_rfl
theorem Tryz.alive_ran (w : World) (m : Int) (hm : w.cell? ⟨4, 0, none⟩ = some (.int .i64 m)) : Calls Tryz.prog 13 #[] w fun e w' => e = .returned (.bool true) ∧ Quiet w w' := by
  have hsz : 4 < w.heap.size := by
    simp only [World.cell?] at hm
    cases h : w.heap[4]? with
    | none => simp [h] at hm
    | some o => exact (Array.getElem?_eq_some_iff.1 h).1
  have hE : EnvOk (fun _ => .nilIface) Tryz.me12 ⟨w.heap.size, w⟩ := Tryz.env12 (Tryz.env_ok _ ⟨w.heap.size, w⟩ m hsz hm)
  have key : ∀ r, callD Tryz.me12 60 (.fn 13 []) 1000 .e = r → isRet r = true → Ran Tryz.prog 13 #[] w fun e w' => e = .returned (.bool true) ∧ Quiet w w' := by
    intro r hr hi
    unfold isRet at hi
    split at hi
    · have h := eval_ran (κ := fun _ => .nilIface) hE (show Tryz.qenv.G ≤ 1000 by decide) hr (args' := []) .nil
      rcases h with ⟨v', w', h1, φ', v2, h2, h3, h4⟩ | ⟨h1, h2⟩
      · cases h2; exact .inl ⟨_, _, h1, by rw [h3.bool], h4⟩
      · refine .inr ⟨h1, h2.mono ?_⟩
        rintro e w' ⟨φ', v', rfl, hv, hq⟩
        exact ⟨by rw [hv.bool], hq⟩
    · cases hi
  rcases key _ rfl Tryz.top_run with ⟨v', w', h1, _⟩ | ⟨_, h2⟩
  · exfalso
    rw [callFunc_enter Tryz.func13 (by kernel_rfl) (bd := (Tryz.f13.body).get rfl) rfl _ _] at h1
    cases h1
  · exact h2
end Go.Proofs
end
