import Derived.Test.YtdilbnggedidnaaFHF11
namespace Go.Proofs.Ytdilbnggedidnaa.PVal
open Go.RowKit Go.Shelf Go.Proofs.YtdilbnggedidnaaW.PrintWords Go.Proofs.YtdilbnggedidnaaW.PrintLast
set_option linter.unusedVariables false
set_option linter.unusedSimpArgs false
set_option maxRecDepth 100000 in
set_option maxHeartbeats 2000000 in
theorem bool75_any {w : World} {base g : Nat} {l : List S25} {sp : Bool} (hf : FS w base g l sp) (i : Int) (must : Bool) :
  Calls Try.prog 75 #[.pointer (some ⟨g, 0, none⟩), .int .i64 i, .bool must] w fun e w' => (∃ b : Bool, e = .returned (.bool b)) ∧ FS w' base g l (sp || spoilP l i must (kindP [2])) ∧ Bg g w w' := by
 have HF := Aside0.mk hf
 clear hf
 go_enter Try.func75, Try.ntmps75
 go_wp2_with fail
 refine (number66_any HF.out i 2 must 0).mono ?_
 rintro e w2 ⟨rfl, hfs, hbg⟩
 have HFT := Aside0.mk hfs
 have HBT := Aside0.mk hbg
 clear hfs hbg
 go_wp2_with fail
 go_ret
 exact ⟨⟨_, rfl⟩, HFT.out, HBT.out⟩
end Go.Proofs.Ytdilbnggedidnaa.PVal
