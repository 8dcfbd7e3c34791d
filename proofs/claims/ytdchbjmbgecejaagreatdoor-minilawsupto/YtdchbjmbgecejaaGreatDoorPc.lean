/- What is proved:the law MiniLaws answers true at all arguments whose bulk is at most 1048576,whatever the run's choices.
 Conditions:none beyond those of the given statement. -/
import Derived.Test.YtdchbjmbgecejaaGreatDoorPu
import Derived.Test.YtdchbjmbgecejaaGreatDoorPl
import Derived.Test.YtdchbjmbgecejaaGreatDoorMs
set_option linter.unusedVariables false
noncomputable section
namespace Go.Proofs.YtdchbjmbgecejaaGreatDoor.Am
open Go Go.AM Go.Bk
set_option maxRecDepth 100000
theorem ac4 (x:g5.In) (h:wtA _ x<=1048576): ∃n,prg.run n 5 x=some true:=by
 obtain⟨b,S,fin,rs,S',fin',rs',ta,tk⟩:=x;have h':wt (.sl [.int .i64]) b+(1+(wt (.sl [.int .i64]) fin+(wt (.sl [.int .i64,.sl [.int .i64],.int .i64]) rs+(1+(wt (.sl [.int .i64]) fin'+(wt (.sl [.int .i64,.sl [.int .i64],.int .i64]) rs'+(1+wt (.rsl [.int .i64]) tk)))))))<=1048576:=h;have h1:=(VR rs).1;have h2:=(VR rs').1;have h3:=aeD ta tk;obtain⟨_,rfl,N,hN⟩:=WO b (S,fin,rs) (S',fin',rs') (.mk ta tk) (by omega) (by dsimp only;omega) (by dsimp only;omega);exact⟨N,hN N (aaq _)⟩
theorem Ny:Rows.MiniLawsUptoCardSaid:=Yz λ x h _=>ac4 x h
end Go.Proofs.YtdchbjmbgecejaaGreatDoor.Am
namespace Go.Proofs.YtdchbjmbgecejaaGreatDoor
theorem laws_holds:Rows.MiniLawsUptoCardSaid:=Am.Ny
end Go.Proofs.YtdchbjmbgecejaaGreatDoor
end
