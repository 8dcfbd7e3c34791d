/- What is proved:the law MiniMinimal answers true at all arguments whose bulk is at most 1048576,whatever the run's choices.
 Conditions:none beyond those of the given statement. -/
import Derived.Test.YtdchbjmbgecejaaGreatDoorPu
import Derived.Test.YtdchbjmbgecejaaGreatDoorPl
import Derived.Test.YtdchbjmbgecejaaGreatDoorMs
set_option linter.unusedVariables false
noncomputable section
namespace Go.Proofs.YtdchbjmbgecejaaGreatDoor.Am
open Go Go.AM Go.Bk
set_option maxRecDepth 100000
theorem UO (x:g3.In) (h:wtA _ x<=1048576): ∃n,prg.run n 3 x=some true:=by
 obtain⟨b,S,fin,rs,e,fin',d⟩:=x;have g:wt (.sl [.int .i64]) b+(1+(wt (.sl [.int .i64]) fin+(wt (.sl [.int .i64,.sl [.int .i64],.int .i64]) rs+(1+(wt (.sl [.int .i64]) fin'+wt (.sl [.int .i64,.sl [.int .i64],.int .i64]) d)))))<=1048576:=h;have i:=(Wx rs).1;have k:=(Wx d).1;obtain⟨_,rfl,N,f⟩:=P8 b (S,fin,rs) (e,fin',d) (by dsimp only;omega) (by dsimp only;omega);exact⟨N,f N (aav _)⟩
theorem Jt:Rows.MiniMinimalUptoCardSaid:=RU λ x h _=>UO x h
end Go.Proofs.YtdchbjmbgecejaaGreatDoor.Am
namespace Go.Proofs.YtdchbjmbgecejaaGreatDoor
theorem minimal_holds:Rows.MiniMinimalUptoCardSaid:=Am.Jt
end Go.Proofs.YtdchbjmbgecejaaGreatDoor
end
