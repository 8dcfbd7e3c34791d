/- What is proved:the law MiniSame answers true at all arguments whose bulk is at most 1048576,whatever the run's choices.
 Conditions:none beyond those of the given statement. -/
import Derived.Test.YtdchbjmbgecejaaGreatDoorPu
import Derived.Test.YtdchbjmbgecejaaGreatDoorPl
import Derived.Test.YtdchbjmbgecejaaGreatDoorMs
set_option linter.unusedVariables false
noncomputable section
namespace Go.Proofs.YtdchbjmbgecejaaGreatDoor.Am
open Go Go.AM Go.Bk
set_option maxRecDepth 100000
theorem aex (x:g4.In) (h:wtA _ x<=1048576): ∃n,prg.run n 4 x=some true:=by
 obtain⟨b,S,fin,rs,e,fin',d⟩:=x;have g:wt (.sl [.int .i64]) b+(1+(wt (.sl [.int .i64]) fin+(wt (.sl [.int .i64,.sl [.int .i64],.int .i64]) rs+(1+(wt (.sl [.int .i64]) fin'+wt (.sl [.int .i64,.sl [.int .i64],.int .i64]) d)))))<=1048576:=h;have i:=(Wv rs).1;have k:=(Wv d).1;obtain⟨_,rfl,N,f⟩:=Xd b (S,fin,rs) (e,fin',d) (by dsimp only;omega) (by dsimp only;omega);exact⟨N,f N (aav _)⟩
theorem O8:Rows.MiniSameUptoCardSaid:=ZI λ x h _=>aex x h
end Go.Proofs.YtdchbjmbgecejaaGreatDoor.Am
namespace Go.Proofs.YtdchbjmbgecejaaGreatDoor
theorem same_holds:Rows.MiniSameUptoCardSaid:=Am.O8
end Go.Proofs.YtdchbjmbgecejaaGreatDoor
end
