/- What is proved:the law MiniClass answers true at all arguments whose bulk is at most 1048576,whatever the run's choices.
 Conditions:none beyond those of the given statement. -/
import Derived.Test.YtdchbjmbgecejaaGreatDoorPu
import Derived.Test.YtdchbjmbgecejaaGreatDoorPl
import Derived.Test.YtdchbjmbgecejaaGreatDoorMs
set_option linter.unusedVariables false
noncomputable section
namespace Go.Proofs.YtdchbjmbgecejaaGreatDoor.Am
open Go Go.AM Go.Bk
set_option maxRecDepth 100000
theorem agi (x:g6.In) (h:wtA _ x<=1048576): ∃n,prg.run n 6 x=some true:=by
 obtain⟨b,S,fin,rs,e,d⟩:=x;have g:wt (.sl [.int .i64]) b+(1+(wt (.sl [.int .i64]) fin+(wt (.sl [.int .i64,.sl [.int .i64],.int .i64]) rs+(1+wt (.rsl [.int .i64]) d))))<=1048576:=h;have i:=(afb rs).1;have k:=agG e d;obtain⟨_,rfl,N,f⟩:=U3 b (S,fin,rs) (.mk e d) Ω (by dsimp only;omega);exact⟨N,f N (aaw _)⟩
theorem N7:Rows.MiniClassUptoCardSaid:=aef λ x h _=>agi x h
end Go.Proofs.YtdchbjmbgecejaaGreatDoor.Am
namespace Go.Proofs.YtdchbjmbgecejaaGreatDoor
theorem cls_holds:Rows.MiniClassUptoCardSaid:=Am.N7
end Go.Proofs.YtdchbjmbgecejaaGreatDoor
end
