/- What is proved:the law MiniMeans answers true at all arguments whose bulk is at most 1048576,whatever the run's choices.
 Conditions:none beyond those of the given statement. -/
import Derived.Test.YtdchbjmbgecejaaGreatDoorPu
import Derived.Test.YtdchbjmbgecejaaGreatDoorPl
import Derived.Test.YtdchbjmbgecejaaGreatDoorMs
noncomputable section
namespace Go.Proofs.YtdchbjmbgecejaaGreatDoor.Am
open Go Go.AM Go.Bk
set_option maxRecDepth 100000
set_option linter.unusedVariables false
theorem Xg (x:g7.In) (h:wtA _ x≤1048576): ∃n,prg.run n 7 x=some true:=by
 obtain⟨b,S,fin,rs,ta,tk,xa,xk,pos⟩:=x
 have h':wt (.sl [.int .i64]) b+(1+(wt (.sl [.int .i64]) fin+(wt (.sl [.int .i64,.sl [.int .i64],.int .i64]) rs+(1+(wt (.rsl [.int .i64]) tk+(1+(wt (.rsl [.int .i64]) xk+wt (.sl [.int .i64]) pos)))))))≤1048576:=h
 have h1:=(Zn rs).1
 have h2:=Xy ta tk
 have h3:=Xy xa xk
 obtain⟨_,rfl,N,hN⟩:=TD b S fin rs (.mk ta tk) (.mk xa xk) pos (by omega) (by omega) (by omega)
 exact⟨N,hN N (Nat.le_refl _)⟩
theorem KT:Rows.MiniMeansUptoCardSaid:=VP fun x h _=>Xg x h
end Go.Proofs.YtdchbjmbgecejaaGreatDoor.Am
namespace Go.Proofs.YtdchbjmbgecejaaGreatDoor
theorem means_holds:Rows.MiniMeansUptoCardSaid:=Am.KT
end Go.Proofs.YtdchbjmbgecejaaGreatDoor
end
