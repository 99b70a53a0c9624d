/-
  Chapter 38: overlaps of sensors. Conditions: none.
-/
import Derived.Test.YtplmagdbnbijlaaGreatC115
import Derived.Test.YtplmagdbnbijlaaGreatAlC
import Derived.Test.YtplmagdbnbijlaaGreatAlD
import Derived.Outline
import Derived.Test.YtplmagdbnbijlaaGreatME
import Derived.Test.YtplmagdbnbijlaaGreatCV
import Derived.Test.YtplmagdbnbijlaaGreatAlF
import Derived.Test.YtplmagdbnbijlaaGreatC39
import Derived.Test.YtplmagdbnbijlaaGreatCW
import Derived.Test.YtplmagdbnbijlaaGreatCB
import Derived.Test.YtplmagdbnbijlaaGreatMA
import Derived.Test.YtplmagdbnbijlaaGreatMB
import Derived.Test.YtplmagdbnbijlaaGreatMF
set_option linter.all false
namespace Go.Proofs.YtplmagdbnbijlaaGreat
open Go.RowKit Go.AL Go.Carom
theorem fb_at {bs : List Bd} {id : Int} (h : 0 ≤ fbK bs id) : ((fbK bs id < 0) = False ∧ (0 ≤ fbK bs id) = True ∧ (fbK bs id < (bs.length : Int)) = True) ∧ (bs.map Bd.v).getD (fbK bs id).toNat .und = .agg [.i (bdZ bs id).id,.i (bdZ bs id).kd,.i (bdZ bs id).px,.i (bdZ bs id).py,.i (bdZ bs id).an,.i (bdZ bs id).vx,.i (bdZ bs id).vy,.i (bdZ bs id).av,.i (bdZ bs id).gx,.i (bdZ bs id).gy,.i (bdZ bs id).tq,.i (bdZ bs id).ld,.i (bdZ bs id).ad,.i (bdZ bs id).gs,.b (bdZ bs id).bul,.b (bdZ bs id).fr,.b (bdZ bs id).ns,.b (bdZ bs id).asl,.i (bdZ bs id).idl,.sl ((bdZ bs id).fs.map Fx.v)]:=by
 have h4:=fbK_lt bs id
 exact ⟨⟨eq_false (by omega),eq_true h,eq_true h4⟩,bd_getD (l:=bs) (i:=(fbK bs id).toNat) (by omega)⟩
end Go.Proofs.YtplmagdbnbijlaaGreat
