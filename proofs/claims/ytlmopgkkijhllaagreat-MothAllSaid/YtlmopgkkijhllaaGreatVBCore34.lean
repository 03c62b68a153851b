import Derived.Test.YtlmopgkkijhllaaGreatVBB5
set_option linter.unusedVariables false
set_option linter.unusedSimpArgs false
namespace Go.Proofs.YtlmopgkkijhllaaGreat
namespace K
open Go
theorem au{G G':Prop}(k:G')(h:G'→G:=by
 intro k
 repeat (first
  |refine nt ?_ |refine mq ?_ |refine sr ?_ |refine aq ?_ |refine cq ?_ |refine gn ?_ |refine gm ?_ |refine sk ?_ |with_reducible refine tn ?_ |refine pf ?_ |refine pt ?_ |refine xr ?_ |refine gu ?_
  |refine be ?_ |with_reducible refine ax ?_ |with_reducible refine mM ?_ |with_reducible refine jy ?_ |with_reducible refine gC ?_ |with_reducible refine oO ?_ |with_reducible refine qz ?_ |refine dw ?_ |refine yu ?_ |refine je ?_ |refine cg ?_)
 exact k):G:=h k
end K
