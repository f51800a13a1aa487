/- nothing is left out of Ty -/
import Derived.Test.YtefhfoioeoijlaaGreatTy
