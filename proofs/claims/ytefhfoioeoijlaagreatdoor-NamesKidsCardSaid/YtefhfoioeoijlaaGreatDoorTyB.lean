/- the rest of the types: all stand in Ty -/
import Derived.Test.YtefhfoioeoijlaaGreatDoorTy
