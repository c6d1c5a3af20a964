/- All walked functions. No condition. -/
import Derived.Test.YtmhcoofnnmiejaaGreatDoorGenQ
set_option linter.all false
