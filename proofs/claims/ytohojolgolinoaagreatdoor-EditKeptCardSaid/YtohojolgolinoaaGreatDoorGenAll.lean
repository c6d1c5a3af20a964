/- All walked functions. No condition. -/
import Derived.Test.YtohojolgolinoaaGreatDoorGenQ
set_option linter.all false
