/- All walked functions. No condition. -/
import Derived.Test.YtjioihpegfgbpaaGreatDoorGenP
set_option linter.all false
