/- What is known of library functions. No condition. -/
import Derived.Test.YtlajingmjmnfgaaGreatDoorLib
import Derived.Test.YtlajingmjmnfgaaGreatDoorDel
set_option linter.all false
