/- What is known of library functions, together. No condition. -/
import Derived.Test.YtlajingmjmnfgaaGreatDoorLib
import Derived.Test.YtlajingmjmnfgaaGreatDoorSort
import Derived.Test.YtlajingmjmnfgaaGreatDoorDel
set_option linter.all false
