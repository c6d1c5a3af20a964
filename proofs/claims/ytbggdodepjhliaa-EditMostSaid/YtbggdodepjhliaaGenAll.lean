/- All walked functions. No condition. -/
import Derived.Test.YtbggdodepjhliaaGenC
