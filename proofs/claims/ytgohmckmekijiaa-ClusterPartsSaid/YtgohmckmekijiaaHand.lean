/- The contracts of package cluster's exported functions: they lie in these texts. -/
import Derived.Test.YtgohmckmekijiaaSplit
import Derived.Test.YtgohmckmekijiaaNext
import Derived.Test.YtgohmckmekijiaaPrev
import Derived.Test.YtgohmckmekijiaaBound
