import Derived.Lib.Strings
import Derived.Test.YtoopdknphikgkaaPdSm