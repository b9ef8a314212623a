import Derived.Test.YtdbhpcekjcohdaaLoWWords
import Derived.Laws.StructEq
