/- Nothing more. -/
import Derived.Test.YtdkmmddakidieaaWs
