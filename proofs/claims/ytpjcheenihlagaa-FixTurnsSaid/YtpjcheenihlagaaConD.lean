/- The contracts that some walks lean on, in one import. No conditions. -/
import Derived.Test.YtpjcheenihlagaaConA
import Derived.Test.YtpjcheenihlagaaRx10
