/- The contracts that some walks lean on, in one import. No conditions. -/
import Derived.Test.YtpjcheenihlagaaConA
import Derived.Test.YtpjcheenihlagaaRx6
import Derived.Test.YtpjcheenihlagaaRx8
