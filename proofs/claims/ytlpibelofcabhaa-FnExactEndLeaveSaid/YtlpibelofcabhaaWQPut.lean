-- WRITTEN BY a turned print (wip/tools of the prover's repo)
import Derived.Test.YtlpibelofcabhaaWWords
import Derived.Test.YtlpibelofcabhaaWLast
