/- The first primes, evaluated by the kernel; no condition. -/
import Derived.Test.YtiggilmfehhgaaaGreatDoorC1
import Derived.KernelRfl
set_option linter.unusedSectionVars false
set_option linter.unusedVariables false
set_option linter.unusedSimpArgs false
set_option linter.unnecessarySimpa false
namespace Go.Eng.Ses
open Go Go.Eng
variable [Inhabited GlobT]
def primesL:List Nat:=[2,3,5,7,11,13,17,19,23,29,31,37,41,43,47,53,59,61,67,71,73,79,83,89,97,101,103,107,109,113,127,131,137,139,149,151,157,163,167,173,179,181,191,193,197,199,211,223,227,229,233,239,241,251,257,263,269,271,277,281,283,293,307,311]
def primeB (i:Nat):BitVec 64:=BitVec.ofNat 64 (primesL.getD i 0)
theorem primes8:Aaz AP0 AeB [.int .i64 8] (.imm ((List.range 8).map fun i=>[.int .u64 ((primeB i).toNat:Int)])):=AlT 200 (by kernel_rfl)
theorem primes64:Aaz AP0 AeB [.int .i64 64] (.imm ((List.range 64).map fun i=>[.int .u64 ((primeB i).toNat:Int)])):=AlT 700 (by kernel_rfl)
end Go.Eng.Ses
