/- The first heap of the evaluator: the package-level variables that are plain tables. -/
import Derived.Test.YtecikbfimlolcaaGreatDoorRows
import Derived.Test.YtecikbfimlolcaaGreatDoorEvF
import Derived.Eval
set_option linter.all false
set_option maxRecDepth 100000
noncomputable section
namespace Go.Proofs.YtecikbfimlolcaaGreatDoor
open Go Go.Ev
def gl0:List AV:=[.str [97,98,111,118,101],.str [97,110,100],.str [98,97,116,99,104],.str [98,101,116,119,101,101,110],.str [98,105,116,115],.str [98,121],.str [99,111,110,115,105,115,116,101,110,116],.str [99,111,117,110,116],.str [101,108,115,101],.str [102,97,99,116,111,114],.str [102,114,111,109],.str [104,105,115,116,111,103,114,97,109],.str [105,100,101,110,116,105,116,121],.str [105,102],.str [106,111,105,110],.str [107,101,101,112],.str [108,97,116,101],.str [108,105,109,105,116],.str [109,111,100,101],.str [110,111,110,101],.str [110,111,116],.str [111,102],.str [111,110],.str [111,114],.str [112,101,97,107],.str [112,114,101,102,105,120],.str [113,117,97,110,116,105,108,101],.str [114,117,110,110,105,110,103],.str [115,117,109],.str [116,104,101,110],.str [116,111,116,97,108],.str [116,114,101,101],.str [117,115,105,110,103],.str [119,104,101,114,101],.str [119,105,116,104]]
def gl2:List AV:=[.int .u64 1,.int .u64 10,.int .u64 100,.int .u64 1000,.int .u64 10000,.int .u64 100000,.int .u64 1000000,.int .u64 10000000,.int .u64 100000000,.int .u64 1000000000,.int .u64 10000000000,.int .u64 100000000000,.int .u64 1000000000000,.int .u64 10000000000000,.int .u64 100000000000000,.int .u64 1000000000000000,.int .u64 10000000000000000,.int .u64 100000000000000000,.int .u64 1000000000000000000,.int .u64 10000000000000000000]
def gl5:List AV:=[.int .u8 0,.int .u8 1,.int .u8 28,.int .u8 2,.int .u8 29,.int .u8 14,.int .u8 24,.int .u8 3,.int .u8 30,.int .u8 22,.int .u8 20,.int .u8 15,.int .u8 25,.int .u8 17,.int .u8 4,.int .u8 8,.int .u8 31,.int .u8 27,.int .u8 13,.int .u8 23,.int .u8 21,.int .u8 19,.int .u8 16,.int .u8 7,.int .u8 26,.int .u8 12,.int .u8 18,.int .u8 6,.int .u8 11,.int .u8 5,.int .u8 10,.int .u8 9]
def gl6:List AV:=[.int .u8 0,.int .u8 1,.int .u8 56,.int .u8 2,.int .u8 57,.int .u8 49,.int .u8 28,.int .u8 3,.int .u8 61,.int .u8 58,.int .u8 42,.int .u8 50,.int .u8 38,.int .u8 29,.int .u8 17,.int .u8 4,.int .u8 62,.int .u8 47,.int .u8 59,.int .u8 36,.int .u8 45,.int .u8 43,.int .u8 51,.int .u8 22,.int .u8 53,.int .u8 39,.int .u8 33,.int .u8 30,.int .u8 24,.int .u8 18,.int .u8 12,.int .u8 5,.int .u8 63,.int .u8 55,.int .u8 48,.int .u8 27,.int .u8 60,.int .u8 41,.int .u8 37,.int .u8 16,.int .u8 46,.int .u8 35,.int .u8 44,.int .u8 21,.int .u8 52,.int .u8 32,.int .u8 23,.int .u8 11,.int .u8 54,.int .u8 26,.int .u8 40,.int .u8 15,.int .u8 34,.int .u8 20,.int .u8 31,.int .u8 10,.int .u8 25,.int .u8 14,.int .u8 19,.int .u8 9,.int .u8 13,.int .u8 8,.int .u8 7,.int .u8 6]
def gl8:List AV:=[.int .u8 128,.int .u8 191,.int .u8 160,.int .u8 191,.int .u8 128,.int .u8 159,.int .u8 144,.int .u8 191,.int .u8 128,.int .u8 143,.int .u8 0,.int .u8 0,.int .u8 0,.int .u8 0,.int .u8 0,.int .u8 0,.int .u8 0,.int .u8 0,.int .u8 0,.int .u8 0,.int .u8 0,.int .u8 0,.int .u8 0,.int .u8 0,.int .u8 0,.int .u8 0,.int .u8 0,.int .u8 0,.int .u8 0,.int .u8 0,.int .u8 0,.int .u8 0]
def Um:List GE:=[⟨0,gl0,310⟩,⟨2,gl2,361⟩,⟨6,gl8,378⟩,⟨7,gl5,383⟩,⟨8,gl6,384⟩]
def At4:Tryz.prog.globals.size=9:=by kernel_rfl
def Zw:Tryz.prog.globals.size<=Bq:=by rw[At4];decide
def Jq:P8 Tryz.prog.globals.size Um=true:=by kernel_rfl
def At3:ArQ Tryz.prog=true:=by kernel_rfl
def AxZ:AvN Tryz.prog Rows.normAgainRow.laid Um=true:=by kernel_rfl
def Nk:Mv Tryz.prog=true:=by kernel_rfl
def mixed:Tryz.prog.follows .mixedOrders=true:=Tryz.checked.mixed
end Go.Proofs.YtecikbfimlolcaaGreatDoor
