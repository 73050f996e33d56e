/- The first heap of the -/
import Derived.Test.YtahaaiadlgfchaaGreatDoorRows
import Derived.Test.YtahaaiadlgfchaaGreatDoorEvF
import Derived.Eval
set_option linter.all false
set_option maxRecDepth 100000
noncomputable section
namespace Go.Proofs.YtahaaiadlgfchaaGreatDoor
open Go Go.Ev
def gl0:uz:=[.str [97,98,111,118,101],.str [97,110,100],.str [98,97,116,99,104],.str [98,101,116,119,101,101,110],.str wy,.str [98,121],.str ul,.str [99,111,117,110,116],.str [101,108,115,101],.str uc,.str [102,114,111,109],.str us,.str [105,100,101,110,116,105,116,121],.str [105,102],.str wj,.str wv,.str [108,97,116,101],.str [108,105,109,105,116],.str [109,111,100,101],.str [110,111,110,101],.str [110,111,116],.str [111,102],.str [111,110],.str [111,114],.str [112,101,97,107],.str [112,114,101,102,105,120],.str [113,117,97,110,116,105,108,101],.str [114,117,110,110,105,110,103],.str [115,117,109],.str [116,104,101,110],.str [116,111,116,97,108],.str [116,114,101,101],.str [117,115,105,110,103],.str ug,.str [119,105,116,104]]
def gl2:uz:=[cm 1,cm 10,cm 100,cm 1000,cm 10000,cm 100000,cm 1000000,cm 10000000,cm 100000000,cm 1000000000,cm 10000000000,cm 100000000000,cm 1000000000000,cm 10000000000000,cm 100000000000000,cm 1000000000000000,cm 10000000000000000,cm 100000000000000000,cm 1000000000000000000,cm 10000000000000000000]
def gl6:uz:=[ch 128,ch 191,ch 160,ch 191,ch 128,ch 159,ch 144,ch 191,ch 128,ch 143,ch 0,ch 0,ch 0,ch 0,ch 0,ch 0,ch 0,ch 0,ch 0,ch 0,ch 0,ch 0,ch 0,ch 0,ch 0,ch 0,ch 0,ch 0,ch 0,ch 0,ch 0,ch 0]
def gl7:uz:=[ch 0,ch 1,ch 28,ch 2,ch 29,ch 14,ch 24,ch 3,ch 30,ch 22,ch 20,ch 15,ch 25,ch 17,ch 4,ch 8,ch 31,ch 27,ch 13,ch 23,ch 21,ch 19,ch 16,ch 7,ch 26,ch 12,ch 18,ch 6,ch 11,ch 5,ch 10,ch 9]
def gl8:uz:=[ch 0,ch 1,ch 56,ch 2,ch 57,ch 49,ch 28,ch 3,ch 61,ch 58,ch 42,ch 50,ch 38,ch 29,ch 17,ch 4,ch 62,ch 47,ch 59,ch 36,ch 45,ch 43,ch 51,ch 22,ch 53,ch 39,ch 33,ch 30,ch 24,ch 18,ch 12,ch 5,ch 63,ch 55,ch 48,ch 27,ch 60,ch 41,ch 37,ch 16,ch 46,ch 35,ch 44,ch 21,ch 52,ch 32,ch 23,ch 11,ch 54,ch 26,ch 40,ch 15,ch 34,ch 20,ch 31,ch 10,ch 25,ch 14,ch 19,ch 9,ch 13,ch 8,ch 7,ch 6]
def Um:List GE:=[⟨0,gl0,268⟩,⟨2,gl2,284⟩,⟨6,gl6,300⟩,⟨7,gl7,305⟩,⟨8,gl8,306⟩]
def At4:Tryz.prog.globals.size=9:=by kernel_rfl
def Zw:Tryz.prog.globals.size<=Bq:=by rw[At4];decide
def Jq:P8 Tryz.prog.globals.size Um=true:=by kernel_rfl
def At3:ArQ Tryz.prog=true:=by kernel_rfl
def AxZ:AvN Tryz.prog Rows.planBitsRow.laid Um=true:=by kernel_rfl
def Nk:Mv Tryz.prog=true:=by kernel_rfl
def mixed:Tryz.prog.follows .mixedOrders=true:=Tryz.checked.mixed
end Go.Proofs.YtahaaiadlgfchaaGreatDoor
