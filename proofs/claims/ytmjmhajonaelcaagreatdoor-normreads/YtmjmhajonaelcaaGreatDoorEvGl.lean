/- The first heap of the evaluator: the package-level variables that are plain tables. -/
import Derived.Test.YtmjmhajonaelcaaGreatDoorRows
import Derived.Test.YtmjmhajonaelcaaGreatDoorEvF
import Derived.Eval
set_option linter.all false
set_option maxRecDepth 100000
noncomputable section
namespace Go.Proofs.YtmjmhajonaelcaaGreatDoor
open Go Go.Ev
def gl0:uw:=[.str us,.str bm,.str wh,.str wv,.str tv,.str [98,121],.str uh,.str uy,.str ug,.str wq,.str tf,.str uv,.str ud,.str [105,102],.str tn,.str tg,.str [108,97,116,101],.str tz,.str um,.str [110,111,110,101],.str ur,.str [111,102],.str [111,110],.str [111,114],.str wy,.str wj,.str uj,.str uc,.str ul,.str uf,.str ub,.str tj,.str tq,.str bn,.str wb]
def gl2:uw:=[cn 1,cn 10,cn 100,cn 1000,cn 10000,cn 100000,cn 1000000,cn 10000000,cn 100000000,cn 1000000000,cn 10000000000,cn 100000000000,cn 1000000000000,cn 10000000000000,cn 100000000000000,cn 1000000000000000,cn 10000000000000000,cn 100000000000000000,cn 1000000000000000000,cn 10000000000000000000]
def gl5:uw:=[cw 0,cw 1,cw 28,cw 2,cw 29,cw 14,cw 24,cw 3,cw 30,cw 22,cw 20,cw 15,cw 25,cw 17,cw 4,cw 8,cw 31,cw 27,cw 13,cw 23,cw 21,cw 19,cw 16,cw 7,cw 26,cw 12,cw 18,cw 6,cw 11,cw 5,cw 10,cw 9]
def gl6:uw:=[cw 0,cw 1,cw 56,cw 2,cw 57,cw 49,cw 28,cw 3,cw 61,cw 58,cw 42,cw 50,cw 38,cw 29,cw 17,cw 4,cw 62,cw 47,cw 59,cw 36,cw 45,cw 43,cw 51,cw 22,cw 53,cw 39,cw 33,cw 30,cw 24,cw 18,cw 12,cw 5,cw 63,cw 55,cw 48,cw 27,cw 60,cw 41,cw 37,cw 16,cw 46,cw 35,cw 44,cw 21,cw 52,cw 32,cw 23,cw 11,cw 54,cw 26,cw 40,cw 15,cw 34,cw 20,cw 31,cw 10,cw 25,cw 14,cw 19,cw 9,cw 13,cw 8,cw 7,cw 6]
def gl8:uw:=[cw 128,cw 191,cw 160,cw 191,cw 128,cw 159,cw 144,cw 191,cw 128,cw 143,cw 0,cw 0,cw 0,cw 0,cw 0,cw 0,cw 0,cw 0,cw 0,cw 0,cw 0,cw 0,cw 0,cw 0,cw 0,cw 0,cw 0,cw 0,cw 0,cw 0,cw 0,cw 0]
def Um:List GE:=[⟨0,gl0,197⟩,⟨1,gl2,225⟩,⟨5,gl5,258⟩,⟨6,gl6,259⟩,⟨8,gl8,267⟩]
def At4:Tryz.prog.globals.size=9:=by kernel_rfl
def Zw:Tryz.prog.globals.size<=Bq:=by rw[At4];decide
def Jq:P8 Tryz.prog.globals.size Um=true:=by kernel_rfl
def At3:ArQ Tryz.prog=true:=by kernel_rfl
def AxZ:AvN Tryz.prog Rows.normReadsRow.laid Um=true:=by kernel_rfl
def Nk:Mv Tryz.prog=true:=by kernel_rfl
def mixed:Tryz.prog.follows .mixedOrders=true:=Tryz.checked.mixed
end Go.Proofs.YtmjmhajonaelcaaGreatDoor
