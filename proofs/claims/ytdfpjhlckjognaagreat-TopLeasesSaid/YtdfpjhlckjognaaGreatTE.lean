/- Runs in parts (facts), printed by a program of mine; each is looked at by the kernel. -/
import Derived.Test.YtdfpjhlckjognaaGreatTT
import Derived.Test.YtdfpjhlckjognaaGreatFwZu
namespace Go.Proofs.YtdfpjhlckjognaaGreat
open Go Go.Proofs.YtdfpjhlckjognaaGreat.Fw
set_option linter.unusedVariables false
set_option maxRecDepth 100000
def Xo0 : AO := cF [cZ,iI 0,iI 0,.b false,cZ,iI 0,iI 0,.b false]
def Xo1 : AO := cF [sl5 37 0 2 2 4,iI 1,iU 0,iU 2,iU 9,iI 1,iU 9,iI 9,iU 0,iI 0,sl5 142 0 2 2 4,pQ 143 0]
def Xo2 : AO := cF [iI 1,iV 83886081,iH 7000,cZ]
def Xo3 : AO := cF [iI 0,iI 0,iV 0,iV 0,iH 0,iI 1,iI 0,iV 0,iV 83886081,iH 7000,iI 0,iI 0,iV 0,iV 0,iH 0,iI 0,iI 0,iV 0,iV 0,iH 0,iI 0,iI 0,iV 0,iV 0,iH 0,iI 0,iI 0,iV 0,iV 0,iH 0,iI 0,iI 0,iV 0,iV 0,iH 0,iI 0,iI 0,iV 0,iV 0,iH 0,iI 0,iI 0,iV 0,iV 0,iH 0,iI 0,iI 0,iV 0,iV 0,iH 0,iI 0,iI 0,iV 0,iV 0,iH 0,iI 0,iI 0,iV 0,iV 0,iH 0,iI 0,iI 0,iV 0,iV 0,iH 0,iI 0,iI 0,iV 0,iV 0,iH 0,iI 0,iI 0,iV 0,iV 0,iH 0,iI 0,iI 0,iV 0,iV 0,iH 0,iI 0,iI 0,iV 0,iV 0,iH 0,iI 0,iI 0,iV 0,iV 0,iH 0,iI 0,iI 0,iV 0,iV 0,iH 0,iI 0,iI 0,iV 0,iV 0,iH 0,iI 0,iI 0,iV 0,iV 0,iH 0,iI 0,iI 0,iV 0,iV 0,iH 0,iI 0,iI 0,iV 0,iV 0,iH 0,iI 0,iI 0,iV 0,iV 0,iH 0,iI 0,iI 0,iV 0,iV 0,iH 0,iI 0,iI 0,iV 0,iV 0,iH 0,iI 0,iI 0,iV 0,iV 0,iH 0,iI 0,iI 0,iV 0,iV 0,iH 0,iI 0,iI 0,iV 0,iV 0,iH 0,iI 0,iI 0,iV 0,iV 0,iH 0,iI 0,iI 0,iV 0,iV 0,iH 0,iI 0,iI 0,iV 0,iV 0,iH 0,iI 0,iI 0,iV 0,iV 0,iH 0,sl5 77 0 1 1 4,iU 1]
def Xo4 : AO := cF [iU 1,.sl none]
def Xo5 : AO := cF [iI 0,iV 0,iU 0,iU 0,.sl none,iI 0,iV 0,iU 0,iU 0,.sl none,iI 0,iV 0,iU 0,iU 0,.sl none,iI 0,iV 0,iU 0,iU 0,.sl none,iI 0,iV 0,iU 0,iU 0,.sl none,iI 0,iV 0,iU 0,iU 0,.sl none,iI 0,iV 0,iU 0,iU 0,.sl none,iI 0,iV 0,iU 0,iU 0,.sl none,iI 0,iV 0,iU 0,iU 0,.sl none,iI 0,iV 0,iU 0,iU 0,.sl none,iI 0,iV 0,iU 0,iU 0,.sl none,iI 0,iV 0,iU 0,iU 0,.sl none,iI 0,iV 0,iU 0,iU 0,.sl none,iI 0,iV 0,iU 0,iU 0,.sl none,iI 0,iV 0,iU 0,iU 0,.sl none,iI 0,iV 0,iU 0,iU 0,.sl none,iI 0,iV 0,iU 0,iU 0,.sl none,iI 0,iV 0,iU 0,iU 0,.sl none,iI 0,iV 0,iU 0,iU 0,.sl none,iI 0,iV 0,iU 0,iU 0,.sl none,iI 0,iV 0,iU 0,iU 0,.sl none,iI 0,iV 0,iU 0,iU 0,.sl none,iI 0,iV 0,iU 0,iU 0,.sl none,iI 0,iV 0,iU 0,iU 0,.sl none,iI 0,iV 0,iU 0,iU 0,.sl none,iI 0,iV 0,iU 0,iU 0,.sl none,iI 0,iV 0,iU 0,iU 0,.sl none,iI 0,iV 0,iU 0,iU 0,.sl none,iI 0,iV 0,iU 0,iU 0,.sl none,iI 0,iV 0,iU 0,iU 0,.sl none,iI 0,iV 0,iU 0,iU 0,.sl none,iI 0,iV 0,iU 0,iU 0,.sl none,iI 0,iV 0,iU 0,iU 0,.sl none]
def Xo6 : AO := cF [iI 1,iV 83886081,iH 7000,cZ,iU 1,iV 0,sl5 58 0 1 1 4,iU 2,iU 9,iI 1,iI 1,iI 0,iV 0,iV 83886081,iH 7000,pQ 59 0,pQ 64 0,pQ 61 0,iI 0,iI 0,iI 0,iV 0,iU 0,iU 2,iU 2,pQ 62 0,pQ 66 0,pQ 67 0,pQ 68 0,pQ 69 0,.sl none,iV 0,iU 0,.b false,iU 0,.sl none,iU 0]
def Xo7 : AO := cF [.sl none,iI 64]
def Xo8 : AO := cF [iI 2,iU 9,iI 0,iV 0,iH 0,iU 0,iI 0,iV 0,iH 0,iU 0,iI 0,iV 0,iH 0,iU 0,iI 0,iV 0,iH 0,iU 0,iI 0,iV 0,iH 0,iU 0,iI 0,iV 0,iH 0,iU 0,iI 0,iV 0,iH 0,iU 0,iI 0,iV 0,iH 0,iU 0,iI 0,iV 0,iH 0,iU 0,iI 0,iV 0,iH 0,iU 0,iI 0,iV 0,iH 0,iU 0,iI 0,iV 0,iH 0,iU 0,iI 0,iV 0,iH 0,iU 0,iI 0,iV 0,iH 0,iU 0,iI 0,iV 0,iH 0,iU 0,iI 0,iV 0,iH 0,iU 0,iI 0,iV 0,iH 0,iU 0,iI 0,iV 0,iH 0,iU 0,iI 0,iV 0,iH 0,iU 0,iI 0,iV 0,iH 0,iU 0,iI 0,iV 0,iH 0,iU 0,iI 0,iV 0,iH 0,iU 0,iI 0,iV 0,iH 0,iU 0,iI 0,iV 0,iH 0,iU 0,iI 0,iV 0,iH 0,iU 0,iI 0,iV 0,iH 0,iU 0,iI 0,iV 0,iH 0,iU 0,iI 0,iV 0,iH 0,iU 0,iI 0,iV 0,iH 0,iU 0,iI 0,iV 0,iH 0,iU 0,iI 0,iV 0,iH 0,iU 0,iI 0,iV 0,iH 0,iU 0,iI 0,iV 0,iH 0,iU 0,.sl none,.b false,iV 0,.b false]
def Xo9 : AO := cF [iI 8,iU 9,iI 0,iV 0,iH 0,iU 0,iI 0,iV 0,iH 0,iU 0,iI 0,iV 0,iH 0,iU 0,iI 0,iV 0,iH 0,iU 0,iI 0,iV 0,iH 0,iU 0,iI 0,iV 0,iH 0,iU 0,iI 0,iV 0,iH 0,iU 0,iI 0,iV 0,iH 0,iU 0,iI 0,iV 0,iH 0,iU 0,iI 0,iV 0,iH 0,iU 0,iI 0,iV 0,iH 0,iU 0,iI 0,iV 0,iH 0,iU 0,iI 0,iV 0,iH 0,iU 0,iI 0,iV 0,iH 0,iU 0,iI 0,iV 0,iH 0,iU 0,iI 0,iV 0,iH 0,iU 0,iI 0,iV 0,iH 0,iU 0,iI 0,iV 0,iH 0,iU 0,iI 0,iV 0,iH 0,iU 0,iI 0,iV 0,iH 0,iU 0,iI 0,iV 0,iH 0,iU 0,iI 0,iV 0,iH 0,iU 0,iI 0,iV 0,iH 0,iU 0,iI 0,iV 0,iH 0,iU 0,iI 0,iV 0,iH 0,iU 0,iI 0,iV 0,iH 0,iU 0,iI 0,iV 0,iH 0,iU 0,iI 0,iV 0,iH 0,iU 0,iI 0,iV 0,iH 0,iU 0,iI 0,iV 0,iH 0,iU 0,iI 0,iV 0,iH 0,iU 0,iI 0,iV 0,iH 0,iU 0,iI 0,iV 0,iH 0,iU 0]
def Xo10 : AO := cF [iI 2,iU 2,iI 0,iU 0,iU 0,iI 0,iU 0,iU 0,iI 0,iU 0,iU 0,iI 0,iU 0,iU 0,iI 0,iU 0,iU 0,iI 0,iU 0,iU 0,iI 0,iU 0,iU 0,iI 0,iU 0,iU 0,iI 0,iU 0,iU 0,iI 0,iU 0,iU 0,iI 0,iU 0,iU 0,iI 0,iU 0,iU 0,iI 0,iU 0,iU 0,iI 0,iU 0,iU 0,iI 0,iU 0,iU 0,iI 0,iU 0,iU 0,iI 0,iU 0,iU 0,iI 0,iU 0,iU 0,iI 0,iU 0,iU 0,iI 0,iU 0,iU 0,iI 0,iU 0,iU 0,iI 0,iU 0,iU 0,iI 0,iU 0,iU 0,iI 0,iU 0,iU 0,iI 0,iU 0,iU 0,iI 0,iU 0,iU 0,iI 0,iU 0,iU 0,iI 0,iU 0,iU 0,iI 0,iU 0,iU 0,iI 0,iU 0,iU 0,iI 0,iU 0,iU 0,iI 0,iU 0,iU 0,iI 0,iU 0,iU 0]
def Xo11 : AO := cF [iI 3,iU 2,iU 2,iU 9,iI 0,iI 0,iI 0,iV 0,iH 0,iU 0,iU 0,iI 0,iI 0,iI 0,iV 0,iH 0,iU 0,iU 0,iI 0,iI 0,iI 0,iV 0,iH 0,iU 0,iU 0,iI 0,iI 0,iI 0,iV 0,iH 0,iU 0,iU 0,iI 0,iI 0,iI 0,iV 0,iH 0,iU 0,iU 0,iI 0,iI 0,iI 0,iV 0,iH 0,iU 0,iU 0,iI 0,iI 0,iI 0,iV 0,iH 0,iU 0,iU 0,iI 0,iI 0,iI 0,iV 0,iH 0,iU 0,iU 0,iI 0,iI 0,iI 0,iV 0,iH 0,iU 0,iU 0,iI 0,iI 0,iI 0,iV 0,iH 0,iU 0,iU 0,iI 0,iI 0,iI 0,iV 0,iH 0,iU 0,iU 0,iI 0,iI 0,iI 0,iV 0,iH 0,iU 0,iU 0,iI 0,iI 0,iI 0,iV 0,iH 0,iU 0,iU 0,iI 0,iI 0,iI 0,iV 0,iH 0,iU 0,iU 0,iI 0,iI 0,iI 0,iV 0,iH 0,iU 0,iU 0,iI 0,iI 0,iI 0,iV 0,iH 0,iU 0,iU 0,iI 0,iI 0,iI 0,iV 0,iH 0,iU 0,iU 0,iI 0,iI 0,iI 0,iV 0,iH 0,iU 0,iU 0,iI 0,iI 0,iI 0,iV 0,iH 0,iU 0,iU 0,iI 0,iI 0,iI 0,iV 0,iH 0,iU 0,iU 0,iI 0,iI 0,iI 0,iV 0,iH 0,iU 0,iU 0,iI 0,iI 0,iI 0,iV 0,iH 0,iU 0,iU 0,iI 0,iI 0,iI 0,iV 0,iH 0,iU 0,iU 0,iI 0,iI 0,iI 0,iV 0,iH 0,iU 0,iU 0,iI 0,iI 0,iI 0,iV 0,iH 0,iU 0,iU 0,iI 0,iI 0,iI 0,iV 0,iH 0,iU 0,iU 0,iI 0,iI 0,iI 0,iV 0,iH 0,iU 0,iU 0,iI 0,iI 0,iI 0,iV 0,iH 0,iU 0,iU 0,iI 0,iI 0,iI 0,iV 0,iH 0,iU 0,iU 0,iI 0,iI 0,iI 0,iV 0,iH 0,iU 0,iU 0,iI 0,iI 0,iI 0,iV 0,iH 0,iU 0,iU 0,iI 0,iI 0,iI 0,iV 0,iH 0,iU 0,iU 0,iI 0,iI 0,iI 0,iV 0,iH 0,iU 0,iU 0]
def Xo12 : AO := cF [iI 1,iI (-1),iI 0,iV 0]
def Xo13 : AO := cF [iI 1,iI 0,iV 0,iV 83886081,iH 7000]
def Xo14 : AO := cF [iI 0,iI 0,iV 0,iV 0,iH 0,iI 1,iI 0,iV 0,iV 83886081,iH 7000,iI 2,iI 0,iV 0,iV 83886082,iH 7000,iI 0,iI 0,iV 0,iV 0,iH 0,iI 0,iI 0,iV 0,iV 0,iH 0,iI 0,iI 0,iV 0,iV 0,iH 0,iI 0,iI 0,iV 0,iV 0,iH 0,iI 0,iI 0,iV 0,iV 0,iH 0,iI 0,iI 0,iV 0,iV 0,iH 0,iI 0,iI 0,iV 0,iV 0,iH 0,iI 0,iI 0,iV 0,iV 0,iH 0,iI 0,iI 0,iV 0,iV 0,iH 0,iI 0,iI 0,iV 0,iV 0,iH 0,iI 0,iI 0,iV 0,iV 0,iH 0,iI 0,iI 0,iV 0,iV 0,iH 0,iI 0,iI 0,iV 0,iV 0,iH 0,iI 0,iI 0,iV 0,iV 0,iH 0,iI 0,iI 0,iV 0,iV 0,iH 0,iI 0,iI 0,iV 0,iV 0,iH 0,iI 0,iI 0,iV 0,iV 0,iH 0,iI 0,iI 0,iV 0,iV 0,iH 0,iI 0,iI 0,iV 0,iV 0,iH 0,iI 0,iI 0,iV 0,iV 0,iH 0,iI 0,iI 0,iV 0,iV 0,iH 0,iI 0,iI 0,iV 0,iV 0,iH 0,iI 0,iI 0,iV 0,iV 0,iH 0,iI 0,iI 0,iV 0,iV 0,iH 0,iI 0,iI 0,iV 0,iV 0,iH 0,iI 0,iI 0,iV 0,iV 0,iH 0,iI 0,iI 0,iV 0,iV 0,iH 0,iI 0,iI 0,iV 0,iV 0,iH 0,iI 0,iI 0,iV 0,iV 0,iH 0,iI 0,iI 0,iV 0,iV 0,iH 0,sl5 134 0 2 2 4,iU 2]
def Xo15 : AO := cF [iU 2,.sl none]
def Xo16 : AO := cF [iI 2,iV 83886082,iH 7000,cZ,iU 2,iV 0,sl5 106 0 1 1 4,iU 2,iU 9,iI 1,iI 2,iI 0,iV 0,iV 83886082,iH 7000,pQ 107 0,pQ 112 0,pQ 109 0,iI 0,iI 0,iI 0,iV 0,iU 0,iU 2,iU 2,pQ 110 0,pQ 114 0,pQ 115 0,pQ 116 0,pQ 117 0,.sl none,iV 0,iU 0,.b false,iU 0,.sl none,iU 0]
def Xo17 : AO := cF [iI 2,iI 0,iV 0,iV 83886082,iH 7000]
def Xo18 : AO := cF [pQ 63 0,.b true,sl5 80 0 1 1 5,iI 0,pQ 111 0,.b true,sl5 136 0 1 1 5,iI 0]
def Xo19 : AO := cF [sl5 153 0 2 2 3,.sl none,pQ 144 0]
def Xo20 : AO := cF [.sl none,iI 9]
def Xo21 : AO := cF [iV 83886081,iH 7000,iI 0,iV 83886082,iH 7000,iI 0]
def Xo22 : AO := cF [sl5 257 0 1 1 6,iI 9]
def Xo23 : AO := cF [iV 83886082,iH 7000,iV 83886081,iH 7000,.s ⟨⟨[13,2,0,0,0,0,0,15,66,64,0,15,66,64,2,1,0,0,0,0,0,5,0,0,1,27,88,2,0,0,0,0,0,5,0,0,2,27,88]⟩⟩,iU 1]
def Xo24 : AO := cF [iI 1,iV 83886081,iH 7000,cZ,iU 1,iV 0,sl5 58 0 1 1 4,iU 2,iU 9,iI 1,iI 1,iI 0,iV 0,iV 83886081,iH 7000,pQ 59 0,pQ 64 0,pQ 61 0,iI 0,iI 0,iI 0,iV 0,iU 0,iU 2,iU 2,pQ 62 0,pQ 66 0,pQ 67 0,pQ 68 0,pQ 69 0,.sl none,iV 1,iU 3,.b false,iU 0,.sl none,iU 1]
def Xo25 : AO := cF [iI 2,iU 9,iI 0,iV 0,iH 0,iU 0,iI 0,iV 0,iH 0,iU 0,iI 0,iV 0,iH 0,iU 0,iI 0,iV 0,iH 0,iU 0,iI 0,iV 0,iH 0,iU 0,iI 0,iV 0,iH 0,iU 0,iI 0,iV 0,iH 0,iU 0,iI 0,iV 0,iH 0,iU 0,iI 0,iV 0,iH 0,iU 0,iI 0,iV 0,iH 0,iU 0,iI 0,iV 0,iH 0,iU 0,iI 0,iV 0,iH 0,iU 0,iI 0,iV 0,iH 0,iU 0,iI 0,iV 0,iH 0,iU 0,iI 0,iV 0,iH 0,iU 0,iI 0,iV 0,iH 0,iU 0,iI 0,iV 0,iH 0,iU 0,iI 0,iV 0,iH 0,iU 0,iI 0,iV 0,iH 0,iU 0,iI 0,iV 0,iH 0,iU 0,iI 0,iV 0,iH 0,iU 0,iI 0,iV 0,iH 0,iU 0,iI 0,iV 0,iH 0,iU 0,iI 0,iV 0,iH 0,iU 0,iI 0,iV 0,iH 0,iU 0,iI 0,iV 0,iH 0,iU 0,iI 0,iV 0,iH 0,iU 0,iI 0,iV 0,iH 0,iU 0,iI 0,iV 0,iH 0,iU 0,iI 0,iV 0,iH 0,iU 0,iI 0,iV 0,iH 0,iU 0,iI 0,iV 0,iH 0,iU 0,iI 0,iV 0,iH 0,iU 0,.sl none,.b true,iV 1,.b false]
def Xo26 : AO := cF [iU 2,sl5 605 1 0 0 1]
def Xo27 : AO := cF [iI 2,iV 83886082,iH 7000,cZ,iU 2,iV 0,sl5 106 0 1 1 4,iU 2,iU 9,iI 1,iI 2,iI 0,iV 0,iV 83886082,iH 7000,pQ 107 0,pQ 112 0,pQ 109 0,iI 1,iI 1,iI 0,iV 2,iU 3,iU 2,iU 2,pQ 110 0,pQ 114 0,pQ 115 0,pQ 116 0,pQ 117 0,.sl none,iV 2,iU 3,.b false,iU 0,.sl none,iU 1]
def Xo28 : AO := cF [iI 1]
def Xo29 : AO := cF [sl5 37 0 2 2 4,iI 1,iU 0,iU 2,iU 9,iI 1,iU 9,iI 9,iU 1,iI 0,sl5 142 0 2 2 4,pQ 143 0]
def Xo30 : AO := cF [sl5 765 0 3 3 6,iI 9]
def Xo31 : AO := cF [iV 83886082,iH 7000,iV 83886081,iH 7000,.s ⟨⟨[13,2,0,0,0,0,0,15,66,64,0,15,66,64,2,1,0,0,0,0,0,5,0,0,1,27,88,2,0,0,0,0,0,5,0,0,2,27,88]⟩⟩,iU 1,iV 83886082,iH 7000,iV 83886081,iH 7000,.s ⟨⟨[6,2,0,0,0,1,5,0,0,2,27,88,0]⟩⟩,iU 2,iV 83886082,iH 7000,iV 83886081,iH 7000,.s ⟨⟨[5,2,0,0,0,0,1,0,8,1,2,0,0,0,2,1,0]⟩⟩,iU 2]
def Xo32 : AO := cF [iI 0,iI 0,iV 0,iV 0,iH 0,iI 1,iI 0,iV 0,iV 83886081,iH 7000,iI 2,iI 0,iV 0,iV 83886082,iH 7000,iI 0,iI 0,iV 0,iV 0,iH 0,iI 0,iI 0,iV 0,iV 0,iH 0,iI 0,iI 0,iV 0,iV 0,iH 0,iI 0,iI 0,iV 0,iV 0,iH 0,iI 0,iI 0,iV 0,iV 0,iH 0,iI 0,iI 0,iV 0,iV 0,iH 0,iI 0,iI 0,iV 0,iV 0,iH 0,iI 0,iI 0,iV 0,iV 0,iH 0,iI 0,iI 0,iV 0,iV 0,iH 0,iI 0,iI 0,iV 0,iV 0,iH 0,iI 0,iI 0,iV 0,iV 0,iH 0,iI 0,iI 0,iV 0,iV 0,iH 0,iI 0,iI 0,iV 0,iV 0,iH 0,iI 0,iI 0,iV 0,iV 0,iH 0,iI 0,iI 0,iV 0,iV 0,iH 0,iI 0,iI 0,iV 0,iV 0,iH 0,iI 0,iI 0,iV 0,iV 0,iH 0,iI 0,iI 0,iV 0,iV 0,iH 0,iI 0,iI 0,iV 0,iV 0,iH 0,iI 0,iI 0,iV 0,iV 0,iH 0,iI 0,iI 0,iV 0,iV 0,iH 0,iI 0,iI 0,iV 0,iV 0,iH 0,iI 0,iI 0,iV 0,iV 0,iH 0,iI 0,iI 0,iV 0,iV 0,iH 0,iI 0,iI 0,iV 0,iV 0,iH 0,iI 0,iI 0,iV 0,iV 0,iH 0,iI 0,iI 0,iV 0,iV 0,iH 0,iI 0,iI 0,iV 0,iV 0,iH 0,iI 0,iI 0,iV 0,iV 0,iH 0,iI 0,iI 0,iV 0,iV 0,iH 0,sl5 963 0 2 2 4,iU 2]
def Xo33 : AO := cF [sl5 1008 0 1 1 6,iI 64]
def Xo34 : AO := cF [iI 1,iI (-1),iI 0,iV 0,iI 2,iI (-1),iI 0,iV 0]
def Xo35 : AO := cF [iI 2,iI 0,iV 0,iV 83886082,iH 7000,iI 6]
def Xo36 : AO := cF [iV 83886082,iH 7000,iV 83886081,iH 7000,.s ⟨⟨[6,2,0,0,0,1,5,0,0,2,27,88,0]⟩⟩,iU 2,iV 83886082,iH 7000,iV 83886081,iH 7000,.s ⟨⟨[5,2,0,0,0,0,1,0,8,1,2,0,0,0,2,1,0]⟩⟩,iU 2,iV 83886081,iH 7000,iV 83886082,iH 7000,.s ⟨⟨[15,1,0,0,0,0,1,2,1,0,0,0,0,0,5,0,0,1,27,88,2,0,0,0,0,0,5,0,0,2,27,88]⟩⟩,iU 2]
end Go.Proofs.YtdfpjhlckjognaaGreat
namespace Go.Proofs.YtdfpjhlckjognaaGreat
open Go Go.Proofs.YtdfpjhlckjognaaGreat.Fw
set_option linter.unusedVariables false
set_option maxRecDepth 100000
def X0  : Fact :=⟨5,[.ag [sl5 0 0 2 2 4,iI 1,iU 0,iU 2,iU 9,iI 1,iU 9,iI 9]],2,[(0,Xo0)],.tu [.sc (pQ 38 0),.sc (iI 0)],154,[(0,Xo0),(37,Xo0),(38,Xo1),(58,Xo2),(59,Xo3),(61,Xo4),(62,Xo5),(63,Xo6),(64,Xo7),(66,Xo8),(67,Xo9),(68,Xo10),(69,Xo11),(77,Xo12),(80,Xo13),(106,Xo2),(107,Xo14),(109,Xo15),(110,Xo5),(111,Xo16),(112,Xo7),(114,Xo8),(115,Xo9),(116,Xo10),(117,Xo11),(134,.cells false [iI 2,iI (-1),iI 0,iV 0,iI 1,iI (-1),iI 0,iV 0]),(136,Xo17),(142,Xo18),(143,Xo19),(144,Xo20),(153,Xo21)]⟩
theorem X0_ok  : (X0 ).okF E := fv0 (by kernel_rfl) (by kernel_rfl)
def X2  : Fact :=⟨8,[sQ 38 0,.ag [iI 8,iI 2,iI 0,iU 0,iV 0,iH 0,iV 0,iH 0,.s ⟨⟨[]⟩⟩]],154,[(38,Xo1),(106,Xo2),(107,Xo14),(111,Xo16),(136,Xo17),(142,Xo18),(143,Xo19),(144,Xo20),(153,Xo21)],sI 0,260,[(38,Xo1),(106,Xo2),(107,Xo14),(111,Xo16),(136,Xo17),(142,Xo18),(143,Xo19),(144,Xo22),(153,Xo21),(257,Xo23)]⟩
theorem X2_ok  : (X2 ).okF E := fv0 (by kernel_rfl) (by kernel_rfl)
def X3  : Fact :=⟨66,[sQ 63 0,sU 1],263,[(58,Xo2),(59,Xo3),(61,Xo4),(62,Xo5),(63,Xo6),(66,Xo8),(67,Xo9),(69,Xo11)],sL none,451,[(58,Xo2),(59,Xo3),(61,Xo4),(62,Xo5),(63,Xo24),(66,Xo25),(67,Xo9),(69,Xo11)]⟩
theorem X3_ok  : (X3 ).okF E := fv0 (by kernel_rfl) (by kernel_rfl)
def X7  : Fact :=⟨66,[sQ 111 0,sU 1],453,[(106,Xo2),(107,Xo14),(109,Xo15),(110,Xo5),(111,Xo16),(112,Xo7),(114,Xo8),(115,Xo9),(117,Xo11)],.sc (sl5 659 0 2 2 3),742,[(106,Xo2),(107,Xo14),(109,Xo26),(110,Xo5),(111,Xo27),(112,Xo7),(114,Xo25),(115,Xo9),(117,Xo11),(605,Xo28),(659,.cells false [iV 83886081,iH 7000,.s ⟨⟨[6,2,0,0,0,1,5,0,0,2,27,88,0]⟩⟩,iV 83886081,iH 7000,.s ⟨⟨[5,2,0,0,0,0,1,0,8,1,2,0,0,0,2,1,0]⟩⟩])]⟩
theorem X7_ok  : (X7 ).okF E := fv0 (by kernel_rfl) (by kernel_rfl)
def X13  : Fact :=⟨25,[sQ 38 0,.ag [iI 0,iI 0,iI 0,iU 0,iV 0,iH 0,iV 0,iH 0,.s ⟨⟨[]⟩⟩]],262,[(38,Xo1),(58,Xo2),(59,Xo3),(61,Xo4),(62,Xo5),(63,Xo6),(66,Xo8),(67,Xo9),(69,Xo11),(80,Xo13),(106,Xo2),(107,Xo14),(109,Xo15),(110,Xo5),(111,Xo16),(112,Xo7),(114,Xo8),(115,Xo9),(117,Xo11),(136,Xo17),(142,Xo18),(143,Xo19),(144,Xo22),(153,Xo21),(257,Xo23)],sI 0,768,[(38,Xo29),(58,Xo2),(59,Xo3),(61,Xo4),(62,Xo5),(63,Xo24),(66,Xo25),(67,Xo9),(69,Xo11),(80,Xo13),(106,Xo2),(107,Xo14),(109,Xo26),(110,Xo5),(111,Xo27),(112,Xo7),(114,Xo25),(115,Xo9),(117,Xo11),(136,Xo17),(142,Xo18),(143,Xo19),(144,Xo30),(153,Xo21),(605,Xo28),(765,Xo31)]⟩
theorem X13_ok  : (X13 ).okF E := fv1 [X3 ,X7 ] ⟨X3_ok ,X7_ok ,trivial⟩ (by kernel_rfl) (by kernel_rfl)
def X14  : Fact :=⟨8,[sQ 38 0,.ag [iI 0,iI 0,iI 0,iU 0,iV 0,iH 0,iV 0,iH 0,.s ⟨⟨[]⟩⟩]],260,[(38,Xo1),(58,Xo2),(59,Xo3),(61,Xo4),(62,Xo5),(63,Xo6),(66,Xo8),(67,Xo9),(69,Xo11),(80,Xo13),(106,Xo2),(107,Xo14),(109,Xo15),(110,Xo5),(111,Xo16),(112,Xo7),(114,Xo8),(115,Xo9),(117,Xo11),(136,Xo17),(142,Xo18),(143,Xo19),(144,Xo22),(153,Xo21),(257,Xo23)],sI 0,768,[(38,Xo29),(58,Xo2),(59,Xo3),(61,Xo4),(62,Xo5),(63,Xo24),(66,Xo25),(67,Xo9),(69,Xo11),(80,Xo13),(106,Xo2),(107,Xo14),(109,Xo26),(110,Xo5),(111,Xo27),(112,Xo7),(114,Xo25),(115,Xo9),(117,Xo11),(136,Xo17),(142,Xo18),(143,Xo19),(144,Xo30),(153,Xo21),(605,Xo28),(765,Xo31)]⟩
theorem X14_ok  : (X14 ).okF E := fv1 [X13 ] ⟨X13_ok ,trivial⟩ (by kernel_rfl) (by kernel_rfl)
def X18  : Fact :=⟨69,[sQ 63 0,sU 1,.ag [iV 83886082,iH 7000],sS ⟨⟨[13,2,0,0,0,0,0,15,66,64,0,15,66,64,2,1,0,0,0,0,0,5,0,0,1,27,88,2,0,0,0,0,0,5,0,0,2,27,88]⟩⟩],784,[(59,Xo3),(62,Xo5),(63,Xo24),(64,Xo7),(69,Xo11),(77,Xo12)],.sc (sl5 1098 0 1 1 3),1099,[(59,Xo32),(62,Xo5),(63,Xo24),(64,Xo33),(69,Xo11),(963,Xo34),(1008,Xo35),(1098,.cells false [iV 83886082,iH 7000,.s ⟨⟨[15,1,0,0,0,0,1,2,1,0,0,0,0,0,5,0,0,1,27,88,2,0,0,0,0,0,5,0,0,2,27,88]⟩⟩])]⟩
theorem X18_ok  : (X18 ).okF E := fv0 (by kernel_rfl) (by kernel_rfl)
def X23  : Fact :=⟨26,[sQ 38 0,.ag [iI 1,iI 0,iI 0,iU 0,iV 0,iH 0,iV 0,iH 0,.s ⟨⟨[]⟩⟩]],770,[(38,Xo29),(59,Xo3),(62,Xo5),(63,Xo24),(64,Xo7),(69,Xo11),(77,Xo12),(80,Xo13),(142,Xo18),(143,Xo19),(144,Xo30),(153,Xo21),(765,Xo31)],sI 0,1112,[(38,Xo29),(59,Xo32),(62,Xo5),(63,Xo24),(64,Xo33),(69,Xo11),(80,Xo13),(142,Xo18),(143,Xo19),(144,Xo30),(153,Xo21),(765,Xo36),(963,Xo34),(1008,Xo35)]⟩
theorem X23_ok  : (X23 ).okF E := fv1 [X18 ] ⟨X18_ok ,trivial⟩ (by kernel_rfl) (by kernel_rfl)
def X24  : Fact :=⟨8,[sQ 38 0,.ag [iI 1,iI 0,iI 0,iU 0,iV 0,iH 0,iV 0,iH 0,.s ⟨⟨[]⟩⟩]],768,[(38,Xo29),(59,Xo3),(62,Xo5),(63,Xo24),(64,Xo7),(69,Xo11),(77,Xo12),(80,Xo13),(142,Xo18),(143,Xo19),(144,Xo30),(153,Xo21),(765,Xo31)],sI 0,1112,[(38,Xo29),(59,Xo32),(62,Xo5),(63,Xo24),(64,Xo33),(69,Xo11),(80,Xo13),(142,Xo18),(143,Xo19),(144,Xo30),(153,Xo21),(765,Xo36),(963,Xo34),(1008,Xo35)]⟩
theorem X24_ok  : (X24 ).okF E := fv1 [X23 ] ⟨X23_ok ,trivial⟩ (by kernel_rfl) (by kernel_rfl)
def X25  : Fact := fS 10 [sQ 38 0,sI 1] 1112 [(38,Xo29),(142,Xo18)] (sQ 63 0) 1112
theorem X25_ok  : (X25 ).okF E := fv0 (by kernel_rfl) (by kernel_rfl)
end Go.Proofs.YtdfpjhlckjognaaGreat
namespace Go.Proofs.YtdfpjhlckjognaaGreat
open Go Go.Proofs.YtdfpjhlckjognaaGreat.Fw
set_option linter.unusedVariables false
set_option maxRecDepth 100000
def X26  : Fact := fS 11 [sQ 63 0] 1112 [(63,Xo24)] (sQ 59 0) 1112
theorem X26_ok  : (X26 ).okF E := fv0 (by kernel_rfl) (by kernel_rfl)
def X27  : Fact :=⟨19,[sQ 59 0],1112,[(59,Xo32)],.sc (sl5 1118 0 2 2 5),1149,[(59,Xo32),(1118,.cells false [iI 1,iI 0,iV 0,iV 83886081,iH 7000,iI 2,iI 0,iV 0,iV 83886082,iH 7000])]⟩
theorem X27_ok  : (X27 ).okF E := fv0 (by kernel_rfl) (by kernel_rfl)
end Go.Proofs.YtdfpjhlckjognaaGreat
namespace Go.Proofs.YtdfpjhlckjognaaGreat
open Go Go.Proofs.YtdfpjhlckjognaaGreat.Fw
set_option maxRecDepth 100000
def exT : Fact := fS 4 [] 0 [] (sB true) 1149
theorem exT_ok : exT.okF E := fv1 [X0,X2,X14,X24,X25,X26,X27] ⟨X0_ok,X2_ok,X14_ok,X24_ok,X25_ok,X26_ok,X27_ok,trivial⟩ (by kernel_rfl) (by kernel_rfl)
end Go.Proofs.YtdfpjhlckjognaaGreat
