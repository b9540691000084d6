/- Contracts of functions of the program, and plain laws, towards the laws of replicas. Joined of the texts: RsProg, Reach, Tab0, FB, Base. -/
import Derived.Test.YtnehgpeelgjjhaaGreatDoorProg
import Derived.KernelRfl
import GoSem.ClaimFn
import GoSem.ClaimGoes
import GoSem.ClaimSevenParts
import Derived.Test.YtnehgpeelgjjhaaGreatDoorW01
import Derived.Test.YtnehgpeelgjjhaaGreatDoorW02
import Derived.WalkKit
import Derived.WalkLawsBesides
import Derived.WalkSpells
import Derived.Below
import Derived.Laws.OwnMore
import Derived.Deep.AppendLies
import Derived.Deep.Draws
import Derived.Deep.QuietTactic
import Derived.BigQuiet
import Derived.Lib.Hide
import Derived.RegionCalls
import Derived.Deep.RegionHeld3
set_option linter.all false
set_option maxRecDepth 100000
set_option maxHeartbeats 12800000

namespace Go.Reach
abbrev Row :=List Nat×Option String×List Nat×Option String
def rowFn (P:Program)(fn:Func):Row :=
 (P.leadsTo fn,(if fn.ours||fn.body.isNone||fn.name == "runtime.NumGoroutine" then some fn.name else none),fn.body.elim [] Code.globalsNamed,(if fn.body.isNone then entryReads.lookup fn.name else none))
def rowOf (P:Program)(k:Nat):Row:=(P.funcs[k]?).elim ([],none,[],none) (rowFn P)
def closM (T:Nat->List Nat):Nat->List Nat->List Nat->Nat->List Nat
 | 0,_,seen,_=>seen.reverse
 | _+1,[],seen,_=>seen.reverse
 | n+1,f::todo,seen,m=>if m.testBit f then closM T n todo seen m else closM T n (T f++todo) (f::seen) (m ||| 2 ^ f)
theorem leads_row {P:Program}(k:Nat):(P.funcs[k]?).elim [] P.leadsTo=(rowOf P k).1:=by
 unfold rowOf;cases P.funcs[k]?<;>rfl
theorem closureVia_eq (P:Program)(T:Nat->List Nat)(hT:∀k,(rowOf P k).1=T k) :
 ∀(n:Nat) (todo seen:List Nat) (m:Nat),(∀k,m.testBit k=seen.contains k)->P.closureVia n todo seen=closM T n todo seen m
 | 0,_,_,_,_=>by simp[Program.closureVia,closM]
 | n+1,[],seen,m,_=>by simp[Program.closureVia,closM]
 | n+1,f::todo,seen,m,hm=>by
   have h:=hm f;unfold Program.closureVia closM
   by_cases hs:seen.contains f=true
   ·rw[if_pos hs,if_pos (h.trans hs)]
    exact closureVia_eq P T hT n todo seen m hm
   ·have h2:¬(m.testBit f=true):=by rw[h];exact hs
    rw[if_neg hs,if_neg h2,leads_row f,hT f];refine closureVia_eq P T hT n (T f++todo) (f::seen) (m ||| 2 ^ f) λk=>?_
    rw[Nat.testBit_or,hm k,List.contains_cons,Nat.testBit_two_pow]
    by_cases e:k=f
    ·subst e;simp
    ·have e2:¬(f=k):=λh=>e h.symm
     simp[e,e2]
theorem rows_eq (P:Program):P.funcs.toList.map (rowFn P)=(List.range P.funcs.size).map (rowOf P):=by
 refine List.ext_getElem? λi=>?_
 rw[List.getElem?_map,List.getElem?_map,Array.getElem?_toList]
 by_cases h:i<P.funcs.size
 ·rw[List.getElem?_range h,Array.getElem?_eq_getElem h]
  simp[rowOf,h]
 ·rw[Array.getElem?_eq_none (by omega),List.getElem?_eq_none (by simp;omega)]
  rfl
structure Tabled (P:Program) (tab:List Row) (fuel:Nat):Prop where
 rows:(List.range P.funcs.size).map (rowOf P)=tab
 sum:1+(tab.map λr=>r.1.length+1).sum=fuel
def look (tab:List Row)(k:Nat):Row:=tab.getD k ([],none,[],none)
theorem Tabled.row {P:Program}{tab:List Row}{fuel:Nat}(h:Tabled P tab fuel)(k:Nat):rowOf P k=look tab k:=by
 unfold look;rw[<- h.rows,List.getD_eq_getElem?_getD,List.getElem?_map]
 by_cases hk:k<P.funcs.size
 ·rw[List.getElem?_range hk];rfl
 ·rw[List.getElem?_eq_none (by simp;omega)]
  unfold rowOf;rw[Array.getElem?_eq_none (by omega)];rfl
theorem Tabled.closure {P:Program}{tab:List Row}{fuel:Nat}(h:Tabled P tab fuel)(f:Nat):P.closure f=closM (λk=>(look tab k).1) fuel [f] [] 0:=by
 unfold Program.closure;have e:(P.funcs.toList.map λg=>(P.leadsTo g).length+1)=tab.map λr=>r.1.length+1:=by
  rw[<- h.rows,<- rows_eq,List.map_map];rfl
 rw[e,h.sum];exact closureVia_eq P _ (λk=>by rw[h.row k]) fuel [f] [] 0 (λk=>by simp)
theorem Tabled.inPlace {P:Program}{tab:List Row}{fuel:Nat}(h:Tabled P tab fuel)(f:Nat):P.inPlace f=(closM (λk=>(look tab k).1) fuel [f] [] 0).filterMap λk=>(look tab k).2.1:=by
 unfold Program.inPlace;rw[h.closure]
 congr 1
 funext k
 rw[<- h.row k];unfold rowOf;cases P.funcs[k]?<;>rfl
theorem Tabled.varsNamed {P:Program}{tab:List Row}{fuel:Nat}(h:Tabled P tab fuel)(f:Nat){L:List Nat}(hL:closM (λk=>(look tab k).1) fuel [f] [] 0=L) :
 P.varsNamed f=(((L.flatMap λk=>(look tab k).2.2.1).eraseDups).filterMap (λg=>(P.globals[g]?).map (·.name))++L.filterMap λk=>(look tab k).2.2.2).eraseDups:=by
 have e1:(λg:Nat=>((P.funcs[g]?).bind (·.body)).elim [] Code.globalsNamed)=λk=>(look tab k).2.2.1:=by
  funext k
  rw[<- h.row k];unfold rowOf;cases P.funcs[k]?<;>rfl
 have e2:(λg:Nat=>(P.funcs[g]?).bind λfn=>if fn.body.isNone then entryReads.lookup fn.name else none)=λk=>(look tab k).2.2.2:=by
  funext k
  rw[<- h.row k];unfold rowOf;cases P.funcs[k]?<;>rfl
 unfold Program.varsNamed;rw[h.closure,hL,e1,e2]
theorem Tabled.unfollowed {P:Program}{tab:List Row}{fuel:Nat}(h:Tabled P tab fuel)(f g:Nat)(hg:(closM (λk=>(look tab k).1) fuel [f] [] 0).contains g=true)
 (hu:((P.funcs[g]?).any λfn=>match fn.body with|some c=>c.unfollowed|none=>entryCalls fn)=true):P.unfollowed f=true:=by
 unfold Program.unfollowed;rw[h.closure,List.any_eq_true];exact⟨g,by simpa using hg,hu⟩
theorem recurses_of {P:Program}{f:Nat}(h:P.unfollowed f=true):P.recurses f=true:=by
 unfold Program.recurses;rw[h];rfl
theorem range_cut {α:Type}(F:Nat->α)(a b c:Nat)(X Y:List α)(h1:(List.range' a b).map F=X)(h2:(List.range' (a+b) c).map F=Y):(List.range' a (b+c)).map F=X++Y:=by
 rw[<- h1,<- h2,<- List.map_append,List.range'_append_1]
theorem all_cut {F:Nat->Bool}(a b c:Nat)(h1:(List.range' a b).all F=true)(h2:(List.range' (a+b) c).all F=true):(List.range' a (b+c)).all F=true:=by
 rw[<- List.range'_append_1,List.all_append,h1,h2];rfl
def still (P:Program)(k:Nat):Bool:=!(P.funcs[k]?).any Func.goes
theorem goes_false {P:Program}{n:Nat}(hn:P.funcs.size=n)(h:(List.range' 0 n).all (still P)=true)(f:Nat):P.goes f=false:=by
 have hk:∀k:Nat,(P.funcs[k]?).any Func.goes=false:=λk=>by
  by_cases hlt:k<n
  ·have:=List.all_eq_true.1 h k (by rw[List.mem_range'_1];omega)
   unfold still at this;simpa using this
  ·rw[Array.getElem?_eq_none (by omega)];rfl
 have h1:((P.closure f).any λg=>(P.funcs[g]?).any Func.goes)=false:=by
  rw[List.any_eq_false];intro g _;rw[hk g];simp
 have h2:P.funcs.any Func.goes=false:=by
  rw[Array.any_eq_false];intro i hi;have:=hk i;rw[Array.getElem?_eq_getElem hi]at this;simpa using this
 unfold Program.goes;rw[h1,h2];simp
theorem looks_true {P:Program}(g:Nat)(hg:g<P.funcs.size)(h:((P.funcs[g]?).any λfn=>match fn.body with|some c=>c.looks P|none=>false)=true):P.looks []=true:=by
 unfold Program.looks;rw[List.any_eq_true];exact⟨g,by simpa using hg,h⟩
end Go.Reach
namespace Go.Proofs.YtnehgpeelgjjhaaGreatDoor.Tw
open Go.Proofs.Tryz
section
open Go.Reach
def r (l:List Nat):Row:=(l,none,[],none)
def t_0 :List Row:=[([],(some "main.main"),[],none),([],(some "gosem.cut"),[],none),r [1],r [6,8,8,9,7,10,11,12,13,14,15,11,16,17,18,19,20,20,21,22,23,24,20,24,20,25,26,20,27,28,20],r [6,8,9,29,8,29,8,29,16,30,30],r [6,8,9,32,31,32,31,29,29,16,33,33],r [27,27,13,15,13,13,25,15,25,16,18,29,29,27,34,35,36,33,37,22,24,24,22],r [38,39,28,14,11,26],r [],r [40,40,40,40],r [],r [23,41,41],r [10],r [22,42,43,44],r [23,41,45,23],r [22,42,46,47],r [22,48],r [23],r [22,49,50,51],r [23,52,53],r [33,37],r [33,37],r [54,54,54,55,56,58,57],r [38,38,38,59,60],r [61,62]]
theorem rows_0 :(List.range' 0 25).map (rowOf prog)=t_0:=by kernel_rfl
def t_1 :List Row:=[r [22,54,56,55,43,43,63,42,65,66,44],r [23,38,59,60,67,45,45,41,23],r [44],r [23],r [54,68,54,54,27,68],r [],r [],r [],r [],r [35,22,69],r [70,71],r [72,73],r [],r [],r [38,38],r [],r [],r [46,47],r [],r [22],r [],r [],r [],r [],r [74]]
theorem rows_1 :(List.range' 25 25).map (rowOf prog)=t_1:=by kernel_rfl
def t_2 :List Row:=[r [49],r [75,76,77,78,76],r [79,80],r [81,82,83,53,53,84],r [],r [86,85],r [54,54,64],r [87],r [],r [38,38,88,45],r [38],r [],r [],r [64],r [90,90,90,89],r [],r [],r [88,59],r [91,92,93],r [94],r [97,99,98],r [100,101],r [102,103,104],r [],r [106]]
theorem rows_2 :(List.range' 50 25).map (rowOf prog)=t_2:=by kernel_rfl
def t_3 :List Row:=[r [107],r [107],r [108,109,110],r [111],r [112],r [79],r [113,114],r [81],r [],r [81],r [115],r [54],r [],r [],r [],r [116,116],r [13],r [15],r [25],r [95,96],r [117,118],r [119,120,121,122,123,124,126,125],r [127,128,129,130,131,134,135,137,138],r [139,77],r [140,141,47]]
theorem rows_3 :(List.range' 75 25).map (rowOf prog)=t_3:=by kernel_rfl
def t_4 :List Row:=[r [142],r [143,144,145,146,147],r [],r [],r [62,105],r [148,149,62],r [],r [150],r [152],([153,154,154],none,[0],none),r [],r [],r [],r [],r [155,155,155,155,156,155,155,155,155,155,155],r [],r [],r [157,125],r [158,159,161,160,158,159,165,164,119,166],r [168,170,167,171,167,172],r [173,175,176],r [],r [177,178,179,180,181],r [182,178,71,166,179,183],r [184,178,166,179,180,180,185,178,181]]
theorem rows_4 :(List.range' 100 25).map (rowOf prog)=t_4:=by kernel_rfl
def t_5 :List Row:=[r [186],r [],r [],r [],r [],r [],r [132,133,133],r [187,187,187,187,187],r [188],r [189],r [136],r [187,187],r [190],r [191,192,193,85],r [97,195,194],r [],r [],r [198],r [199,200],r [201,202,200],r [203],r [204,205,47,206,207,208,47],r [198],r [],r []]
theorem rows_5 :(List.range' 125 25).map (rowOf prog)=t_5:=by kernel_rfl
def t_6 :List Row:=[r [151,77],r [209,210,210,210,211],r [],r [154,154],r [212],r [],r [],r [],r [213,214],r [215,216],r [158,167,166],r [162,163],r [178],r [218,217],r [158,167,166],r [158,158,158,167,166],r [],r [],r [169],r [222,194],r [167,167],r [223],r [224],r [174],r [225,167,167]]
theorem rows_6 :(List.range' 150 25).map (rowOf prog)=t_6:=by kernel_rfl
def t_7 :List Row:=[r [226],r [227,97,98],r [176,228,229,230],r [166],r [232,231,166],r [],r [233,100,178,234,178,235,166],r [176,228,236,237,176],r [238,239],r [176,228,228,240,241,236,236,230],r [97,97,242,243,244,243,244,245,246,245,246,247,62,47],r [],r [],r [248,249],r [],r [],r [],r [],r [133],r [250,217,211],r [196,196,196,197,196,196],r [49,251,210],r [196],r [252],r [97,253]]
theorem rows_7 :(List.range' 175 25).map (rowOf prog)=t_7:=by kernel_rfl
def t_8 :List Row:=[r [254,255],r [256],r [201,257],r [],r [258,189,97],r [],r [],r [259,260,262,263,261],r [264],r [265,266],r [265],r [],r [],r [178],r [],r [178],r [214],r [267],r [219,219,219,220,219,219,219,221,219,221],r [214,251],r [219,219,219,219,187,251,219,219],r [219,187,251],r [196,197,196,196,196,196],r [],r []]
theorem rows_8 :(List.range' 200 25).map (rowOf prog)=t_8:=by kernel_rfl
def t_9 :List Row:=[r [],r [],r [268,85],r [269,270],r [97,140,141,47,272],r [236,98],r [],r [],r [273],r [274,275],r [276,278,277,279,280,62,277,281,277,282,277,283,281,277,145,284,285,257,277,286,277,287,49,286,277],r [47,99,288],r [289,290],([],(some "slices.overlaps[clearway/api.Trust]"),[],none),r [291],r [176,292,292],r [97,97,97,243,244,243,244,243,244,293,245,246,245,246,245,246,294,62,62,62,295,296,297,85,298,297,47],r [],r [],r [],r [],r [],r [],r [],r [90]]
theorem rows_9 :(List.range' 225 25).map (rowOf prog)=t_9:=by kernel_rfl
def t_10 :List Row:=[r [],r [299],r [300,301,302,303,304,305,306,307,308,309,310,311,312,313,314,315,316,317,318,319,320],r [321],r [324,326,327,325,328],r [329,330,331],r [332,85],r [256,333,333],r [],r [],r [335,334],r [115],r [],r [],r [],r [336],r [337],r [],r [],r [],r [271],r [338,338],r [97,339,140,141,47,340,217],r [],r [201,229,100,342,343]]
theorem rows_10 :(List.range' 250 25).map (rowOf prog)=t_10:=by kernel_rfl
def t_11 :List Row:=[r [199,345,344,202,345,344,47,47],r [],r [],r [346,347],r [348,277,85,349,277,350,277,47,351,277,277,277,282,281,277,352,353,97,277,287,277],r [354,277,281,277,272,277,277],r [208],r [355,189],r [206,207],r [348,277,85,356,277,357,277,208,62,277],r [282,282,358,62,287,287,283,85,208,277,359,360,277,147,359,147],r [361,326,327,325,362,363,361],r [282,364],r [],([],(some "slices.overlaps[clearway/api.Branch]"),[],none),r [365],r [366,366,366],r [],r [367,295],r [368,295],r [],r [],r [260],r [260],r []]
theorem rows_11 :(List.range' 275 25).map (rowOf prog)=t_11:=by kernel_rfl
def t_12 :List Row:=[r [97,369],r [370,371,259],r [370],r [97,372,373,374,375,375,376,375,206,377],r [378,379,380,381,137,207,378,381,377,378,382,378,382,383,383],r [378],r [97,384,385],([386,387,137,389,390,391,392,393],none,[1],none),r [389,390],r [97,394],r [395,396],r [395,397,397],r [398,399,208,400,399,400,401],r [402,403,207,402,403,259,402,400],r [402,404,190],r [97,405,406,406,407,408,409,411,411,411,412],r [413,414,415,259,413,415,416,417,418,417,418,419],r [413,259],r [97,420,421,422,423,47],r [424,425,426],r [],r [322,323,323,323],r [206,323,323],r [49,210,211],r []]
theorem rows_12 :(List.range' 300 25).map (rowOf prog)=t_12:=by kernel_rfl
def t_13 :List Row:=[r [],r [],r [],r [427],r [],r [329,49,77],r [329,329,329,77],r [],r [49,210,211],r [428,429,430,431,432,433,434,435,436,334,334],r [437,438],([],(some "internal/abi.NoEscape"),[],none),([],(some "internal/bytealg.MakeNoZero"),[],none),r [],r [],r [341],r [439,441,443,446,448,450,451,453,454,455],r [201,201,457,456],r [461,462,463,462,272,462,207,462,62,364,364,345,207,462,207,462],r [254,325,255,47,465,466,464],r [],r [256,256,468,469,459],r [90],r [361],r []]
theorem rows_13 :(List.range' 325 25).map (rowOf prog)=t_13:=by kernel_rfl
def t_14 :List Row:=[r [471,470],r [474,470],r [335,479],r [],r [480,481,482,483,484,484,484,485,486,487],r [],r [],r [489,490,491,492],r [208],r [283,208,277,493,146,277],r [198],r [494,495,325,496,496,497,498,464],r [],r [434,499,499],r [204,322],r [500,500,500],r [],r [],r [],r [206,259,206,259],r [],r [501,502,137],r [503,504,504,377,505,505],r [],r []]
theorem rows_14 :(List.range' 350 25).map (rowOf prog)=t_14:=by kernel_rfl
def t_15 :List Row:=[r [47],r [377],r [506],r [508,507],r [],r [],r [],r [],r [],r [509,510,511],r [509,509,512,514,513,391],r [],r [388],r [515],r [],r [85,516],r [392],r [517],r [518,519],r [521,520,522],r [523,525,526,85,259,85],r [527,527,397,397,528],r [527],r [97,529,530,208],r [401,531]]
theorem rows_15 :(List.range' 375 25).map (rowOf prog)=t_15:=by kernel_rfl
def t_16 :List Row:=[r [],r [],r [532,507],r [],r [],r [533,534,535,536,538],r [539],r [],r [540],r [410,410,90],r [],r [],r [411],r [541,507],r [542,543,137],r [],r [419],r [418],r [],r [],r [544,426],r [545,545],r [546],r [547,548,190],r [549,550,137]]
theorem rows_16 :(List.range' 400 25).map (rowOf prog)=t_16:=by kernel_rfl
def t_17 :List Row:=[r [],r [520,552],r [],r [434],r [553,553],r [554,555],r [556,556,556,557],r [],r [434,434,434],r [116,116],r [434,434],r [434,434,434,434],r [],r [],r [440],r [188,136,251,558],r [206,251,442],r [188,208,251,559],r [444,132,133,133,251,445],r [560,561],r [562,563],r [444,251,447],r [],r [187,251,449],r [444,251]]
theorem rows_17 :(List.range' 425 25).map (rowOf prog)=t_17:=by kernel_rfl
def t_18 :List Row:=[r [187,251,449],r [133,251,442,452],r [],r [133,191,192,251,440,452,251],r [188,187,251],r [47,138,251],r [],r [458,458,459,460],r [564,507],r [62],r [47,47],r [565,566,567,568,569,570,571,572,573,575],r [],r [577],r [578],r [],r [467,427],r [],r [],r [],r [579],r [472,473,472,473,472,473],r [214,473],r [],r [472,472,472,473,475,476,477,137,137,478,97,473]]
theorem rows_18 :(List.range' 450 25).map (rowOf prog)=t_18:=by kernel_rfl
def t_19 :List Row:=[r [472,472,472,472,473,472,472],r [259],r [],r [207,352,580],r [581,582,583,584,585,586,587,588,479,479],r [],r [],r [],r [],r [488],r [],r [283],r [488],r [589,190,277],r [],r [],r [590,590],r [],r [],r [],r [],r [591],r [329],r [330],r []]
theorem rows_19 :(List.range' 475 25).map (rowOf prog)=t_19:=by kernel_rfl
def t_20 :List Row:=[r [],r [],r [],r [377],r [],r [377],r [],r [],r [],r [47,392],r [512,513,592],r [512,513,592,392],r [],r [512,392],r [],r [],r [],r [],r [],r [],r [335,593],r [90,90,89],r [594,595,596],r [524,507],r []]
theorem rows_20 :(List.range' 500 25).map (rowOf prog)=t_20:=by kernel_rfl
def t_21 :List Row:=[r [],r [597,598,137],r [],r [521],r [401,399,400],r [406,600,599,601,260],r [],r [],r [417,418,418,406],r [602,603,605,604,609,608,611,611,612,613],r [335,614],r [537,537,90,410,410,90,89],([],none,[3],none),r [411,615,617,616,411,411,607,618,538,538],r [619,620],r [621,621,622,622],r [],r [],r [],r [],r [],r [],r [],r [],r []]
theorem rows_21 :(List.range' 525 25).map (rowOf prog)=t_21:=by kernel_rfl
def t_22 :List Row:=[r [551],r [623],r [],r [434,434],r [335],r [],r [557],r [624,624,624],r [625,626],r [],r [],r [90],([],(some "slices.overlaps[clearway/api.Edge]"),[],none),r [627],r [],r [],r [],r [],r [],r [],r [],r [],r [],r [206,574],r []]
theorem rows_22 :(List.range' 550 25).map (rowOf prog)=t_22:=by kernel_rfl
def t_23 :List Row:=[r [576],r [],r [208],r [331],r [],r [],r [],r [628,628],r [554,555],r [629,629,629,630],r [],r [],r [],r [],r [],r [214,492],r [],r [],r [631,632,633,634,635,636,637,638,593,593],r [],r [259],r [639],r [],r [],r []]
theorem rows_23 :(List.range' 575 25).map (rowOf prog)=t_23:=by kernel_rfl
def t_24 :List Row:=[r [],r [],r [411,410,410,610,607,640,641,85],r [642],r [],r [606,607,607],r [],r [411,411],r [],r [610],r [],r [644,643],r [643],r [],r [621,645,646,647,648,649,650,651,614,614],r [411,411,410],r [643],r [],r [],r [],r [],r [],r [652,622,622],r [],r [434]]
theorem rows_24 :(List.range' 600 25).map (rowOf prog)=t_24:=by kernel_rfl
def t_25 :List Row:=[([],(some "slices.overlaps[clearway/api.Vertex]"),[],none),r [653],r [654,654,654],r [],r [630],r [655,655,655],r [],r [656,656],r [554,555],r [657,657,657,658],r [],r [],r [],r [],r [],r [659,659],r [],r [],r [],r [],r [660,660],r [554,555],r [661,661,661,662],r [],r []]
theorem rows_25 :(List.range' 625 25).map (rowOf prog)=t_25:=by kernel_rfl
def t_26 :List Row:=[r [],r [],r [663,663,663],r [664,664,664],r [],r [],r [],r [658],r [665,665,665],r [666,667,667],r [],r [662],r [668,668,668],r [],r [],r [],r [],r [],r [],([],(some "(runtime.boundsError).Error"),[],none),([],(some "(runtime.boundsError).RuntimeError"),[],none),([],(some "(runtime.errorString).Error"),[],none),([],(some "(runtime.errorString).RuntimeError"),[],none),([],(some "(runtime.plainError).Error"),[],none),([],(some "(runtime.plainError).RuntimeError"),[],none)]
theorem rows_26 :(List.range' 650 25).map (rowOf prog)=t_26:=by kernel_rfl
def t_27 :List Row:=[([],(some "(runtime.errorAddressString).Error"),[],none),([],(some "(runtime.errorAddressString).RuntimeError"),[],none),([],(some "(*runtime.TypeAssertionError).Error"),[],none),([],(some "(*runtime.TypeAssertionError).RuntimeError"),[],none),([],(some "(*runtime.PanicNilError).Error"),[],none),([],(some "(*runtime.PanicNilError).RuntimeError"),[],none),([],(some "(*internal/abi.Type).Align"),[],none),([],(some "(internal/runtime/maps.unhashableTypeError).Error"),[],none),([],(some "(internal/runtime/maps.unhashableTypeError).RuntimeError"),[],none),([],(some "(*strings.Builder).Reset"),[],none),r [518,690],([],(some "(clearway/cert.maybe).text"),[],none),([],(some "(internal/abi.Kind).String"),[],none),r [],r [518,691,692,518],r [],r [],r [],([],(some "var's door: clearway/digest.round is laid by its own initialiser, plain data (look 11)"),[],none),([],(some "var's door: clearway/dist.checks is laid by its own initialiser, plain data and functions by name (funcs 1)"),[],none),([],(some "var's door: gosem.cut.vars holds initialisers alone; see the manifest's row cutvarsword (look 11, test files too)"),[],none),([],(some "var's door: math/bits.deBruijn32tab is laid by its own initialiser, plain data (look 11)"),[],none),([],(some "var's door: the look of gosem.cut.vars went over the folder that the caller named as the repository's root (look 11)"),[],none),([688,689,685],none,[3,0,1],none)]
theorem rows_27 :(List.range' 675 24).map (rowOf prog)=t_27:=by kernel_rfl
def tab :List Row:=t_0++t_1++t_2++t_3++t_4++t_5++t_6++t_7++t_8++t_9++t_10++t_11++t_12++t_13++t_14++t_15++t_16++t_17++t_18++t_19++t_20++t_21++t_22++t_23++t_24++t_25++t_26++t_27
theorem prog_size :prog.funcs.size=699:=by kernel_rfl
theorem tab_rows :(List.range' 0 699).map (rowOf prog)=tab:=(range_cut (rowOf prog) 0 675 24 _ _ (range_cut (rowOf prog) 0 650 25 _ _ (range_cut (rowOf prog) 0 625 25 _ _ (range_cut (rowOf prog) 0 600 25 _ _ (range_cut (rowOf prog) 0 575 25 _ _ (range_cut (rowOf prog) 0 550 25 _ _ (range_cut (rowOf prog) 0 525 25 _ _ (range_cut (rowOf prog) 0 500 25 _ _ (range_cut (rowOf prog) 0 475 25 _ _ (range_cut (rowOf prog) 0 450 25 _ _ (range_cut (rowOf prog) 0 425 25 _ _ (range_cut (rowOf prog) 0 400 25 _ _ (range_cut (rowOf prog) 0 375 25 _ _ (range_cut (rowOf prog) 0 350 25 _ _ (range_cut (rowOf prog) 0 325 25 _ _ (range_cut (rowOf prog) 0 300 25 _ _ (range_cut (rowOf prog) 0 275 25 _ _ (range_cut (rowOf prog) 0 250 25 _ _ (range_cut (rowOf prog) 0 225 25 _ _ (range_cut (rowOf prog) 0 200 25 _ _ (range_cut (rowOf prog) 0 175 25 _ _ (range_cut (rowOf prog) 0 150 25 _ _ (range_cut (rowOf prog) 0 125 25 _ _ (range_cut (rowOf prog) 0 100 25 _ _ (range_cut (rowOf prog) 0 75 25 _ _ (range_cut (rowOf prog) 0 50 25 _ _ (range_cut (rowOf prog) 0 25 25 _ _ rows_0 rows_1) rows_2) rows_3) rows_4) rows_5) rows_6) rows_7) rows_8) rows_9) rows_10) rows_11) rows_12) rows_13) rows_14) rows_15) rows_16) rows_17) rows_18) rows_19) rows_20) rows_21) rows_22) rows_23) rows_24) rows_25) rows_26) rows_27)
theorem tabled :Tabled prog tab 2110 where
 rows:=by rw[prog_size,List.range_eq_range'];exact tab_rows
 sum:=by kernel_rfl
def reach3 :List Nat:=[3,6,27,44,22,54,55,86,85,115,56,64,90,116,89,58,57,87,13,42,46,47,43,15,25,63,65,66,16,48,18,49,74,106,50,51,75,107,150,151,209,265,336,266,337,210,211,77,108,152,109,153,154,212,110,76,78,111,29,68,91,92,93,34,35,70,97,127,128,129,130,131,132,187,133,188,248,249,134,189,135,136,137,190,138,191,192,193,99,140,141,98,139,195,196,251,299,197,194,250,217,267,71,100,142,198,252,300,369,206,259,301,370,371,501,502,302,303,372,503,377,506,504,505,373,374,375,376,304,378,508,507,379,380,381,207,260,335,437,438,334,428,434,429,553,430,554,555,431,556,557,624,432,433,435,436,262,263,261,382,383,305,306,384,509,392,517,510,512,513,592,511,385,514,391,307,386,387,388,515,389,390,516,393,518,519,308,309,394,521,520,593,631,632,656,633,634,657,658,665,635,636,637,638,522,594,595,596,639,310,395,523,524,525,526,597,598,396,527,397,528,311,312,398,529,401,399,531,400,530,406,539,619,620,600,599,601,208,264,313,402,532,403,314,404,315,405,533,417,418,534,602,411,410,610,607,640,659,666,667,641,603,642,605,606,604,609,608,611,644,643,612,613,535,614,621,645,660,646,647,661,662,668,648,649,650,651,536,537,538,615,617,616,618,407,408,540,622,652,663,409,412,316,413,541,414,542,543,415,416,419,317,318,420,544,426,552,421,545,422,546,423,547,548,319,424,549,550,551,623,425,320,101,143,199,253,321,322,323,200,254,324,326,327,325,328,427,255,329,330,331,144,201,256,332,202,257,333,145,203,146,204,258,205,147,69,94,95,117,157,125,186,118,158,213,178,166,214,159,215,216,161,162,163,218,219,220,221,160,167,165,164,119,168,169,222,170,171,223,172,224,96,120,173,174,225,175,226,176,227,268,121,122,177,228,269,270,271,338,229,272,339,340,341,439,440,558,625,626,653,664,441,442,559,443,444,560,561,445,562,563,627,654,446,447,448,449,450,451,452,453,454,455,230,236,288,179,232,231,180,181,233,273,234,274,342,457,458,564,459,62,460,456,343,461,565,566,567,568,569,570,571,572,573,574,575,576,462,463,577,364,345,275,344,465,466,467,464,578,235,276,278,346,468,469,347,277,279,348,361,494,495,496,591,497,498,349,350,471,472,473,470,579,351,474,475,476,477,478,352,479,581,582,628,583,584,629,630,655,585,586,587,588,580,282,355,281,353,287,280,354,480,481,482,483,484,488,589,485,486,283,487,284,356,357,489,490,491,590,492,285,358,359,493,360,286,362,363,499,123,182,237,289,290,365,500,183,238,239,291,366,124,184,240,292,241,243,244,293,367,295,245,246,294,368,296,297,298,185,242,247,126,36,72,102,103,104,105,148,149,73,33,37,24,61,8,9,40,7,38,39,28,23,59,88,45,60,14,41,11,26,67,10,12,17,19,52,79,112,80,53,81,113,114,155,156,82,83,84,20,21]
theorem reach_eq3 :closM (λk=>(Go.Reach.look tab k).1) 2110 [3] [] 0=reach3:=by kernel_rfl
theorem place3 :prog.inPlace 3=["internal/abi.NoEscape", "internal/bytealg.MakeNoZero", "slices.overlaps[clearway/api.Vertex]", "slices.overlaps[clearway/api.Edge]", "slices.overlaps[clearway/api.Branch]", "slices.overlaps[clearway/api.Trust]"]:=by rw[tabled.inPlace,reach_eq3];kernel_rfl
theorem vars3 :prog.varsNamed 3=["clearway/digest.round", "clearway/dist.checks", "math/bits.deBruijn32tab"]:=by rw[tabled.varsNamed 3 reach_eq3];kernel_rfl
theorem follow3 :prog.unfollowed 3=true:=tabled.unfollowed 3 307 (by rw[reach_eq3];kernel_rfl) (by rw[func307];kernel_rfl)
theorem recur3 :prog.recurses 3=true:=recurses_of follow3
end
end Go.Proofs.YtnehgpeelgjjhaaGreatDoor.Tw
namespace Go.Proofs.YtnehgpeelgjjhaaGreatDoor
open Go.Proofs.YtnehgpeelgjjhaaGreatDoor.Tw
theorem matches_facts :joinedFacts Tryz.prog 3 Tryz.f3 Rows.replicaMatchesReferenceSpec Rows.replicaMatchesReferenceRow=true:=by
 unfold joinedFacts;rw[laid_out,fact_maps,place3,follow3,recur3,vars3,fact_plain,fact_heard,fact_enter,fact_lifts,fact_make,fact_stops,fact_knobs];kernel_rfl
end Go.Proofs.YtnehgpeelgjjhaaGreatDoor
namespace Go.Proofs.YtnehgpeelgjjhaaGreatDoor.Tw
open Go.Proofs.Tryz
section
open Go.RowKit
def Reads (w:World)(B size:Nat)(A:Option Addr)(n:Nat)(xs:List Value):Prop :=
 xs.length=n*size/\(0<n->∃b off,A=some ⟨b,off,none⟩/\b<B/\∀j u,xs[j]?=some u->w.cell? ⟨b,off+j,none⟩=some u)
section
variable {w w':World} {B B' size n:Nat} {A:Option Addr} {xs:List Value}
theorem Reads.keep (h:Reads w B size A n xs)(hk:∀p:Addr,p.block<B->w'.cell? p=w.cell? p):Reads w' B size A n xs :=
 ⟨h.1,λhn=>by
   obtain⟨b,off,e,hb,hc⟩:=h.2 hn;exact⟨b,off,e,hb,λj u hu=>(hk _ hb).trans (hc j u hu)⟩⟩
theorem Reads.more (h:Reads w B size A n xs)(hB:B<=B'):Reads w B' size A n xs :=
 ⟨h.1,λhn=>by
   obtain⟨b,off,e,hb,hc⟩:=h.2 hn;exact⟨b,off,e,by omega,hc⟩⟩
theorem Reads.below (h:Reads w B size A n xs)(hb:Below B w w'):Reads w' B size A n xs:=h.keep λ_ hp=>hb.cell hp
end
theorem bcell {W w1:World}{B:Nat}(hb:Below B W w1):(∀b o,b<B->w1.cell? ⟨b,o,none⟩=W.cell? ⟨b,o,none⟩)/\(∀b o,b<B->w1.frozen? ⟨b,o,none⟩=W.frozen? ⟨b,o,none⟩) :=
 ⟨λb o h=>hb.cell (p:=⟨b,o,none⟩) h,λb o h=>hb.frozen (p:=⟨b,o,none⟩) h⟩
structure Later (w:World) where
 W:World
 is:Below w.heap.size w W
instance (w:World):Nonempty (Later w):=⟨⟨w,Below.refl _ _⟩⟩
theorem wp_region_later {P:Program}{id:Nat}{Q:Exit->Act->World->Prop}{a:Act}{w:World}{l:List Oper}(hm:P.follows .mixedOrders=true)(hB:Region.lexB .any l.toArray=true)
 (h:wpQuiet P l.toArray (λw'=>∃x:Later w,w'=x.W) (λa'=>∀w',(∃x:Later w,w'=x.W)->Q .normal a' w') l a):(Code.region id l.toArray true).wp P Q a w :=
 wp_region_quiet (C:=λw'=>∃x:Later w,w'=x.W) hm hB ⟨⟨w.drew,(Below.refl _ _).drew⟩,rfl⟩ (by simpa using h)
theorem later_of {P:Program}{f:FuncId}{args:Array Value}{w:World}{x:Later w}{v:Value}
 (h:Calls P f args x.W λe w'=>e=.returned v/\Below x.W.heap.size x.W w'):Calls P f args x.W λe w''=>e=.returned v/\∃y:Later w,w''=y.W :=
 h.mono λ_ w2 ⟨he,hb⟩=>⟨he,⟨w2,x.is.trans (hb.mono x.is.size)⟩,rfl⟩
theorem later_same {P:Program}{f:FuncId}{args:Array Value}{w:World}{x:Later w}{v:Value}
 (h:Calls P f args x.W λe w'=>e=.returned v/\x.W=w'):Calls P f args x.W λe w''=>e=.returned v/\∃y:Later w,w''=y.W :=
 h.mono λ_ _ ⟨he,hb⟩=>⟨he,x,hb.symm⟩
theorem Later.cell {w:World}{b o:Nat}{v:Value}(h:w.cell? ⟨b,o,none⟩=some v)(hb:b<w.heap.size):∀x:Later w,x.W.cell? ⟨b,o,none⟩=some v :=
 λx=>(x.is.cell (p:=⟨b,o,none⟩) hb).trans h
theorem lt_of_cell {w:World}{b o:Nat}{v:Value}(h:w.cell? ⟨b,o,none⟩=some v):b<w.heap.size:=World.block_lt_of_cell? w _ h
theorem Later.of {w:World}{b o:Nat}{v:Value}(h:w.cell? ⟨b,o,none⟩=some v):∀x:Later w,x.W.cell? ⟨b,o,none⟩=some v:=Later.cell h (lt_of_cell h)
end
end Go.Proofs.YtnehgpeelgjjhaaGreatDoor.Tw
