/- The calls that were evaluated; no condition. -/
import Derived.Test.YtkhecbikkdcfoaaGreatDoorM2
noncomputable section
set_option linter.all false
namespace Go.bI.kR
set_option maxRecDepth 100000
def ae(n:Int):bv:=.int .i64 n
def S(l:ac ci):bv:=.string ⟨⟨l⟩⟩
def L(a n c:Nat):bv:=.slice (some ⟨a,0,none⟩) n c
def Z:bv:=.slice none 0 0
def T:bv:=.bool true
def F:bv:=.bool false
def G(l:ac bv):bv:=.agg ⟨l⟩
def iI(l:ac bv):bv:=.tuple ⟨l⟩
def dR:bv:=S [51,47,49,48,50,52]
def gX:Nat×bG:=(0,.cells [ae 0,ae 0,ae 0,ae 1,ae 0,ae 1,ae 0,ae 0,ae 1,ae 1,ae 1,ae 1,ae 1,ae 1,ae 1,ae 1,ae 2,ae 2,ae 2,ae 2,ae 2,ae 2,ae 2,ae 2,ae 2,ae 2,ae 2,ae 2,ae 3,ae 3,ae 4,ae 4] 263 (0,32) false)
def cW:Nat×bG:=(2,.cells ([1,10,100,1000,10000,100000,1000000,10000000,100000000,1000000000,10000000000,100000000000,1000000000000,10000000000000,100000000000000,1000000000000000,10000000000000000,100000000000000000,1000000000000000000,10000000000000000000].map<|.int .u64) 333 (0,20) false)
def tT:Nat×bG:=(7,.cells [F,T,F,T,T,F,F,T,T,T,T,F,F,F,T,F] 360 (0,16) false)
def kS:dA:=⟨.node (.node (.node (.node .nil (some 7) .nil) (some 3) .nil) (some 1)<|.node .nil (some 5) .nil) (some 0)<|.node (.node (.node .nil (some 8) .nil) (some 4) .nil) (some 2)<|.node .nil (some 6) .nil,.node (.node (.node (.node .nil (some 7) .nil) (some 3) .nil) (some 1)<|.node .nil (some 5) .nil) (some 0)<|.node (.node (.node .nil (some 8) .nil) (some 4) .nil) (some 2)<|.node .nil (some 6) .nil,9⟩
def qC:bG:=.cells [ae 5,ae 11] 38 (0,0) false
def g3:bG:=.cells [ae 0,S [49],S [50]] 49 (0,0) false
def eX:bG:=.cells [ae 1,ae 0,ae 0,ae 0,ae 0,ae 0,S [],ae 10,ae 0,ae 0,ae 0,ae 0,ae 0,S [],ae 9,ae 1,ae 0,ae 0,ae 0,ae 0,S []] 42 (0,0) false
def Vz:bG:=.cells [T,T,T] 4 (0,0) false
def LS:bG:=.cells [] 4 (0,0) false
def zo:bG:=.cells [S [49],S [50]] 64 (0,0) true
def Cs:bG:=.cells [] 130 (0,0) false
def kq:bG:=.cells [.int .u32 1,.int .u32 0] 183 (0,0) false
def n8:bG:=.cells [.int .u32 2,.int .u32 0] 183 (0,0) false
def sY:bG:=.cells [.int .u32 4,.int .u32 0] 183 (0,0) false
def zp:bG:=.cells [.int .u32 512,.int .u32 0] 183 (0,0) false
def LU:bG:=.cells [.int .u32 1] 183 (0,0) false
def zq:bG:=.cells [.int .u32 3] 183 (0,0) false
def LV:bG:=.cells [.int .u32 1024] 183 (0,0) false
def LW:bG:=.cells [.int .u32 3,.int .u32 0] 183 (0,0) false
def Gs:bG:=.cells [.int .u32 9,.int .u32 0] 183 (0,0) false
def VA:bG:=.cells [F,L 13 1 2,Z,F,L 14 1 2,Z] 175 (0,0) false
def VB:bG:=.cells [F,L 15 1 2,L 16 1 2,F,L 15 1 2,L 16 1 2,L 17 1 1] 374 (0,0) false
def kH:eu:=⟨[G [L 9 1 1,ae 0,L 10 1 1,L 11 3 3,ae 3,ae 3,Z,ae 2]],[gX],[qC,g3,eX],iI [ae 0,ae 0,ae 0],[],287⟩
def dX:eu:=⟨[G [L 9 1 1,ae 0,L 10 1 1,L 11 3 3,ae 3,ae 3,Z,ae 2]],[gX],[qC,g3,eX],iI [L 290 3 3,L 291 0 0,ae 0],[(290,Vz),(291,LS)],307⟩
def e5:eu:=⟨[G [L 9 1 1,ae 0,L 10 1 1,L 11 3 3,ae 3,ae 3,Z,ae 2],L 12 1 1],[],[qC,g3,eX,zo],L 46 1 1,[(46,.cells [F,L 26 1 2,Z,F,L 41 1 2,Z] 175 (0,0) true),(26,kq),(41,n8)],58⟩
def ni:eu:=⟨[G [L 9 1 1,ae 0,L 10 1 1,L 11 3 3,ae 3,ae 3,Z,ae 2],L 12 1 1,G [ae 1,ae 0,S [],L 13 3 3,L 14 0 0],ae 0],[gX],[qC,g3,eX,zo,.cells [ae 1,S [],S [],S [],Z,Z,ae 0,S [],S [],S [],Z,Z,ae 0,S [],S [],S [],Z,Z] 130 (0,0) true,Cs],iI [G [F,L 335 1 2,Z],G [F,L 350 1 2,Z],G [F,Z,Z],ae 0],[(335,kq),(350,n8)],380⟩
def rR:eu:=⟨[G [F,L 9 1 2,Z],G [F,L 10 1 2,Z],G [F,Z,Z],ae 1,ae 30],[],[kq,n8],iI [G [ae 1,S [49],S [50],S [48],Z,Z],T],[],143⟩
def oS:eu:=⟨[G [ae 1,S [49],S [50],S [48],Z,Z]],[],[],iI [G [F,L 25 1 2,Z,F,L 40 1 2,Z,F,Z,Z],T],[(25,kq),(40,n8)],71⟩
def zr:eu:=⟨[G [F,L 9 1 2,Z,F,L 10 1 2,Z],G [F,L 11 1 2,Z,F,L 12 1 2,Z]],[],[kq,n8,kq,n8],G [F,L 22 1 2,Z,F,L 83 1 2,Z],[(22,kq),(83,sY)],147⟩
def zs:eu:=⟨[G [F,L 9 1 2,Z,F,L 10 1 2,Z,F,Z,Z],G [F,L 11 1 2,Z,F,L 12 1 2,Z,F,Z,Z]],[],[kq,n8,kq,n8],G [F,Z,Z],[],116⟩
def Gt:eu:=⟨[ae 0,G [ae 5,ae 11],G [F,L 9 1 2,Z]],[],[sY],iI [G [F,L 173 1 2,L 193 1 2],ae 0],[(173,kq),(193,zp)],197⟩
def Gu:eu:=⟨[G [L 9 1 1,ae 0,L 10 1 1,L 11 3 3,ae 3,ae 3,Z,ae 2],L 12 1 1,G [ae 1,ae 0,S [],L 13 3 3,L 14 0 0],ae 1],[gX],[qC,g3,eX,zo,.cells [ae 1,S [49],S [50],S [48],Z,Z,ae 1,S [],S [],S [],Z,Z,ae 0,S [],S [],S [],Z,Z] 130 (0,0) true,Cs],iI [G [F,L 517 1 2,Z],G [F,L 578 1 2,Z],G [F,L 983 1 2,L 982 1 2],ae 0],[(517,kq),(578,sY),(983,kq),(982,zp)],987⟩
def Gv:eu:=⟨[G [F,L 9 1 2,L 10 1 2],ae 30],[],[kq,zp],G [F,L 47 1 1,L 49 1 2],[(47,LU),(49,zp)],51⟩
def Gw:eu:=⟨[G [F,L 9 1 2,Z],G [F,L 10 1 2,Z],G [F,L 11 1 2,L 12 1 2],ae 1,ae 30],[cW],[kq,sY,kq,zp],iI [G [ae 1,S [49],S [52],S [49,47,53,49,50],Z,Z],T],[],196⟩
def zt:eu:=⟨[G [ae 1,S [49],S [52],S [49,47,53,49,50],Z,Z]],[],[],iI [G [F,L 25 1 2,Z,F,L 40 1 2,Z,F,L 57 1 2,L 65 1 2],T],[(25,kq),(40,sY),(57,kq),(65,zp)],81⟩
def Gx:eu:=⟨[G [L 9 1 1,ae 0,L 10 1 1,L 11 3 3,ae 3,ae 3,Z,ae 2],L 12 1 1,G [ae 1,ae 0,S [],L 13 3 3,L 14 0 0],ae 2],[gX],[qC,g3,eX,zo,.cells [ae 1,S [49],S [50],S [48],Z,Z,ae 1,S [49],S [52],S [49,47,53,49,50],Z,Z,ae 1,S [],S [],S [],Z,Z] 130 (0,0) true,Cs],iI [G [T,L 544 1 1,Z],G [F,L 560 1 1,Z],G [F,L 819 1 1,L 821 1 1],ae 0],[(544,LU),(560,zq),(819,zq),(821,LV)],823⟩
def Gy:eu:=⟨[G [F,L 9 1 1,L 10 1 1],ae 30],[],[zq,LV],G [F,L 49 1 1,L 51 1 2],[(49,zq),(51,.cells [.int .u32 1024,.int .u32 0] 183 (0,0) false)],53⟩
def Gz:eu:=⟨[G [T,L 9 1 1,Z],G [F,L 10 1 1,Z],G [F,L 11 1 1,L 12 1 1],ae 1,ae 30],[cW],[LU,zq,zq,LV],iI [G [ae 1,S [45,49],S [51],dR,Z,Z],T],[],198⟩
def GA:eu:=⟨[G [ae 5,ae 11],G [ae 5,ae 11]],[],[],T,[],139⟩
def GB:eu:=⟨[G [L 9 1 1,ae 0,L 10 1 1,L 11 3 3,ae 3,ae 3,Z,ae 2],L 12 1 1,G [ae 1,ae 0,S [],L 13 3 3,L 14 0 0],ae 2],[gX],[qC,g3,eX,zo,.cells [ae 1,S [49],S [50],S [48],Z,Z,ae 1,S [49],S [52],S [49,47,53,49,50],Z,Z,ae 2,S [],S [],S [],Z,Z] 130 (0,0) true,Cs],iI [G [F,Z,Z],G [F,Z,Z],G [F,Z,Z],ae 172],[],953⟩
def GC:eu:=⟨[G [F,L 9 1 2,L 10 1 2,F,L 9 1 2,L 10 1 2],G [F,L 9 1 2,L 10 1 2]],[],[LW,n8],G [F,L 29 1 2,L 32 1 2,F,L 17 1 2,L 20 1 2],[(29,Gs),(32,sY),(17,Gs),(20,sY)],62⟩
def GD:eu:=⟨[G [F,L 9 1 2,L 10 1 2,F,L 9 1 2,L 10 1 2],G [F,L 9 1 2,L 10 1 2,F,L 9 1 2,L 10 1 2]],[],[LW,n8],G [F,L 83 1 2,L 86 1 2,F,L 20 1 2,L 23 1 2],[(83,Gs),(86,sY),(20,Gs),(23,sY)],141⟩
def GF:eu:=⟨[G [F,L 9 1 2,Z,F,L 10 1 2,Z],G [F,L 11 1 2,Z,F,L 11 1 2,Z]],[],[kq,n8,kq],G [F,L 72 1 2,Z,F,L 31 1 2,Z],[(72,kq),(31,n8)],146⟩
def GG:eu:=⟨[ae 0,.pointer<|some ⟨9,0,none⟩,.pointer<|some ⟨10,0,none⟩,.pointer<|some ⟨11,0,none⟩,.pointer<|some ⟨12,0,none⟩],[],[VA,VB,VA,VB,kq,n8,LW,n8,.cells [F,L 18 1 2,Z,F,L 18 1 2,Z] 175 (0,0) true,kq],G [F,L 305 1 2,Z,F,L 321 1 2,Z],[(305,n8),(321,sY)],323⟩
def LX:eu:=⟨[.pointer<|some ⟨9,0,none⟩,ae 2],[gX,cW,tT],[.cells [L 10 1 1,ae 0,L 11 1 1,L 12 3 3,ae 3,ae 3,Z,ae 2,L 13 1 1,ae 30,ae 0,ae 0,T,F,ae 1,ae 0,S [],L 14 3 3,L 15 0 0,L 16 3 3,L 17 0 0] 236 (0,0) false,qC,g3,eX,zo,.cells [ae 1,S [49],S [50],S [48],Z,Z,ae 1,S [49],S [52],S [49,47,53,49,50],Z,Z,ae 0,S [],S [],S [],Z,Z] 130 (0,0) true,Cs,Vz,LS],iI [G [ae 3,S [45,51,47,52],S [57,47,52],dR,Z,Z],ae 0],[],4115⟩
def kr:eu:=⟨[],[gX,cW,tT],[],T,[],12721⟩
