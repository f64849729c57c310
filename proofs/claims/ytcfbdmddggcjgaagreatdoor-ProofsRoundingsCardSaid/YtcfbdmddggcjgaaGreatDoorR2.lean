/- Calls of the program, evaluated by the kernel on the abstract machine; no condition. -/
import Derived.Test.YtcfbdmddggcjgaaGreatDoorT
import Derived.Test.YtcfbdmddggcjgaaGreatDoorD
set_option linter.all false
namespace Go.az.gR
open Go.az.ck
set_option maxRecDepth 100000
def T9:List (Nat×List (Nat×bz)):=[(22,[(19,bT)])]
theorem Xt:FK.dm 11 a7 (eE dT T9) 2000 32=true:=by kernel_rfl
def Ua:List (Nat×List (Nat×bz)):=[(133,[(28,qK)]),(5,[(326,pO),(341,vR)]),(32,[(358,oZ),(1044,tG),(1178,tG),(1598,FK),(1671,FK)]),(129,[(378,yo),(453,pP),(600,pP),(663,yo)]),(312,[(519,FB)]),(151,[(563,FC),(1264,FI),(1284,FI),(1317,FJ),(1333,FA),(1358,FJ),(1718,FF)]),(22,[(752,bT),(755,bT),(758,bT),(760,bT),(769,bT),(1062,bT),(1065,bT),(1196,bT),(1199,bT),(1208,bT),(1211,bT),(1214,bT),(1216,bT),(1224,bT),(1227,bT),(1230,bT),(1232,bT),(1379,bT),(1383,iD),(1399,bT),(1402,bT),(1409,bT),(1460,iD),(1474,bT),(1486,bT),(1528,iD),(1530,iD),(1532,iD)]),(74,[(753,e1),(756,jx),(761,e1),(1063,jx),(1066,jx),(1197,jx),(1200,jx),(1209,e1),(1212,e1),(1217,e1),(1225,jx),(1228,jx),(1233,e1),(1403,yp),(1475,yp)]),(20,[(771,FG),(1412,FG)]),(148,[(780,r5)]),(258,[(808,yq),(820,yq),(859,yq),(871,yq)]),(362,[(936,vT),(987,vT),(1070,vT),(1121,vT)]),(24,[(1435,FH),(1715,Bx)]),(72,[(1439,Bz),(1441,yr),(1457,yr),(1461,yr)]),(85,[(1538,qI),(1611,qI)]),(86,[(1543,qJ),(1618,qJ)]),(90,[(1690,FE)])]
theorem Xu:Ke.dm 11 a7 (eE dT Ua) 2000 13=true:=by kernel_rfl
theorem Xv:FL.dm 11 a7 fN 2000 61=true:=by kernel_rfl
theorem Xw:FM.dm 11 a7 fN 2000 61=true:=by kernel_rfl
theorem Xx:FN.dm 11 a7 fN 2000 278=true:=by kernel_rfl
def Uc:List (Nat×List (Nat×bz)):=[(278,[(0,FN)])]
theorem Xz:Kf.nu 11 [11,12] a7 (eE dT Uc) 2000 167 f167=true:=by kernel_rfl
def Ud:List (Nat×List (Nat×bz)):=[(22,[(17,bT),(19,bT)]),(74,[(20,e1)])]
theorem XA:Kg.dm 11 a7 (eE dT Ud) 2000 258=true:=by kernel_rfl
def Ue:List (Nat×List (Nat×bz)):=[(22,[(19,bT),(22,bT),(25,bT),(27,bT)]),(74,[(20,e1),(23,pQ),(28,e1)])]
theorem XB:Kh.dm 11 a7 (eE dT Ue) 2000 264=true:=by kernel_rfl
def Uf:List (Nat×List (Nat×bz)):=[(258,[(0,Kg)]),(264,[(0,Kh)])]
theorem XC:Ki.nu 11 [11,12] a7 (eE dT Uf) 2000 166 f166=true:=by kernel_rfl
theorem XD:FO.dm 11 a7 fN 2000 278=true:=by kernel_rfl
def Ug:List (Nat×List (Nat×bz)):=[(278,[(0,FO)])]
theorem XE:Kj.nu 11 [11,12] a7 (eE dT Ug) 2000 167 f167=true:=by kernel_rfl
def Uh:List (Nat×List (Nat×bz)):=[(74,[(16,e1),(21,e1)]),(22,[(18,bT),(20,bT)])]
theorem XF:Kk.dm 11 a7 (eE dT Uh) 2000 258=true:=by kernel_rfl
def Ui:List (Nat×List (Nat×bz)):=[(22,[(20,bT),(23,bT),(26,bT),(28,bT)]),(74,[(21,e1),(24,pQ),(29,e1)])]
theorem XG:Kl.dm 11 a7 (eE dT Ui) 2000 264=true:=by kernel_rfl
def Uj:List (Nat×List (Nat×bz)):=[(258,[(0,Kk)]),(264,[(0,Kl)])]
theorem XH:Km.nu 11 [11,12,13,14,15] a7 (eE dT Uj) 2000 146 f146=true:=by kernel_rfl
def Uk:List (Nat×List (Nat×bz)):=[(278,[(0,FO),(0,FN)])]
theorem XI:Kn.nu 11 [11,12,13] a7 (eE dT Uk) 2000 167 f167=true:=by kernel_rfl
theorem XK:Ko.dm 11 a7 fN 2000 168=true:=by kernel_rfl
theorem XL:Kp.dm 11 a7 fN 2000 14=true:=by kernel_rfl
def Ul:List (Nat×List (Nat×bz)):=[(168,[(0,Ko)]),(14,[(0,Kp),(0,Fm)])]
theorem XM:Kq.nu 11 [11,12,13] a7 (eE dT Ul) 2000 67 f67=true:=by kernel_rfl
def Um:List (Nat×List (Nat×bz)):=[(10,[(11,Kd)]),(63,[(725,ym),(5580,ym),(6013,ym)]),(144,[(1002,Bu),(1017,Bv),(1032,Bw),(2894,Bu),(2909,Bv),(2924,Bw),(6290,Bu),(6305,Bv),(6320,Bw),(7134,Fu)]),(133,[(1084,qK),(1443,qK),(1901,qK),(2960,qK),(6372,qK),(6731,qK),(7189,qK)]),(129,[(1381,pP),(1829,yo),(2251,pP),(2316,pP),(3310,yo),(3385,pP),(6669,pP),(7539,pP),(7604,pP)]),(137,[(1738,vS),(2196,vS),(3255,vS),(7026,vS),(7484,vS)]),(32,[(1798,tG),(2631,yn),(2863,tG),(3616,FD),(3689,FD),(7086,tG),(7175,yn),(7919,yn),(8151,tG)]),(22,[(1813,bT),(1816,bT),(1823,bT),(1826,bT),(2851,bT),(2854,bT),(2860,iD),(2878,bT),(2881,bT),(3528,bT),(3531,bT),(3539,bT),(3542,bT),(3548,bT),(3550,iD),(3763,bT),(3766,bT),(3773,bT),(3776,bT),(3793,bT),(3796,bT),(3803,bT),(3806,bT),(5877,bT),(5878,bT),(7101,bT),(7104,bT),(7111,bT),(7114,bT),(8139,bT),(8142,bT),(8148,iD),(8166,bT),(8169,bT)]),(74,[(1814,jx),(1817,jx),(1824,pQ),(1827,pQ),(2852,e1),(2856,r6),(2879,ni),(2882,ni),(2888,r6),(2890,r6),(3532,yp),(3540,e1),(3544,r6),(3764,e1),(3774,yp),(3777,By),(3794,e1),(3797,e1),(3804,By),(3807,By),(7102,jx),(7105,jx),(7112,pQ),(7115,pQ),(8140,e1),(8144,r6),(8167,ni),(8170,ni),(8178,r6)]),(313,[(2382,Fv),(7670,Fv)]),(314,[(2516,Fx),(7804,Fx)]),(151,[(2641,Fy),(3495,FC),(3736,FF),(7929,Fy)]),(7,[(2657,Fz),(7945,Fz)]),(312,[(3451,FB)]),(85,[(3556,qI),(3629,qI)]),(86,[(3561,qJ),(3636,qJ)]),(90,[(3708,FE)]),(24,[(3733,Bx),(7171,Bx)]),(13,[(3817,Ke)]),(61,[(5543,FL),(5548,FM),(5559,FM),(5565,FL)]),(148,[(5872,r5),(5884,r5)]),(167,[(5889,Kf),(5929,Kj),(5969,Kn)]),(166,[(5892,Ki)]),(146,[(5932,Km)]),(67,[(5972,Kq)]),(5,[(7120,pO)]),(19,[(7151,ys)]),(176,[(7153,pR)]),(21,[(7155,yt),(7163,Ft)])]
theorem XN:j7.dm 11 a7 (eE dT Um) 2000 4=true:=by kernel_rfl
