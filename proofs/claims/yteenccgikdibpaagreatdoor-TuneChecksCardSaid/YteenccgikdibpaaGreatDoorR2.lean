/- Calls of the program, evaluated by the kernel on the abstract machine; no condition. -/
import Derived.Test.YteenccgikdibpaaGreatDoorT
import Derived.Test.YteenccgikdibpaaGreatDoorD
set_option linter.all false
namespace Go.an.g4
open Go.an.bh
set_option maxRecDepth 100000
theorem aeu:DW.bK 12 aW fL 2000 105=true:=by kernel_rfl
def aaQ:List (Nat×List (Nat×bG)):=[(77,[(21,Iu)]),(207,[(307,r8),(309,r8)]),(67,[(328,bx),(330,ee),(390,ee),(392,ee),(394,ee),(457,bx),(468,bx),(475,bx)]),(22,[(335,r7),(349,x1)]),(172,[(365,tA)]),(175,[(401,xY)]),(49,[(416,mg)]),(95,[(420,xZ)]),(197,[(441,x0)]),(105,[(458,DW),(469,DW),(476,DW)])]
theorem aev:Iv.bK 12 aW (eH dU aaQ) 2000 93=true:=by kernel_rfl
def aaR:List (Nat×List (Nat×bG)):=[(67,[(31,bx),(33,ee)])]
theorem aew:Iw.bK 12 aW (eH dU aaR) 2000 438=true:=by kernel_rfl
def aaS:List (Nat×List (Nat×bG)):=[(67,[(20,bx),(24,bx),(26,ee)])]
theorem aex:Ix.bK 12 aW (eH dU aaS) 2000 197=true:=by kernel_rfl
theorem aey:DX.bK 12 aW fL 2000 105=true:=by kernel_rfl
def aaT:List (Nat×List (Nat×bG)):=[(67,[(15,ee)])]
theorem aez:DY.bK 12 aW (eH dU aaT) 2000 122=true:=by kernel_rfl
def aaU:List (Nat×List (Nat×bG)):=[(67,[(17,bx),(25,bx)]),(105,[(18,nw),(21,DX),(26,gA)]),(104,[(19,g1),(22,g1)])]
theorem aeA:Iy.bK 12 aW (eH dU aaU) 2000 174=true:=by kernel_rfl
theorem aeB:Iz.bK 12 aW fL 2000 103=true:=by kernel_rfl
theorem aeD:IA.bK 12 aW fL 2000 103=true:=by kernel_rfl
def aaV:List (Nat×List (Nat×bG)):=[(93,[(19,Iv),(496,Iv)]),(438,[(1009,Iw),(1104,Iw)]),(67,[(1169,ee),(1171,ee),(1173,ee),(1183,bx),(1197,bx),(1203,bx),(1212,bx),(1214,ee),(1227,ee),(1229,ee),(1231,ee),(1242,bx),(1254,bx),(1263,bx),(1266,bx),(1269,bx),(1271,bx),(1304,bx),(1320,bx),(1323,bx),(1326,bx),(1328,bx),(1340,bx),(1348,bx),(1358,bx),(1368,bx),(1375,bx),(1378,bx),(1381,bx),(1383,bx),(1400,bx),(1422,bx),(1431,bx),(1456,bx),(1459,bx),(1760,bx),(1857,ee),(1859,ee),(1861,ee),(1876,ee),(1878,ee),(1880,ee),(1889,bx),(1898,bx),(1900,bx),(1907,bx),(1915,bx),(1923,bx),(1927,ee),(1929,ee),(1931,ee)]),(49,[(1233,mg),(1255,mg),(1294,mg),(1307,mg),(1744,oU)]),(105,[(1267,gA),(1272,gA),(1324,gA),(1329,gA),(1349,DX),(1376,DX),(1384,gA),(1457,nw),(1462,gA)]),(197,[(1275,Ix),(1434,ji),(1473,n4),(1493,ji),(1532,n4),(1552,ji),(1591,n4),(1611,ji),(1733,vE),(1748,ji),(1795,Ix)]),(213,[(1401,x3)]),(122,[(1423,DY),(1916,DY)]),(104,[(1452,g1),(1460,g1)]),(51,[(1484,nx),(1543,nx),(1602,nx)]),(95,[(1503,n5),(1562,n5),(1621,n5)]),(52,[(1524,ny),(1583,ny),(1642,ny)]),(365,[(1698,vD)]),(174,[(1762,Iy),(1778,Iy)]),(103,[(1936,Iz),(1943,IA),(1952,Iz),(1958,IA)])]
theorem aeE:Nw.bK 12 aW (eH dU aaV) 2000 17=true:=by kernel_rfl
def aaW:List (Nat×List (Nat×bG)):=[(204,[(48,qV),(93,ic),(154,kL),(161,ic),(224,p3),(231,ic),(241,kL),(248,kL),(276,p3),(286,Ic),(307,Ih),(326,Io),(649,H6),(673,H7)]),(22,[(339,r7),(353,r7),(478,x1),(492,r7),(10334,r7)]),(67,[(372,bx),(375,bx),(511,bx),(514,bx),(10330,bx),(10352,bx),(10360,bx),(10364,ee),(10366,ee),(10368,ee),(10374,bx),(10377,bx),(10386,bx),(10388,ee),(10389,bx)]),(105,[(373,gA),(376,gA),(512,DR),(515,gA),(10378,gA)]),(110,[(380,DQ),(519,DS)]),(111,[(614,DT)]),(75,[(689,H9),(7204,H9)]),(15,[(1297,Nv)]),(19,[(7815,At)]),(77,[(8091,Iu)]),(17,[(8359,Nw)]),(207,[(10309,r8),(10311,r8)]),(122,[(10331,DY)])]
theorem aeF:ks.bK 12 aW (eH dU aaW) 2000 5=true:=by kernel_rfl
