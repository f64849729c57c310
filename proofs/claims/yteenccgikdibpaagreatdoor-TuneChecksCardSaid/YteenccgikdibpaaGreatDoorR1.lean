/- Calls of the program, evaluated by the kernel on the abstract machine; no condition. -/
import Derived.Test.YteenccgikdibpaaGreatDoorT
import Derived.Test.YteenccgikdibpaaGreatDoorD
set_option linter.all false
namespace Go.an.g4
open Go.an.bh
set_option maxRecDepth 100000
theorem adb:qV.kz 12 4 3 8 aW fL 2000 204=true:=by kernel_rfl
theorem ade:qV.kz 12 4 3 9 aW fL 2000 204=true:=by kernel_rfl
theorem adp:ic.kz 12 4 3 8 aW fL 2000 204=true:=by kernel_rfl
theorem adq:ic.kz 12 4 3 9 aW fL 2000 204=true:=by kernel_rfl
theorem adD:kL.kz 12 4 3 8 aW fL 2000 204=true:=by kernel_rfl
theorem adE:kL.kz 12 4 3 9 aW fL 2000 204=true:=by kernel_rfl
theorem adP:p3.kz 12 4 3 8 aW fL 2000 204=true:=by kernel_rfl
theorem adQ:p3.kz 12 4 3 9 aW fL 2000 204=true:=by kernel_rfl
theorem ad1:Ic.kz 12 4 3 18 aW fL 2000 204=true:=by kernel_rfl
theorem ad2:Ic.kz 12 4 3 19 aW fL 2000 204=true:=by kernel_rfl
theorem aed:Ih.kz 12 4 3 18 aW fL 2000 204=true:=by kernel_rfl
theorem aee:Ih.kz 12 4 3 19 aW fL 2000 204=true:=by kernel_rfl
theorem aep:Io.kz 12 4 3 16 aW fL 2000 204=true:=by kernel_rfl
theorem aeq:Io.kz 12 4 3 17 aW fL 2000 204=true:=by kernel_rfl
theorem aer:r8.bK 12 aW fL 2000 207=true:=by kernel_rfl
theorem aeC:bx.bK 12 aW fL 2000 67=true:=by kernel_rfl
def aaX:List (Nat×List (Nat×bG)):=[(67,[(18,bx)])]
theorem aeG:IB.bK 12 aW (eH dU aaX) 2000 66=true:=by kernel_rfl
def Z8:List (Nat×List (Nat×bG)):=[(207,[(13,r8)]),(66,[(15,IB)]),(67,[(23,bx)])]
theorem adf:r7.bK 12 aW (eH dU Z8) 2000 22=true:=by kernel_rfl
theorem adg:gA.bK 12 aW fL 2000 105=true:=by kernel_rfl
theorem adh:tA.bK 12 aW fL 2000 172=true:=by kernel_rfl
def Z9:List (Nat×List (Nat×bG)):=[(67,[(18,bx)])]
theorem adi:H3.bK 12 aW (eH dU Z9) 2000 199=true:=by kernel_rfl
theorem adj:xX.bK 12 aW fL 2000 213=true:=by kernel_rfl
def aaa:List (Nat×List (Nat×bG)):=[(67,[(13,bx),(14,bx)])]
theorem adk:mg.bK 12 aW (eH dU aaa) 2000 49=true:=by kernel_rfl
def aab:List (Nat×List (Nat×bG)):=[(49,[(14,mg)]),(67,[(24,bx)])]
theorem adl:xY.bK 12 aW (eH dU aab) 2000 175=true:=by kernel_rfl
def aac:List (Nat×List (Nat×bG)):=[(67,[(23,bx),(26,bx),(29,bx),(31,bx)]),(105,[(27,gA),(32,gA)])]
theorem adm:xZ.bK 12 aW (eH dU aac) 2000 95=true:=by kernel_rfl
def aad:List (Nat×List (Nat×bG)):=[(67,[(21,bx)])]
theorem adn:x0.bK 12 aW (eH dU aad) 2000 197=true:=by kernel_rfl
theorem ado:As.bK 12 aW fL 2000 105=true:=by kernel_rfl
def aae:List (Nat×List (Nat×bG)):=[(172,[(15,tA)]),(199,[(21,H3)]),(213,[(37,xX)]),(67,[(39,bx),(103,bx),(106,bx)]),(175,[(47,xY)]),(49,[(62,mg)]),(95,[(66,xZ)]),(197,[(87,x0)]),(105,[(104,gA),(107,As)])]
theorem adr:DQ.bK 12 aW (eH dU aae) 2000 110=true:=by kernel_rfl
def aaf:List (Nat×List (Nat×bG)):=[(207,[(13,r8)]),(67,[(23,bx)])]
theorem ads:x1.bK 12 aW (eH dU aaf) 2000 22=true:=by kernel_rfl
theorem adt:DR.bK 12 aW fL 2000 105=true:=by kernel_rfl
def aag:List (Nat×List (Nat×bG)):=[(67,[(18,bx)])]
theorem adu:H4.bK 12 aW (eH dU aag) 2000 199=true:=by kernel_rfl
def aah:List (Nat×List (Nat×bG)):=[(67,[(21,bx)])]
theorem adv:H5.bK 12 aW (eH dU aah) 2000 197=true:=by kernel_rfl
def aai:List (Nat×List (Nat×bG)):=[(172,[(15,tA)]),(199,[(21,H4)]),(197,[(31,H5),(87,x0)]),(175,[(47,xY)]),(49,[(62,mg)]),(95,[(66,xZ)]),(67,[(103,bx),(106,bx)]),(105,[(104,DR),(107,As)])]
theorem adw:DS.bK 12 aW (eH dU aai) 2000 110=true:=by kernel_rfl
def aaj:List (Nat×List (Nat×bG)):=[(67,[(19,bx),(22,bx)]),(105,[(20,gA),(23,DR)])]
theorem adx:DT.bK 12 aW (eH dU aaj) 2000 111=true:=by kernel_rfl
theorem ady:H6.kz 12 4 3 12 aW fL 2000 204=true:=by kernel_rfl
theorem adz:H6.kz 12 4 3 13 aW fL 2000 204=true:=by kernel_rfl
theorem adA:H7.kz 12 4 3 18 aW fL 2000 204=true:=by kernel_rfl
theorem adB:H7.kz 12 4 3 19 aW fL 2000 204=true:=by kernel_rfl
def aak:List (Nat×List (Nat×bG)):=[(22,[(29,r7),(43,x1)]),(110,[(58,DQ),(153,DS)]),(111,[(248,DT)])]
theorem adC:At.bK 12 aW (eH dU aak) 2000 19=true:=by kernel_rfl
theorem adF:ee.bK 12 aW fL 2000 67=true:=by kernel_rfl
def aal:List (Nat×List (Nat×bG)):=[(207,[(13,r8),(15,r8)]),(66,[(17,IB)]),(67,[(34,ee)])]
theorem adG:H8.bK 12 aW (eH dU aal) 2000 22=true:=by kernel_rfl
def aam:List (Nat×List (Nat×bG)):=[(19,[(21,At),(317,At)]),(22,[(289,H8),(595,H8)])]
theorem adH:H9.bK 12 aW (eH dU aam) 2000 75=true:=by kernel_rfl
def aan:List (Nat×List (Nat×bG)):=[(67,[(18,bx),(20,ee),(21,bx)])]
theorem adI:Ia.bK 12 aW (eH dU aan) 2000 51=true:=by kernel_rfl
theorem adJ:x2.bK 12 aW fL 2000 105=true:=by kernel_rfl
theorem adK:Au.bK 12 aW fL 2000 105=true:=by kernel_rfl
def aao:List (Nat×List (Nat×bG)):=[(67,[(23,bx),(26,bx),(29,bx),(31,bx)]),(105,[(24,x2),(27,Au),(32,gA)])]
theorem adL:Ib.bK 12 aW (eH dU aao) 2000 95=true:=by kernel_rfl
def aap:List (Nat×List (Nat×bG)):=[(67,[(13,bx)])]
theorem adM:g1.bK 12 aW (eH dU aap) 2000 104=true:=by kernel_rfl
theorem adN:tB.bK 12 aW fL 2000 105=true:=by kernel_rfl
theorem adO:x3.bK 12 aW fL 2000 213=true:=by kernel_rfl
def aaq:List (Nat×List (Nat×bG)):=[(104,[(18,g1)])]
theorem adR:ji.bK 12 aW (eH dU aaq) 2000 197=true:=by kernel_rfl
theorem adS:Av.bK 12 aW fL 2000 105=true:=by kernel_rfl
theorem adT:nw.bK 12 aW fL 2000 105=true:=by kernel_rfl
def aar:List (Nat×List (Nat×bG)):=[(104,[(18,g1)]),(213,[(20,x3)])]
theorem adU:n4.bK 12 aW (eH dU aar) 2000 197=true:=by kernel_rfl
def aas:List (Nat×List (Nat×bG)):=[(104,[(16,g1)]),(67,[(18,bx)])]
theorem adV:nx.bK 12 aW (eH dU aas) 2000 51=true:=by kernel_rfl
def aat:List (Nat×List (Nat×bG)):=[(104,[(15,g1),(18,g1),(21,g1),(23,g1)]),(105,[(17,nw),(20,nw),(25,gA)])]
theorem adW:Ie.bK 12 aW (eH dU aat) 2000 174=true:=by kernel_rfl
def aau:List (Nat×List (Nat×bG)):=[(174,[(17,Ie)])]
theorem adX:n5.bK 12 aW (eH dU aau) 2000 95=true:=by kernel_rfl
theorem adY:ny.bK 12 aW fL 2000 52=true:=by kernel_rfl
def aav:List (Nat×List (Nat×bG)):=[(67,[(23,bx),(27,ee),(29,ee),(31,ee),(38,bx),(63,bx),(66,bx)]),(213,[(24,x3)]),(197,[(41,ji),(80,n4),(100,ji),(139,n4),(159,ji),(198,n4),(218,ji)]),(104,[(59,g1),(67,g1)]),(105,[(61,Av),(64,nw),(69,gA)]),(51,[(91,nx),(150,nx),(209,nx)]),(95,[(110,n5),(169,n5),(228,n5)]),(52,[(131,ny),(190,ny),(249,ny)])]
theorem adZ:Ig.bK 12 aW (eH dU aav) 2000 317=true:=by kernel_rfl
def aaw:List (Nat×List (Nat×bG)):=[(67,[(13,ee),(14,bx)])]
theorem ad0:oU.bK 12 aW (eH dU aaw) 2000 49=true:=by kernel_rfl
def aax:List (Nat×List (Nat×bG)):=[(49,[(13,oU),(27,oU)]),(197,[(17,ji)]),(174,[(31,Ie)])]
theorem ad3:vD.bK 12 aW (eH dU aax) 2000 365=true:=by kernel_rfl
def aay:List (Nat×List (Nat×bG)):=[(104,[(18,g1)])]
theorem ad4:vE.bK 12 aW (eH dU aay) 2000 197=true:=by kernel_rfl
def aaz:List (Nat×List (Nat×bG)):=[(67,[(17,bx),(25,bx)]),(105,[(18,nw),(21,Av),(26,gA)]),(104,[(19,g1),(22,g1)])]
theorem ad5:Ii.bK 12 aW (eH dU aaz) 2000 174=true:=by kernel_rfl
def aaA:List (Nat×List (Nat×bG)):=[(67,[(14,bx)])]
theorem ad6:x4.bK 12 aW (eH dU aaA) 2000 49=true:=by kernel_rfl
def aaB:List (Nat×List (Nat×bG)):=[(67,[(17,bx),(25,bx)]),(105,[(18,nw),(21,x2),(26,gA)]),(104,[(19,g1),(22,g1)])]
theorem ad7:Ij.bK 12 aW (eH dU aaB) 2000 174=true:=by kernel_rfl
def aaC:List (Nat×List (Nat×bG)):=[(365,[(14,vD)]),(197,[(49,vE),(64,ji)]),(49,[(60,oU),(74,x4)]),(174,[(78,Ij),(94,Ij)])]
theorem ad8:Aw.bK 12 aW (eH dU aaC) 2000 312=true:=by kernel_rfl
def aaD:List (Nat×List (Nat×bG)):=[(67,[(15,ee)])]
theorem ad9:Ax.bK 12 aW (eH dU aaD) 2000 122=true:=by kernel_rfl
def aaE:List (Nat×List (Nat×bG)):=[(67,[(20,bx),(28,ee)]),(122,[(23,Ax),(25,Ax)])]
theorem aea:Ik.bK 12 aW (eH dU aaE) 2000 197=true:=by kernel_rfl
def aaF:List (Nat×List (Nat×bG)):=[(104,[(16,g1),(24,g1)]),(105,[(18,tB),(21,nw),(26,gA)]),(67,[(20,bx),(23,bx)])]
theorem aeb:Il.bK 12 aW (eH dU aaF) 2000 174=true:=by kernel_rfl
def aaG:List (Nat×List (Nat×bG)):=[(67,[(23,bx),(33,ee),(35,ee),(37,ee),(44,bx)]),(213,[(24,x3)]),(197,[(47,ji),(86,n4),(106,ji),(145,n4),(165,ji),(204,n4),(224,ji)]),(174,[(62,Il)]),(51,[(97,nx),(156,nx),(215,nx)]),(95,[(116,n5),(175,n5),(234,n5)]),(52,[(137,ny),(196,ny),(255,ny)])]
theorem aec:Im.bK 12 aW (eH dU aaG) 2000 317=true:=by kernel_rfl
def aaH:List (Nat×List (Nat×bG)):=[(67,[(17,bx),(25,bx)]),(105,[(18,nw),(21,tB),(26,gA)]),(104,[(19,g1),(22,g1)])]
theorem aef:Ip.bK 12 aW (eH dU aaH) 2000 174=true:=by kernel_rfl
def aaI:List (Nat×List (Nat×bG)):=[(67,[(20,bx),(24,ee),(26,ee),(28,ee)]),(213,[(21,xX)])]
theorem aeg:Iq.bK 12 aW (eH dU aaI) 2000 197=true:=by kernel_rfl
def aaJ:List (Nat×List (Nat×bG)):=[(199,[(23,H3)]),(213,[(39,xX),(109,xX)]),(67,[(41,bx),(108,bx),(112,ee),(114,ee),(116,ee),(176,bx),(179,bx),(187,bx),(197,bx),(204,bx),(207,bx),(210,bx),(212,bx),(546,bx)]),(51,[(45,Ia)]),(95,[(58,Ib),(139,xZ)]),(104,[(85,g1)]),(49,[(89,mg),(135,mg),(530,oU)]),(175,[(120,xY)]),(197,[(160,x0),(519,vE),(534,ji),(706,Iq)]),(105,[(180,As),(205,Au),(213,gA)]),(317,[(219,Im)]),(365,[(484,vD)]),(174,[(548,Ip),(564,Ip)]),(312,[(607,Aw)])]
theorem aeh:Ay.bK 12 aW (eH dU aaJ) 2000 173=true:=by kernel_rfl
def aaK:List (Nat×List (Nat×bG)):=[(67,[(14,bx)])]
theorem aei:Az.bK 12 aW (eH dU aaK) 2000 49=true:=by kernel_rfl
theorem aej:DU.bK 12 aW fL 2000 105=true:=by kernel_rfl
theorem aek:AA.bK 12 aW fL 2000 105=true:=by kernel_rfl
def aaL:List (Nat×List (Nat×bG)):=[(67,[(17,bx),(25,bx)]),(105,[(18,nw),(21,AA),(26,gA)]),(104,[(19,g1),(22,g1)])]
theorem ael:Ir.bK 12 aW (eH dU aaL) 2000 174=true:=by kernel_rfl
def aaM:List (Nat×List (Nat×bG)):=[(365,[(23,vD)]),(197,[(58,vE),(73,ji)]),(49,[(69,oU)]),(67,[(85,bx)]),(174,[(87,Ir),(103,Ir)])]
theorem aem:DV.bK 12 aW (eH dU aaM) 2000 266=true:=by kernel_rfl
def aaN:List (Nat×List (Nat×bG)):=[(67,[(17,bx),(25,bx)]),(105,[(18,nw),(26,gA)]),(104,[(19,g1),(22,g1)])]
theorem aen:Is.bK 12 aW (eH dU aaN) 2000 174=true:=by kernel_rfl
theorem aeo:It.bK 12 aW fL 2000 103=true:=by kernel_rfl
def aaO:List (Nat×List (Nat×bG)):=[(19,[(16,At)]),(22,[(283,r7),(297,x1)]),(172,[(315,tA),(1867,tA),(3235,tA),(4610,tA)]),(199,[(330,H4)]),(197,[(340,H5),(467,x0),(820,vE),(835,ji),(1007,Ik),(3151,Iq),(4161,ji),(4200,n4),(4220,ji),(4259,n4),(4279,ji),(4318,n4),(4338,ji),(4457,vE),(4472,ji),(5888,Ik)]),(51,[(352,Ia),(1852,nx),(4211,nx),(4270,nx),(4329,nx)]),(95,[(365,Ib),(446,xZ),(4230,n5),(4289,n5),(4348,n5)]),(104,[(392,g1),(1832,g1),(1847,g1),(4179,g1),(4187,g1)]),(49,[(396,mg),(442,mg),(831,oU),(1755,mg),(1778,mg),(1801,oU),(1818,x4),(1822,oU),(1836,Az),(2582,oU),(3178,x4),(3182,mg),(3196,Az),(4468,oU),(4553,x4),(4557,Az),(4571,Az),(5325,x4)]),(67,[(415,bx),(419,ee),(421,ee),(423,ee),(483,bx),(486,bx),(494,bx),(504,bx),(511,bx),(514,bx),(517,bx),(519,bx),(847,bx),(1743,bx),(1746,bx),(1749,bx),(1751,bx),(1763,bx),(1766,bx),(1769,bx),(1771,bx),(1788,bx),(1796,bx),(1799,bx),(1831,bx),(1845,bx),(2746,bx),(2749,bx),(3191,bx),(3193,bx),(3205,bx),(3208,bx),(3212,ee),(3214,ee),(3216,ee),(3223,bx),(3225,ee),(3226,bx),(3952,bx),(3958,bx),(3961,bx),(3964,bx),(3966,bx),(4114,bx),(4117,bx),(4137,bx),(4147,ee),(4149,ee),(4151,ee),(4158,bx),(4183,bx),(4186,bx),(4484,bx),(4526,bx),(4534,ee),(4566,bx),(4568,bx),(4580,bx),(4583,bx),(4587,ee),(4589,ee),(4591,ee),(4598,bx),(4600,ee),(4601,bx),(5333,bx),(5336,bx),(5339,bx),(5341,bx),(5489,bx),(5492,bx)]),(175,[(427,xY)]),(105,[(487,As),(512,Au),(515,tB),(520,gA),(1744,Av),(1747,tB),(1752,gA),(1764,Au),(1767,gA),(1772,gA),(1834,gA),(1846,nw),(1849,DU),(2747,tB),(2750,AA),(3189,x2),(3194,gA),(3206,x2),(3209,DU),(3959,tB),(3967,gA),(4118,AA),(4184,nw),(4189,gA),(4569,gA),(4584,DU),(5334,tB),(5337,x2),(5342,gA),(5490,Av),(5493,AA)]),(317,[(526,Ig),(2759,Im),(5502,Ig)]),(365,[(785,vD),(4422,vD)]),(174,[(849,Ii),(865,Ii),(2586,Il),(4486,Is),(4502,Is)]),(312,[(908,Aw),(3052,Aw),(5789,Aw)]),(173,[(1024,Ay),(1872,Ay),(3240,Ay),(4615,Ay)]),(52,[(1860,ny),(4251,ny),(4310,ny),(4369,ny)]),(266,[(2612,DV),(3980,DV),(5355,DV)]),(213,[(4138,x3),(4527,xX)]),(122,[(4531,Ax),(4535,Ax)]),(103,[(4546,It),(5908,It)])]
theorem aes:Nv.bK 12 aW (eH dU aaO) 2000 15=true:=by kernel_rfl
def aaP:List (Nat×List (Nat×bG)):=[(22,[(30,r7),(44,x1)]),(110,[(59,DQ),(154,DS)]),(111,[(249,DT)])]
theorem aet:Iu.bK 12 aW (eH dU aaP) 2000 77=true:=by kernel_rfl
