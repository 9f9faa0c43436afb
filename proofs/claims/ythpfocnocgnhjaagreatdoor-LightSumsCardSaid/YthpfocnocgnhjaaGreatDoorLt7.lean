/- Part 7 of a proof. No conditions. -/
import Derived.Test.YthpfocnocgnhjaaGreatDoorLt6
set_option maxRecDepth 100000
set_option linter.unusedVariables false
set_option linter.unusedSimpArgs false
namespace Go.Dx
open Go.IntKind (i64 u64 u8)
open Go.Sx Go.Proofs
variable (x0 x1 x2 x3 x4 x5 x6 x7:Int) (b8:Bool) (x9 x10 x11 x12:Int)
noncomputable section
def iI:aZ:=[(171,.con yaW),(134,.con aae),(102,.con C56),(157,.con RA),(103,.con C49),(29,.con C30),(27,.con C32),(56,.con C80),(55,.con C44),(67,.con C23),(90,.con C62),(96,.con C68),(91,.con C63),(97,.con C69),(128,.inl yU u0),(127,.inl yC u0),(126,.con EG),(124,.con Fp),(150,.con F6),(92,.con C64),(94,.con C66),(122,.con D7),(93,.con C65),(95,.con C67),(98,.con C53),(123,.con C45),(125,.con C90),(130,.con yay),(132,.con B7),(46,.con C99),(149,.con C8),(151,.con B3),(152,.con DL),(121,.con CW),(129,.con C3),(131,.con Cn),(77,.con DK),(136,.con C4),(147,.con CU),(154,.con D6),(155,.con BL),(59,.con C78),(100,.con C54),(99,.con C48),(135,.con CS),(57,.con C81),(79,.con C84),(153,.con C85),(80,.con DG),(133,.con Ds),(78,.con Zr),(169,.con BZ),(188,.con FX),(148,.con CV),(101,.con C55),(137,.inl akM u0),(156,.inl aoJ u0),(178,.inl anc u0),(158,.inl amf u0),(159,.inl aly u0),(160,.inl anF u0),(170,.inl alh u5)]
theorem ajp:aO Tryz.prog eqs its iI:=.con Mp (.con QG (.con Zd (.con Hc (.con Vf (.con Kz (.con KT (.con KU (.con Ln (.con Gw (.con LX (.con Lw (.con Lf (.con Lz (eT Tryz.func128 bb (eT Tryz.func127 bb (.con yB (.con zp (.con zt (.con KI (.con K9 (.con vY (.con E0 (.con F8 (.con EM (.con Ef (.con Fo (.con xt (.con vV (.con FB (.con vd (.con wJ (.con vD (.con wF (.con wq (.con xn (.con vT (.con uZ (.con vt (.con wv (.con xc (.con EH (.con EV (.con Gs (.con wX (.con ED (.con Fa (.con EC (.con xi (.con vn (.con yaw (.con vl (.con yT (.con yQ (.con an9 (eT Tryz.func137 bb (eT Tryz.func156 bb (eT Tryz.func178 bb (eT Tryz.func158 bb (eT Tryz.func159 bb (eT Tryz.func160 bb (eT Tryz.func170 bb (.nil))))))))))))))))))))))))))))))))))))))))))))))))))))))))))))))
def Eb:kk:=fun k=>bif Nat.beq k 0 then 5 else 0
inductive io where
 |L0 (ia0:Int) (fa1:aL)
 |L1 (ib0 ib1:Int) (fb2:aL)
 |L2 (ic0:Int) (fc1:aL) (ic2:Int) (fc3:aL)
 |L3 (id0:Int) (nd1 nd2:Nat) (id3 id4 id5:Int) (nd6:Nat) (id7 id8:Int) (fd9:aL) (id10:Int) (fd11:aL)
 |L4 (ie0:Int) (fe1:aL) (ne2:Nat) (fe3:aL) (ie4:Int) (fe5:aL)
 |L5 (if0 if1:Int) (nf2:Nat) (bf3:Bool) (nf4:Nat) (ff5:aL)
 |L7 (ih0:Int) (fh1:aL) (nh2:Nat) (ih3 ih4:Int) (nh5:Nat) (fh6:aL) (ih7:Int) (fh8:aL)
 |L12 (im0 im1:Int) (nm2:Nat) (fm3:aL) (nm4:Nat) (fm5:aL) (im6:Int) (nm7 nm8:Nat) (im9 im10 im11:Int) (nm12:Nat) (im13 im14:Int) (fm15:aL)
 |L13 (in0 in1:Int) (fn2:aL) (nn3 nn4:Nat) (fn5:aL) (in6:Int) (fn7:aL)
 |L14 (io0 io1:Int) (no2:Nat) (fo3:aL) (no4:Nat) (io5 io6:Int) (no7:Nat) (fo8:aL) (io9:Int) (no10 no11:Nat) (io12 io13 io14:Int) (no15:Nat) (io16 io17:Int) (fo18:aL)
 |L15 (ip0 ip1 ip2:Int) (np3:Nat) (fp4:aL) (np5 np6:Nat) (fp7:aL) (ip8:Int) (np9 np10:Nat) (ip11 ip12 ip13:Int) (np14:Nat) (ip15 ip16:Int) (fp17:aL)
 |L18 (is0:Int) (fs1:aL) (ns2 ns3:Nat) (fs4:aL) (is5 is6:Int) (fs7:aL) (fs8:aL) (is9:Int) (fs10:aL)
 |L20 (iu0:Int) (fu1:aL) (nu2 nu3:Nat) (fu4:aL) (iu5 iu6 iu7 iu8:Int) (fu9:aL) (nu10:Nat) (fu11:aL) (iu12:Int) (fu13:aL)
 |L22 (iw0 iw1:Int) (fw2:aL) (nw3:Nat) (iw4 iw5:Int) (fw6:aL) (iw7 iw8:Int) (fw9:aL) (nw10 nw11:Nat) (fw12:aL) (iw13:Int) (fw14:aL)
 |L23 (ix0 ix1:Int) (fx2:aL) (nx3:Nat) (ix4 ix5:Int) (nx6:Nat) (fx7:aL) (ix8 ix9:Int) (fx10:aL) (nx11 nx12:Nat) (fx13:aL) (ix14:Int) (fx15:aL)
 |L24 (iy0:Int) (ny1:Nat) (iy2:Int) (fy3:aL) (ny4 ny5:Nat) (fy6:aL) (iy7 iy8 iy9:Int) (ny10:Nat) (fy11:aL) (fy12:aL) (iy13:Int) (ny14 ny15:Nat) (iy16 iy17 iy18:Int) (ny19:Nat) (iy20 iy21:Int) (fy22:aL)
 |L25 (iz0:Int) (nz1:Nat) (iz2:Int) (fz3:aL) (nz4 nz5:Nat) (fz6:aL) (iz7 iz8 iz9 iz10 iz11:Int) (nz12:Nat) (fz13:aL) (nz14:Nat) (fz15:aL) (iz16:Int) (nz17 nz18:Nat) (iz19 iz20 iz21:Int) (nz22:Nat) (iz23 iz24:Int) (fz25:aL)
 |L26 (iza0 iza1:Int) (nza2:Nat) (iza3:Int) (fza4:aL) (nza5:Nat) (iza6 iza7:Int) (fza8:aL) (iza9 iza10 iza11:Int) (nza12:Nat) (fza13:aL) (nza14 nza15:Nat) (fza16:aL) (iza17:Int) (nza18 nza19:Nat) (iza20 iza21 iza22:Int) (nza23:Nat) (iza24 iza25:Int) (fza26:aL)
 |L27 (izb0 izb1:Int) (nzb2:Nat) (izb3:Int) (fzb4:aL) (nzb5:Nat) (izb6 izb7:Int) (nzb8:Nat) (fzb9:aL) (izb10 izb11 izb12:Int) (nzb13:Nat) (fzb14:aL) (nzb15 nzb16:Nat) (fzb17:aL) (izb18:Int) (nzb19 nzb20:Nat) (izb21 izb22 izb23:Int) (nzb24:Nat) (izb25 izb26:Int) (fzb27:aL)
def ng (l:List O):List O:=O.cells [vi x0,vi x1,vi x2,vi x3,vi x4,vi x5,vi x6,vi x7,V.bool b8] 172::O.cells [vi x9,vi x10,vi x11,vi x12] 37::O.cells [vi x9,vi x10] 129::O.cells [vi (bQ x0 x2 x9 x3),vi (bR x1 x2 x10 x3),vi (bQ x0 x2 x9 x4),vi (bR x1 x2 x10 x4)] 129::O.hid::O.cells [vi x11,vi x10] 129::O.cells [vi (bQ x0 x2 x11 x3),vi (bR x1 x2 x10 x3),vi (bQ x0 x2 x11 x4),vi (bR x1 x2 x10 x4)] 129::O.hid::O.cells [vi x11,vi x12] 129::O.cells [vi (bQ x0 x2 x11 x3),vi (bR x1 x2 x12 x3),vi (bQ x0 x2 x11 x4),vi (bR x1 x2 x12 x4)] 129::O.hid::O.cells [vi x9,vi x12] 129::O.cells [vi (bQ x0 x2 x9 x3),vi (bR x1 x2 x12 x3),vi (bQ x0 x2 x9 x4),vi (bR x1 x2 x12 x4)] 129::l
def kf:io->bD×List O×Option Ex
 |.L0 ia0 fa1=>([(8,vi ia0),(0,V.gs 13 8),(1,vi 0),(2,vi (↑8:Int)),(3,V.fn 157 [] [])],ng x0 x1 x2 x3 x4 x5 x6 x7 b8 x9 x10 x11 x12 [O.gl 2 8 (aa aJ fa1) 129],none)
 |.L1 ib0 ib1 fb2=>([(9,vi ib0),(8,vi ib1),(0,V.gs 13 8),(1,vi 0),(2,vi (↑8:Int)),(3,V.fn 157 [] [])],ng x0 x1 x2 x3 x4 x5 x6 x7 b8 x9 x10 x11 x12 [O.gl 2 8 (aa aJ fb2) 129],none)
 |.L2 ic0 fc1 ic2 fc3=>([(3,vi ic0),(8,V.kb false),(2,V.ns),(0,V.gs 13 8)],ng x0 x1 x2 x3 x4 x5 x6 x7 b8 x9 x10 x11 x12 [O.gl 2 8 (aa aJ fc1) 129],none)
 |.L3 id0 nd1 nd2 id3 id4 id5 nd6 id7 id8 fd9 id10 fd11=>([(5,vi id0),(4,V.go 13 nd1 nd2),(28,V.go 13 nd1 nd2),(27,vi id3),(26,V.gs 13 8),(25,V.kb true),(24,V.agg [vi id4,vi id5]),(23,V.pe 13 nd6 0),(22,vi id7),(21,vi id3),(20,V.gs 13 8),(10,vi id3),(3,vi id8),(8,V.kb false),(2,V.ns),(0,V.gs 13 8)],ng x0 x1 x2 x3 x4 x5 x6 x7 b8 x9 x10 x11 x12 [O.gl 2 8 (aa aJ fd9) 129],none)
 |.L4 ie0 fe1 ne2 fe3 ie4 fe5=>([(10,vi ie0),(9,vi (↑8:Int)),(8,V.gs 13 8),(3,vi 0),(0,V.gs 13 8),(1,V.pl 14 0)],ng x0 x1 x2 x3 x4 x5 x6 x7 b8 x9 x10 x11 x12 [O.gl 2 8 (aa aJ fe1) 129,O.cells [V.gs 15 ne2] 177,O.gl 2 ne2 (aa aJ fe3) 129],none)
 |.L5 if0 if1 nf2 bf3 nf4 ff5=>([(40,vi if0),(39,vi if1),(38,V.gs 0 nf2),(8,V.bool bf3),(5,V.gs 0 nf2),(16,vi (wI (wI (wI (wI (0+1)+1)+1)+1))),(15,V.agg [vi x9,vi x10,vi x11,vi x10,vi x11,vi x12,vi x9,vi x12]),(2,V.pl 1 0)],[O.gl 2 nf4 (aa aJ ff5) 129,O.cells [vi x0,vi x1,vi x2,vi x3,vi x4,vi x5,vi x6,vi x7,V.bool b8] 172],none)
 |.L7 ih0 fh1 nh2 ih3 ih4 nh5 fh6 ih7 fh8=>([(5,V.pl 15 0),(10,vi ih0),(9,vi (↑8:Int)),(8,V.gs 13 8),(3,vi 0),(0,V.gs 13 8),(1,V.pl 14 0)],ng x0 x1 x2 x3 x4 x5 x6 x7 b8 x9 x10 x11 x12 [O.gl 2 8 (aa aJ fh1) 129,O.cells [V.gs 16 nh2] 177,O.cells [vi ih3,vi ih4] 129,O.gl 2 nh5 (aa aJ fh6) 129],none)
 |.L12 im0 im1 nm2 fm3 nm4 fm5 im6 nm7 nm8 im9 im10 im11 nm12 im13 im14 fm15=>([(10,vi im0),(9,vi im1),(8,V.gs 13 nm2),(3,vi 0),(0,V.gs 13 nm2),(1,V.pl 14 0)],ng x0 x1 x2 x3 x4 x5 x6 x7 b8 x9 x10 x11 x12 [O.gl 2 8 (aa aJ fm3) 129,O.cells [V.gs 15 nm4] 177,O.gl 2 nm4 (aa aJ fm5) 129],none)
 |.L13 in0 in1 fn2 nn3 nn4 fn5 in6 fn7=>([(3,vi in0),(2,vi in1),(5,vi (↑8:Int)),(4,V.gs 13 8),(0,V.gs 13 8)],ng x0 x1 x2 x3 x4 x5 x6 x7 b8 x9 x10 x11 x12 [O.gl 2 8 (aa aJ fn2) 129,O.cells [V.gs 15 nn3] 177,O.gl 2 nn4 (aa aJ fn5) 129],none)
 |.L14 io0 io1 no2 fo3 no4 io5 io6 no7 fo8 io9 no10 no11 io12 io13 io14 no15 io16 io17 fo18=>([(5,V.pl 15 0),(10,vi io0),(9,vi io1),(8,V.gs 13 no2),(3,vi 0),(0,V.gs 13 no2),(1,V.pl 14 0)],ng x0 x1 x2 x3 x4 x5 x6 x7 b8 x9 x10 x11 x12 [O.gl 2 8 (aa aJ fo3) 129,O.cells [V.gs 16 no4] 177,O.cells [vi io5,vi io6] 129,O.gl 2 no7 (aa aJ fo8) 129],none)
 |.L15 ip0 ip1 ip2 np3 fp4 np5 np6 fp7 ip8 np9 np10 ip11 ip12 ip13 np14 ip15 ip16 fp17=>([(3,vi ip0),(2,vi ip1),(5,vi ip2),(4,V.gs 13 np3),(0,V.gs 13 np3)],ng x0 x1 x2 x3 x4 x5 x6 x7 b8 x9 x10 x11 x12 [O.gl 2 8 (aa aJ fp4) 129,O.cells [V.gs 15 np5] 177,O.gl 2 np6 (aa aJ fp7) 129],none)
 |.L18 is0 fs1 ns2 ns3 fs4 is5 is6 fs7 fs8 is9 fs10=>([(10,vi 0),(9,vi (↑8:Int)),(8,V.gs 13 8),(3,vi is0),(0,V.gs 13 8),(1,V.pl 14 0)],ng x0 x1 x2 x3 x4 x5 x6 x7 b8 x9 x10 x11 x12 [O.gl 2 8 (aa aJ fs1) 129,O.cells [V.gs 15 ns2] 177,O.gl 2 ns3 (aa aJ fs4) 129],none)
 |.L20 iu0 fu1 nu2 nu3 fu4 iu5 iu6 iu7 iu8 fu9 nu10 fu11 iu12 fu13=>([(5,V.pl 16 0),(10,vi 0),(9,vi (↑8:Int)),(8,V.gs 13 8),(3,vi iu0),(0,V.gs 13 8),(1,V.pl 14 0)],ng x0 x1 x2 x3 x4 x5 x6 x7 b8 x9 x10 x11 x12 [O.gl 2 8 (aa aJ fu1) 129,O.cells [V.gs 15 nu2] 177,O.gl 2 nu3 (aa aJ fu4) 129,O.cells [vi iu5,vi iu6] 129],none)
 |.L22 iw0 iw1 fw2 nw3 iw4 iw5 fw6 iw7 iw8 fw9 nw10 nw11 fw12 iw13 fw14=>([(10,vi iw0),(5,V.pl 16 0),(9,vi (↑8:Int)),(8,V.gs 13 8),(3,vi iw1),(0,V.gs 13 8),(1,V.pl 14 0)],ng x0 x1 x2 x3 x4 x5 x6 x7 b8 x9 x10 x11 x12 [O.gl 2 8 (aa aJ fw2) 129,O.cells [V.gs 17 nw3] 177,O.hid,O.cells [vi iw4,vi iw5] 129,O.gl 2 nw3 (aa aJ fw6) 129],none)
 |.L23 ix0 ix1 fx2 nx3 ix4 ix5 nx6 fx7 ix8 ix9 fx10 nx11 nx12 fx13 ix14 fx15=>([(5,V.pl 16 0),(10,vi ix0),(9,vi (↑8:Int)),(8,V.gs 13 8),(3,vi ix1),(0,V.gs 13 8),(1,V.pl 14 0)],ng x0 x1 x2 x3 x4 x5 x6 x7 b8 x9 x10 x11 x12 [O.gl 2 8 (aa aJ fx2) 129,O.cells [V.gs 17 nx3] 177,O.hid,O.cells [vi ix4,vi ix5] 129,O.gl 2 nx6 (aa aJ fx7) 129],none)
 |.L24 iy0 ny1 iy2 fy3 ny4 ny5 fy6 iy7 iy8 iy9 ny10 fy11 fy12 iy13 ny14 ny15 iy16 iy17 iy18 ny19 iy20 iy21 fy22=>([(10,vi 0),(9,vi iy0),(8,V.gs 13 ny1),(3,vi iy2),(0,V.gs 13 ny1),(1,V.pl 14 0)],ng x0 x1 x2 x3 x4 x5 x6 x7 b8 x9 x10 x11 x12 [O.gl 2 8 (aa aJ fy3) 129,O.cells [V.gs 15 ny4] 177,O.gl 2 ny5 (aa aJ fy6) 129],none)
 |.L25 iz0 nz1 iz2 fz3 nz4 nz5 fz6 iz7 iz8 iz9 iz10 iz11 nz12 fz13 nz14 fz15 iz16 nz17 nz18 iz19 iz20 iz21 nz22 iz23 iz24 fz25=>([(5,V.pl 16 0),(10,vi 0),(9,vi iz0),(8,V.gs 13 nz1),(3,vi iz2),(0,V.gs 13 nz1),(1,V.pl 14 0)],ng x0 x1 x2 x3 x4 x5 x6 x7 b8 x9 x10 x11 x12 [O.gl 2 8 (aa aJ fz3) 129,O.cells [V.gs 15 nz4] 177,O.gl 2 nz5 (aa aJ fz6) 129,O.cells [vi iz7,vi iz8] 129],none)
 |.L26 iza0 iza1 nza2 iza3 fza4 nza5 iza6 iza7 fza8 iza9 iza10 iza11 nza12 fza13 nza14 nza15 fza16 iza17 nza18 nza19 iza20 iza21 iza22 nza23 iza24 iza25 fza26=>([(10,vi iza0),(5,V.pl 16 0),(9,vi iza1),(8,V.gs 13 nza2),(3,vi iza3),(0,V.gs 13 nza2),(1,V.pl 14 0)],ng x0 x1 x2 x3 x4 x5 x6 x7 b8 x9 x10 x11 x12 [O.gl 2 8 (aa aJ fza4) 129,O.cells [V.gs 17 nza5] 177,O.hid,O.cells [vi iza6,vi iza7] 129,O.gl 2 nza5 (aa aJ fza8) 129],none)
 |.L27 izb0 izb1 nzb2 izb3 fzb4 nzb5 izb6 izb7 nzb8 fzb9 izb10 izb11 izb12 nzb13 fzb14 nzb15 nzb16 fzb17 izb18 nzb19 nzb20 izb21 izb22 izb23 nzb24 izb25 izb26 fzb27=>([(5,V.pl 16 0),(10,vi izb0),(9,vi izb1),(8,V.gs 13 nzb2),(3,vi izb3),(0,V.gs 13 nzb2),(1,V.pl 14 0)],ng x0 x1 x2 x3 x4 x5 x6 x7 b8 x9 x10 x11 x12 [O.gl 2 8 (aa aJ fzb4) 129,O.cells [V.gs 17 nzb5] 177,O.hid,O.cells [vi izb6,vi izb7] 129,O.gl 2 nzb8 (aa aJ fzb9) 129],none)
def arW:io->JJ
 |.L0 ia0 fa1=>(0,[])
 |.L1 ib0 ib1 fb2=>(1,[])
 |.L2 ic0 fc1 ic2 fc3=>(2,[Cx.i ic2,Cx.f fc3])
 |.L3 id0 nd1 nd2 id3 id4 id5 nd6 id7 id8 fd9 id10 fd11=>(3,[Cx.i id10,Cx.f fd11])
 |.L4 ie0 fe1 ne2 fe3 ie4 fe5=>(4,[Cx.i ie4,Cx.f fe5])
 |.L5 if0 if1 nf2 bf3 nf4 ff5=>(5,[])
 |.L7 ih0 fh1 nh2 ih3 ih4 nh5 fh6 ih7 fh8=>(7,[Cx.i ih7,Cx.f fh8])
 |.L12 im0 im1 nm2 fm3 nm4 fm5 im6 nm7 nm8 im9 im10 im11 nm12 im13 im14 fm15=>(12,[Cx.i im6,Cx.n nm7,Cx.n nm8,Cx.i im9,Cx.i im10,Cx.i im11,Cx.n nm12,Cx.i im13,Cx.i im14,Cx.f fm15])
 |.L13 in0 in1 fn2 nn3 nn4 fn5 in6 fn7=>(13,[Cx.i in6,Cx.f fn7])
 |.L14 io0 io1 no2 fo3 no4 io5 io6 no7 fo8 io9 no10 no11 io12 io13 io14 no15 io16 io17 fo18=>(14,[Cx.i io9,Cx.n no10,Cx.n no11,Cx.i io12,Cx.i io13,Cx.i io14,Cx.n no15,Cx.i io16,Cx.i io17,Cx.f fo18])
 |.L15 ip0 ip1 ip2 np3 fp4 np5 np6 fp7 ip8 np9 np10 ip11 ip12 ip13 np14 ip15 ip16 fp17=>(15,[Cx.i ip8,Cx.n np9,Cx.n np10,Cx.i ip11,Cx.i ip12,Cx.i ip13,Cx.n np14,Cx.i ip15,Cx.i ip16,Cx.f fp17])
 |.L18 is0 fs1 ns2 ns3 fs4 is5 is6 fs7 fs8 is9 fs10=>(18,[Cx.i is5,Cx.i is6,Cx.f fs7,Cx.n ns2,Cx.n ns3,Cx.f fs8,Cx.i is9,Cx.f fs10])
 |.L20 iu0 fu1 nu2 nu3 fu4 iu5 iu6 iu7 iu8 fu9 nu10 fu11 iu12 fu13=>(20,[Cx.i iu7,Cx.i iu8,Cx.f fu9,Cx.n nu10,Cx.n nu3,Cx.f fu11,Cx.i iu12,Cx.f fu13])
 |.L22 iw0 iw1 fw2 nw3 iw4 iw5 fw6 iw7 iw8 fw9 nw10 nw11 fw12 iw13 fw14=>(18,[Cx.i iw7,Cx.i iw8,Cx.f fw9,Cx.n nw10,Cx.n nw11,Cx.f fw12,Cx.i iw13,Cx.f fw14])
 |.L23 ix0 ix1 fx2 nx3 ix4 ix5 nx6 fx7 ix8 ix9 fx10 nx11 nx12 fx13 ix14 fx15=>(20,[Cx.i ix8,Cx.i ix9,Cx.f fx10,Cx.n nx11,Cx.n nx12,Cx.f fx13,Cx.i ix14,Cx.f fx15])
 |.L24 iy0 ny1 iy2 fy3 ny4 ny5 fy6 iy7 iy8 iy9 ny10 fy11 fy12 iy13 ny14 ny15 iy16 iy17 iy18 ny19 iy20 iy21 fy22=>(24,[Cx.i iy7,Cx.i iy8,Cx.i iy9,Cx.n ny10,Cx.f fy11,Cx.n ny4,Cx.n ny5,Cx.f fy12,Cx.i iy13,Cx.n ny14,Cx.n ny15,Cx.i iy16,Cx.i iy17,Cx.i iy18,Cx.n ny19,Cx.i iy20,Cx.i iy21,Cx.f fy22])
 |.L25 iz0 nz1 iz2 fz3 nz4 nz5 fz6 iz7 iz8 iz9 iz10 iz11 nz12 fz13 nz14 fz15 iz16 nz17 nz18 iz19 iz20 iz21 nz22 iz23 iz24 fz25=>(25,[Cx.i iz9,Cx.i iz10,Cx.i iz11,Cx.n nz12,Cx.f fz13,Cx.n nz14,Cx.n nz5,Cx.f fz15,Cx.i iz16,Cx.n nz17,Cx.n nz18,Cx.i iz19,Cx.i iz20,Cx.i iz21,Cx.n nz22,Cx.i iz23,Cx.i iz24,Cx.f fz25])
 |.L26 iza0 iza1 nza2 iza3 fza4 nza5 iza6 iza7 fza8 iza9 iza10 iza11 nza12 fza13 nza14 nza15 fza16 iza17 nza18 nza19 iza20 iza21 iza22 nza23 iza24 iza25 fza26=>(24,[Cx.i iza9,Cx.i iza10,Cx.i iza11,Cx.n nza12,Cx.f fza13,Cx.n nza14,Cx.n nza15,Cx.f fza16,Cx.i iza17,Cx.n nza18,Cx.n nza19,Cx.i iza20,Cx.i iza21,Cx.i iza22,Cx.n nza23,Cx.i iza24,Cx.i iza25,Cx.f fza26])
 |.L27 izb0 izb1 nzb2 izb3 fzb4 nzb5 izb6 izb7 nzb8 fzb9 izb10 izb11 izb12 nzb13 fzb14 nzb15 nzb16 fzb17 izb18 nzb19 nzb20 izb21 izb22 izb23 nzb24 izb25 izb26 fzb27=>(25,[Cx.i izb10,Cx.i izb11,Cx.i izb12,Cx.n nzb13,Cx.f fzb14,Cx.n nzb15,Cx.n nzb16,Cx.f fzb17,Cx.i izb18,Cx.n nzb19,Cx.n nzb20,Cx.i izb21,Cx.i izb22,Cx.i izb23,Cx.n nzb24,Cx.i izb25,Cx.i izb26,Cx.f fzb27])
def alD:T (ck JJ):=aV JJ iI Eb apP [V.agg [vi x0,vi x1,vi x2,vi x3,vi x4,vi x5,vi x6,vi x7,V.bool b8],V.agg [vi x9,vi x10,vi x11,vi x12]]
def AF (cx:List Cx):Lp JJ:=fQ (eZ (alD x0 x1 x2 x3 x4 x5 x6 x7 b8 x9 x10 x11 x12) [false,true,true,true,true,false,true])
def ahK (cx:List Cx):Lp JJ:=fQ (eZ (ua iI Eb (0,[]) (AF x0 x1 x2 x3 x4 x5 x6 x7 b8 x9 x10 x11 x12 []) (kf x0 x1 x2 x3 x4 x5 x6 x7 b8 x9 x10 x11 x12 (.L0 (0:Int) (fun _=>[])))) [true])
def Eg (cx:List Cx):Lp JJ:=fQ (eZ (ua iI Eb (0,[]) (AF x0 x1 x2 x3 x4 x5 x6 x7 b8 x9 x10 x11 x12 []) (kf x0 x1 x2 x3 x4 x5 x6 x7 b8 x9 x10 x11 x12 (.L0 (cH cx 0) (kc cx 1)))) [false,false])
def GJ (cx:List Cx):Lp JJ:=fQ (eZ (ua iI Eb (2,[.i (cH cx 0),.f (kc cx 1)]) (Eg x0 x1 x2 x3 x4 x5 x6 x7 b8 x9 x10 x11 x12 [.i (cH cx 0),.f (kc cx 1)]) (kf x0 x1 x2 x3 x4 x5 x6 x7 b8 x9 x10 x11 x12 (.L2 (0:Int) (fun _=>[]) (cH cx 0) (kc cx 1)))) [true,true])
def Gu (cx:List Cx):Lp JJ:=fQ (eZ (ua iI Eb (2,[.i (0:Int),.f (fun _=>[])]) (Eg x0 x1 x2 x3 x4 x5 x6 x7 b8 x9 x10 x11 x12 [.i (0:Int),.f (fun _=>[])]) (kf x0 x1 x2 x3 x4 x5 x6 x7 b8 x9 x10 x11 x12 (.L2 (cH cx 0) (kc cx 1) (0:Int) (fun _=>[])))) [false,false])
def afa (cx:List Cx):Lp JJ:=fQ (eZ (ua iI Eb (3,[.i (0:Int),.f (fun _=>[])]) (GJ x0 x1 x2 x3 x4 x5 x6 x7 b8 x9 x10 x11 x12 [.i (0:Int),.f (fun _=>[])]) (kf x0 x1 x2 x3 x4 x5 x6 x7 b8 x9 x10 x11 x12 (.L3 (0:Int) 0 0 (0:Int) (0:Int) (0:Int) 0 (0:Int) (0:Int) (fun _=>[]) (0:Int) (fun _=>[])))) [false,true])
section
variable (cx:List Cx)
include cx
def ajc:Lp JJ:=fQ (eZ (ua iI Eb (4,[.i (cH cx 0),.f (kc cx 1)]) (Gu x0 x1 x2 x3 x4 x5 x6 x7 b8 x9 x10 x11 x12 [.i (cH cx 0),.f (kc cx 1)]) (kf x0 x1 x2 x3 x4 x5 x6 x7 b8 x9 x10 x11 x12 (.L4 (0:Int) (fun _=>[]) 0 (fun _=>[]) (cH cx 0) (kc cx 1)))) [true])
def zV:Lp JJ:=fQ (eZ (ua iI Eb (3,[.i (0:Int),.f (fun _=>[])]) (GJ x0 x1 x2 x3 x4 x5 x6 x7 b8 x9 x10 x11 x12 [.i (0:Int),.f (fun _=>[])]) (kf x0 x1 x2 x3 x4 x5 x6 x7 b8 x9 x10 x11 x12 (.L3 (cH cx 0) (eC cx 1) (eC cx 2) (cH cx 3) (cH cx 4) (cH cx 5) (eC cx 6) (cH cx 7) (cH cx 8) (kc cx 9) (0:Int) (fun _=>[])))) [false,false])
def GZ:Lp JJ:=fQ (eZ (ua iI Eb (4,[.i (cH cx 0),.f (kc cx 1)]) (Gu x0 x1 x2 x3 x4 x5 x6 x7 b8 x9 x10 x11 x12 [.i (cH cx 0),.f (kc cx 1)]) (kf x0 x1 x2 x3 x4 x5 x6 x7 b8 x9 x10 x11 x12 (.L4 (0:Int) (fun _=>[]) 0 (fun _=>[]) (cH cx 0) (kc cx 1)))) [false])
def XE:Lp JJ:=fQ (eZ (ua iI Eb (12,[.i (cH cx 0),.n (eC cx 1),.n (eC cx 2),.i (cH cx 3),.i (cH cx 4),.i (cH cx 5),.n (eC cx 6),.i (cH cx 7),.i (cH cx 8),.f (kc cx 9)]) (zV x0 x1 x2 x3 x4 x5 x6 x7 b8 x9 x10 x11 x12 [.i (cH cx 0),.n (eC cx 1),.n (eC cx 2),.i (cH cx 3),.i (cH cx 4),.i (cH cx 5),.n (eC cx 6),.i (cH cx 7),.i (cH cx 8),.f (kc cx 9)]) (kf x0 x1 x2 x3 x4 x5 x6 x7 b8 x9 x10 x11 x12 (.L12 (0:Int) (0:Int) 0 (fun _=>[]) 0 (fun _=>[]) (cH cx 0) (eC cx 1) (eC cx 2) (cH cx 3) (cH cx 4) (cH cx 5) (eC cx 6) (cH cx 7) (cH cx 8) (kc cx 9)))) [true])
def I1:Lp JJ:=fQ (eZ (ua iI Eb (12,[.i (cH cx 0),.n (eC cx 1),.n (eC cx 2),.i (cH cx 3),.i (cH cx 4),.i (cH cx 5),.n (eC cx 6),.i (cH cx 7),.i (cH cx 8),.f (kc cx 9)]) (zV x0 x1 x2 x3 x4 x5 x6 x7 b8 x9 x10 x11 x12 [.i (cH cx 0),.n (eC cx 1),.n (eC cx 2),.i (cH cx 3),.i (cH cx 4),.i (cH cx 5),.n (eC cx 6),.i (cH cx 7),.i (cH cx 8),.f (kc cx 9)]) (kf x0 x1 x2 x3 x4 x5 x6 x7 b8 x9 x10 x11 x12 (.L12 (0:Int) (0:Int) 0 (fun _=>[]) 0 (fun _=>[]) (cH cx 0) (eC cx 1) (eC cx 2) (cH cx 3) (cH cx 4) (cH cx 5) (eC cx 6) (cH cx 7) (cH cx 8) (kc cx 9)))) [false])
def Ic:Lp JJ:=fQ (eZ (ua iI Eb (13,[.i (cH cx 6),.f (kc cx 7)]) (GZ x0 x1 x2 x3 x4 x5 x6 x7 b8 x9 x10 x11 x12 [.i (cH cx 6),.f (kc cx 7)]) (kf x0 x1 x2 x3 x4 x5 x6 x7 b8 x9 x10 x11 x12 (.L13 (cH cx 0) (cH cx 1) (kc cx 2) (eC cx 3) (eC cx 4) (kc cx 5) (cH cx 6) (kc cx 7)))) [false])
def V0:Lp JJ:=fQ (eZ (ua iI Eb (18,[.i (cH cx 0),.i (cH cx 1),.f (kc cx 2),.n (eC cx 3),.n (eC cx 4),.f (kc cx 5),.i (cH cx 6),.f (kc cx 7)]) (Ic x0 x1 x2 x3 x4 x5 x6 x7 b8 x9 x10 x11 x12 [.i (cH cx 0),.i (cH cx 1),.f (kc cx 2),.n (eC cx 3),.n (eC cx 4),.f (kc cx 5),.i (cH cx 6),.f (kc cx 7)]) (kf x0 x1 x2 x3 x4 x5 x6 x7 b8 x9 x10 x11 x12 (.L18 (0:Int) (fun _=>[]) (eC cx 3) (eC cx 4) (fun _=>[]) (cH cx 0) (cH cx 1) (kc cx 2) (kc cx 5) (cH cx 6) (kc cx 7)))) [true])
def Ho:Lp JJ:=fQ (eZ (ua iI Eb (15,[.i (cH cx 8),.n (eC cx 9),.n (eC cx 10),.i (cH cx 11),.i (cH cx 12),.i (cH cx 13),.n (eC cx 14),.i (cH cx 15),.i (cH cx 16),.f (kc cx 17)]) (I1 x0 x1 x2 x3 x4 x5 x6 x7 b8 x9 x10 x11 x12 [.i (cH cx 8),.n (eC cx 9),.n (eC cx 10),.i (cH cx 11),.i (cH cx 12),.i (cH cx 13),.n (eC cx 14),.i (cH cx 15),.i (cH cx 16),.f (kc cx 17)]) (kf x0 x1 x2 x3 x4 x5 x6 x7 b8 x9 x10 x11 x12 (.L15 (cH cx 0) (cH cx 1) (cH cx 2) (eC cx 3) (kc cx 4) (eC cx 5) (eC cx 6) (kc cx 7) (cH cx 8) (eC cx 9) (eC cx 10) (cH cx 11) (cH cx 12) (cH cx 13) (eC cx 14) (cH cx 15) (cH cx 16) (kc cx 17)))) [false])
def ybj:Lp JJ:=fQ (eZ (ua iI Eb (24,[.i (cH cx 0),.i (cH cx 1),.i (cH cx 2),.n (eC cx 3),.f (kc cx 4),.n (eC cx 5),.n (eC cx 6),.f (kc cx 7),.i (cH cx 8),.n (eC cx 9),.n (eC cx 10),.i (cH cx 11),.i (cH cx 12),.i (cH cx 13),.n (eC cx 14),.i (cH cx 15),.i (cH cx 16),.f (kc cx 17)]) (Ho x0 x1 x2 x3 x4 x5 x6 x7 b8 x9 x10 x11 x12 [.i (cH cx 0),.i (cH cx 1),.i (cH cx 2),.n (eC cx 3),.f (kc cx 4),.n (eC cx 5),.n (eC cx 6),.f (kc cx 7),.i (cH cx 8),.n (eC cx 9),.n (eC cx 10),.i (cH cx 11),.i (cH cx 12),.i (cH cx 13),.n (eC cx 14),.i (cH cx 15),.i (cH cx 16),.f (kc cx 17)]) (kf x0 x1 x2 x3 x4 x5 x6 x7 b8 x9 x10 x11 x12 (.L24 (0:Int) 0 (0:Int) (fun _=>[]) (eC cx 5) (eC cx 6) (fun _=>[]) (cH cx 0) (cH cx 1) (cH cx 2) (eC cx 3) (kc cx 4) (kc cx 7) (cH cx 8) (eC cx 9) (eC cx 10) (cH cx 11) (cH cx 12) (cH cx 13) (eC cx 14) (cH cx 15) (cH cx 16) (kc cx 17)))) [true])
end
def aqo:JJ->Lp JJ
 |(0,cx)=>AF x0 x1 x2 x3 x4 x5 x6 x7 b8 x9 x10 x11 x12 cx
 |(1,cx)=>ahK x0 x1 x2 x3 x4 x5 x6 x7 b8 x9 x10 x11 x12 cx
 |(2,cx)=>Eg x0 x1 x2 x3 x4 x5 x6 x7 b8 x9 x10 x11 x12 cx
 |(3,cx)=>GJ x0 x1 x2 x3 x4 x5 x6 x7 b8 x9 x10 x11 x12 cx
 |(4,cx)=>Gu x0 x1 x2 x3 x4 x5 x6 x7 b8 x9 x10 x11 x12 cx
 |(5,cx)=>afa x0 x1 x2 x3 x4 x5 x6 x7 b8 x9 x10 x11 x12 cx
 |(7,cx)=>ajc x0 x1 x2 x3 x4 x5 x6 x7 b8 x9 x10 x11 x12 cx
 |(12,cx)=>zV x0 x1 x2 x3 x4 x5 x6 x7 b8 x9 x10 x11 x12 cx
 |(13,cx)=>GZ x0 x1 x2 x3 x4 x5 x6 x7 b8 x9 x10 x11 x12 cx
 |(14,cx)=>XE x0 x1 x2 x3 x4 x5 x6 x7 b8 x9 x10 x11 x12 cx
 |(15,cx)=>I1 x0 x1 x2 x3 x4 x5 x6 x7 b8 x9 x10 x11 x12 cx
 |(18,cx)=>Ic x0 x1 x2 x3 x4 x5 x6 x7 b8 x9 x10 x11 x12 cx
 |(20,cx)=>V0 x0 x1 x2 x3 x4 x5 x6 x7 b8 x9 x10 x11 x12 cx
 |(24,cx)=>Ho x0 x1 x2 x3 x4 x5 x6 x7 b8 x9 x10 x11 x12 cx
 |(25,cx)=>ybj x0 x1 x2 x3 x4 x5 x6 x7 b8 x9 x10 x11 x12 cx
 |(_,cx)=>AF x0 x1 x2 x3 x4 x5 x6 x7 b8 x9 x10 x11 x12 cx
def D57:LD JJ io:=⟨arW,aqo x0 x1 x2 x3 x4 x5 x6 x7 b8 x9 x10 x11 x12,kf x0 x1 x2 x3 x4 x5 x6 x7 b8 x9 x10 x11 x12⟩
def ed (x0 x1 x2 x3 x4 x5 x6 x7:Int) (b8:Bool) (x9 x10 x11 x12:Int):io->RT io
 |.L0 ia0 fa1=>.br (decide (ia0<(↑8:Int))) (.enter (iR 0 14 []) (io.L1 ia0 ia0 (aa aJ fa1)) [⟨13,aJ,8,aa aJ fa1,aC rfl _ _⟩]) (.brf (.enter (iR 0 14 []) (io.L2 1 (aa aJ fa1) ia0 fa1) [⟨13,aJ,8,aa aJ fa1,aC rfl _ _⟩]))
 |.L1 ib0 ib1 fb2=>.ii (.obj (decide (0<ib0)) (decide (0<=ib0/\ib0<(↑8:Int)/\8<=8)) (.obi (.obj (decide (0<ib0)) (decide (ib0.toNat<8)) (.ii (.obi (.obj (decide (0<ib0)) (decide (0<=wI (ib0-1)/\wI (ib0-1)<(↑8:Int)/\8<=8)) (.obi (.obj (decide (0<ib0)) (decide ((wI (ib0-1)).toNat<8)) (.br (decide (0<ib0)) (.ob (decide (0<ib0)) (.ob (decide (0<ib0)) (.ob (decide (0<ib0)) (.cb (.br (decide (qa (aw (fb2 ib0.toNat)) (aW (fb2 ib0.toNat)) (aw (fb2 (wI (ib0-1)).toNat)) (aW (fb2 (wI (ib0-1)).toNat))<0)) (.ob (decide (0<=wI (ib0-1)/\wI (ib0-1)<(↑8:Int)/\8<=8)) (.ob (decide ((wI (ib0-1)).toNat<8)) (.ob (decide (0<=ib0/\ib0<(↑8:Int)/\8<=8)) (.ob (decide (ib0.toNat<8)) (.ob (decide (0<=ib0/\ib0<(↑8:Int)/\8<=8)) (.ob (decide (ib0.toNat<8)) (.ob (decide (0<=wI (ib0-1)/\wI (ib0-1)<(↑8:Int)/\8<=8)) (.ob (decide ((wI (ib0-1)).toNat<8)) (.next (iR 0 14 []) (io.L1 (wI (ib0-1)) ib1 (fun i'=>bif i'.beq (wI (ib0-1)).toNat then [vi (aw (fb2 ib0.toNat)),vi (aW (fb2 ib0.toNat))] else bif i'.beq ib0.toNat then [vi (aw (fb2 (wI (ib0-1)).toNat)),vi (aW (fb2 (wI (ib0-1)).toNat))] else aa aJ fb2 i')) [⟨13,aJ,8,fun i'=>bif i'.beq (wI (ib0-1)).toNat then [vi (aw (fb2 ib0.toNat)),vi (aW (fb2 ib0.toNat))] else bif i'.beq ib0.toNat then [vi (aw (fb2 (wI (ib0-1)).toNat)),vi (aW (fb2 (wI (ib0-1)).toNat))] else aa aJ fb2 i',mB rfl (mB rfl (aC rfl _ _) rfl) rfl⟩]))))))))) (.next (iR 0 14 []) (io.L0 (wI (ib1+1)) (aa aJ fb2)) [⟨13,aJ,8,aa aJ fb2,aC rfl _ _⟩])))))) (.next (iR 0 14 []) (io.L0 (wI (ib1+1)) (aa aJ fb2)) [⟨13,aJ,8,aa aJ fb2,aC rfl _ _⟩]))))))))))
 |.L2 ic0 fc1 ic2 fc3=>.br (decide (ic0<(↑8:Int))) (.ob (decide (0<=ic0/\ic0<(↑8:Int)/\8<=8)) (.ob (decide (ic0.toNat<8)) (.ob (decide (0<=wI (ic0-1)/\wI (ic0-1)<(↑8:Int)/\8<=8)) (.ob (decide ((wI (ic0-1)).toNat<8)) (.br (aw (fc1 ic0.toNat)==aw (fc1 (wI (ic0-1)).toNat)&&(aW (fc1 ic0.toNat)==aW (fc1 (wI (ic0-1)).toNat)&&true)) (.ob (decide (0<=ic0/\ic0<=(↑8:Int))) (.enter (iR 0 14 []) (io.L3 1 (ic0.toNat) (8-ic0.toNat) ic0 (aw (fc1 (wI (ic0-1)).toNat)) (aW (fc1 (wI (ic0-1)).toNat)) ((wI (ic0-1)).toNat) (wI (ic0-1)) ic0 (aa aJ fc1) ic2 fc3) [⟨13,aJ,8,aa aJ fc1,aC rfl _ _⟩])) (.next (iR 0 14 []) (io.L2 (wI (ic0+1)) (aa aJ fc1) ic2 fc3) [⟨13,aJ,8,aa aJ fc1,aC rfl _ _⟩])))))) (.brf (.enter (iR 0 15 [some none]) (io.L4 0 (aa aJ fc1) 0 (fun i=>[]) ic0 fc1) [⟨13,aJ,8,aa aJ fc1,aC rfl _ _⟩]))
 |.L3 id0 nd1 nd2 id3 id4 id5 nd6 id7 id8 fd9 id10 fd11=>.br (decide (id0<(↑nd2:Int))) (.ob (decide (0<=id0/\id0<(↑nd2:Int)/\nd1+nd2<=8)) (.ob (decide (nd1+id0.toNat<8)) (.ob (decide (0<=wI (id0-1)/\wI (id0-1)<(↑nd2:Int)/\nd1+nd2<=8)) (.ob (decide (nd1+(wI (id0-1)).toNat<8)) (.br (!(aw (fd9 (nd1+id0.toNat))==aw (fd9 (nd1+(wI (id0-1)).toNat))&&(aW (fd9 (nd1+id0.toNat))==aW (fd9 (nd1+(wI (id0-1)).toNat))&&true))) (.ob (decide (0<=id0/\id0<(↑nd2:Int)/\nd1+nd2<=8)) (.ob (decide (nd1+id0.toNat<8)) (.ob (decide (0<=id8/\id8<(↑8:Int)/\8<=8)) (.ob (decide (id8.toNat<8)) (.next (iR 0 14 []) (io.L3 (wI (id0+1)) nd1 nd2 id3 id4 id5 nd6 id7 (wI (id8+1)) (fun i'=>bif i'.beq id8.toNat then [vi (aw (fd9 (nd1+id0.toNat))),vi (aW (fd9 (nd1+id0.toNat)))] else aa aJ fd9 i') id10 fd11) [⟨13,aJ,8,fun i'=>bif i'.beq id8.toNat then [vi (aw (fd9 (nd1+id0.toNat))),vi (aW (fd9 (nd1+id0.toNat)))] else aa aJ fd9 i',mB rfl (aC rfl _ _) rfl⟩]))))) (.next (iR 0 14 []) (io.L3 (wI (id0+1)) nd1 nd2 id3 id4 id5 nd6 id7 id8 (aa aJ fd9) id10 fd11) [⟨13,aJ,8,aa aJ fd9,aC rfl _ _⟩])))))) (.ob (decide (0<=id8/\id8<=(↑8:Int))) (.ob (decide (0<8-id8.toNat/\id8.toNat+(8-id8.toNat)<=8)) (.ob (decide (0<=id8/\id8<=(↑8:Int))) (.br (decide ((↑id8.toNat:Int)<3)) (.enter [some (some 13),some (some 0)] (io.L5 0 ((↑id8.toNat:Int)) (id8.toNat) (decide (2<(↑id8.toNat:Int))) 8 (fun i=>bif id8.toNat.ble i&&i.succ.ble (id8.toNat+(8-id8.toNat)) then [vi 0,vi 0] else aa aJ fd9 i)) [⟨0,aJ,8,fun i=>bif id8.toNat.ble i&&i.succ.ble (id8.toNat+(8-id8.toNat)) then [vi 0,vi 0] else aa aJ fd9 i,ac5 rfl (aC rfl _ _) rfl⟩]) (.enter (iR 0 15 [some none]) (io.L12 0 ((↑id8.toNat:Int)) (id8.toNat) (fun i=>bif id8.toNat.ble i&&i.succ.ble (id8.toNat+(8-id8.toNat)) then [vi 0,vi 0] else aa aJ fd9 i) 0 (fun i=>[]) id0 nd1 nd2 id3 id4 id5 nd6 id7 id8 fd9) [⟨13,aJ,8,fun i=>bif id8.toNat.ble i&&i.succ.ble (id8.toNat+(8-id8.toNat)) then [vi 0,vi 0] else aa aJ fd9 i,ac5 rfl (aC rfl _ _) rfl⟩])))))
 |.L4 ie0 fe1 ne2 fe3 ie4 fe5=>.br (decide (ie0<(↑8:Int))) (.ob (decide (0<=ie0/\ie0<(↑8:Int)/\8<=8)) (.ob (decide (ie0.toNat<8)) (.enter (iR 0 15 [some (some 16),some (some 15)]) (io.L7 ie0 (aa aJ fe1) ne2 (aw (fe1 ie0.toNat)) (aW (fe1 ie0.toNat)) ne2 (aa aJ fe3) ie4 fe5) [⟨13,aJ,8,aa aJ fe1,aC rfl _ _⟩,⟨16,aJ,ne2,aa aJ fe3,aC rfl _ _⟩]))) (.ob (decide (0<=wI ((↑ne2:Int)-1)/\wI ((↑ne2:Int)-1)<=(↑ne2:Int))) (.enter (iR 0 16 []) (io.L13 (wI ((↑8:Int)-1)) 0 (aa aJ fe1) ((wI ((↑ne2:Int)-1)).toNat) ne2 (aa aJ fe3) ie4 fe5) [⟨13,aJ,8,aa aJ fe1,aC rfl _ _⟩,⟨15,aJ,ne2,aa aJ fe3,aC rfl _ _⟩]))
 |.L5 if0 if1 nf2 bf3 nf4 ff5=>.br (decide (if0<if1)) (.ob (decide (0<=if0/\if0<(↑nf2:Int)/\nf2<=nf4)) (.ob (decide (if0.toNat<nf4)) (.ob (decide ((↑nf2:Int)≠0)) (.ob (decide (0<=(wI (if0+1)).tmod (↑nf2:Int)/\(wI (if0+1)).tmod (↑nf2:Int)<(↑nf2:Int)/\nf2<=nf4)) (.ob (decide (((wI (if0+1)).tmod (↑nf2:Int)).toNat<nf4)) (.cb (.br (ja (aw (ff5 if0.toNat)) (aW (ff5 if0.toNat)) (aw (ff5 ((wI (if0+1)).tmod (↑nf2:Int)).toNat)) (aW (ff5 ((wI (if0+1)).tmod (↑nf2:Int)).toNat)) x5 x6 x7) (.ret (V.kb true)) (.obi (.br (bf3) (.ob (bf3) (.ob (bf3) (.cb (.next [some (some 0),some (some 1)] (io.L5 (wI (if0+1)) if1 nf2 (decide (0<gJ (aw (ff5 if0.toNat)) (aW (ff5 if0.toNat)) (aw (ff5 ((wI (if0+1)).tmod (↑nf2:Int)).toNat)) (aW (ff5 ((wI (if0+1)).tmod (↑nf2:Int)).toNat)) x5 x6)) nf4 (aa aJ ff5)) [⟨0,aJ,nf4,aa aJ ff5,aC rfl _ _⟩])))) (.next [some (some 0),some (some 1)] (io.L5 (wI (if0+1)) if1 nf2 (false) nf4 (aa aJ ff5)) [⟨0,aJ,nf4,aa aJ ff5,aC rfl _ _⟩])))))))))) (.ret (V.bool bf3))
 |.L7 ih0 fh1 nh2 ih3 ih4 nh5 fh6 ih7 fh8=>.iv (.obj (decide (wI (0+1)<(↑nh2:Int))) (decide (0<=wI ((↑nh2:Int)-2)/\wI ((↑nh2:Int)-2)<(↑nh2:Int)/\nh2<=nh5)) (.obi (.obj (decide (wI (0+1)<(↑nh2:Int))) (decide ((wI ((↑nh2:Int)-2)).toNat<nh5)) (.iv (.obj (decide (wI (0+1)<(↑nh2:Int))) (decide (0<=wI ((↑nh2:Int)-1)/\wI ((↑nh2:Int)-1)<(↑nh2:Int)/\nh2<=nh5)) (.obi (.obj (decide (wI (0+1)<(↑nh2:Int))) (decide ((wI ((↑nh2:Int)-1)).toNat<nh5)) (.ii (.br (decide (wI (0+1)<(↑nh2:Int))) (.ob (decide (wI (0+1)<(↑nh2:Int))) (.ob (decide (wI (0+1)<(↑nh2:Int))) (.cb (.br (decide (gJ (aw (fh6 (wI ((↑nh2:Int)-2)).toNat)) (aW (fh6 (wI ((↑nh2:Int)-2)).toNat)) (aw (fh6 (wI ((↑nh2:Int)-1)).toNat)) (aW (fh6 (wI ((↑nh2:Int)-1)).toNat)) ih3 ih4<=0)) (.ob (decide (0<=wI ((↑nh2:Int)-1)/\wI ((↑nh2:Int)-1)<=(↑nh2:Int))) (.next (iR 0 17 []) (io.L7 ih0 (aa aJ fh1) ((wI ((↑nh2:Int)-1)).toNat) ih3 ih4 nh5 (aa aJ fh6) ih7 fh8) [⟨13,aJ,8,aa aJ fh1,aC rfl _ _⟩,⟨16,aJ,nh5,aa aJ fh6,aC rfl _ _⟩])) (.obt (.ob (decide (nh2<=nh5/\(nh2+1)*16<=140737488355328)&&!Nat.beq 16 0) (.next (iR 0 15 [some (some 18)]) (io.L4 (wI (ih0+1)) (aa aJ fh1) (nh2+1) (bh nh2 (aa aJ fh6) fun x=>[vi ih3,vi ih4]) ih7 fh8) [⟨13,aJ,8,aa aJ fh1,aC rfl _ _⟩,⟨15,aJ,nh2+1,bh nh2 (aa aJ fh6) fun x=>[vi ih3,vi ih4],eN (aC rfl _ _) (dN rfl _ rfl)⟩]))))))) (.obt (.ob (decide (nh2<=nh5/\(nh2+1)*16<=140737488355328)&&!Nat.beq 16 0) (.next (iR 0 15 [some (some 18)]) (io.L4 (wI (ih0+1)) (aa aJ fh1) (nh2+1) (bh nh2 (aa aJ fh6) fun x=>[vi ih3,vi ih4]) ih7 fh8) [⟨13,aJ,8,aa aJ fh1,aC rfl _ _⟩,⟨15,aJ,nh2+1,bh nh2 (aa aJ fh6) fun x=>[vi ih3,vi ih4],eN (aC rfl _ _) (dN rfl _ rfl)⟩]))))))))))))
 |.L12 im0 im1 nm2 fm3 nm4 fm5 im6 nm7 nm8 im9 im10 im11 nm12 im13 im14 fm15=>.br (decide (im0<im1)) (.ob (decide (0<=im0/\im0<(↑nm2:Int)/\nm2<=8)) (.ob (decide (im0.toNat<8)) (.enter (iR 0 15 [some (some 16),some (some 15)]) (io.L14 im0 im1 nm2 (aa aJ fm3) nm4 (aw (fm3 im0.toNat)) (aW (fm3 im0.toNat)) nm4 (aa aJ fm5) im6 nm7 nm8 im9 im10 im11 nm12 im13 im14 fm15) [⟨13,aJ,8,aa aJ fm3,aC rfl _ _⟩,⟨16,aJ,nm4,aa aJ fm5,aC rfl _ _⟩]))) (.ob (decide (0<=wI ((↑nm4:Int)-1)/\wI ((↑nm4:Int)-1)<=(↑nm4:Int))) (.enter (iR 0 16 []) (io.L15 (wI ((↑im14.toNat:Int)-1)) 0 ((↑im14.toNat:Int)) (im14.toNat) (aa aJ fm3) ((wI ((↑nm4:Int)-1)).toNat) nm4 (aa aJ fm5) im6 nm7 nm8 im9 im10 im11 nm12 im13 im14 fm15) [⟨13,aJ,8,aa aJ fm3,aC rfl _ _⟩,⟨15,aJ,nm4,aa aJ fm5,aC rfl _ _⟩]))
 |.L13 in0 in1 fn2 nn3 nn4 fn5 in6 fn7=>.br (decide (in1<in0)) (.ob (decide (0<=in0/\in0<(↑8:Int)/\8<=8)) (.ob (decide (in0.toNat<8)) (.ob (decide (0<=in1/\in1<(↑8:Int)/\8<=8)) (.ob (decide (in1.toNat<8)) (.ob (decide (0<=in1/\in1<(↑8:Int)/\8<=8)) (.ob (decide (in1.toNat<8)) (.ob (decide (0<=in0/\in0<(↑8:Int)/\8<=8)) (.ob (decide (in0.toNat<8)) (.next (iR 0 16 []) (io.L13 (wI (in0-1)) (wI (in1+1)) (fun i'=>bif i'.beq in0.toNat then [vi (aw (fn2 in1.toNat)),vi (aW (fn2 in1.toNat))] else bif i'.beq in1.toNat then [vi (aw (fn2 in0.toNat)),vi (aW (fn2 in0.toNat))] else aa aJ fn2 i') nn3 nn4 (aa aJ fn5) in6 fn7) [⟨13,aJ,8,fun i'=>bif i'.beq in0.toNat then [vi (aw (fn2 in1.toNat)),vi (aW (fn2 in1.toNat))] else bif i'.beq in1.toNat then [vi (aw (fn2 in0.toNat)),vi (aW (fn2 in0.toNat))] else aa aJ fn2 i',mB rfl (mB rfl (aC rfl _ _) rfl) rfl⟩,⟨15,aJ,nn4,aa aJ fn5,aC rfl _ _⟩]))))))))) (.enter (iR 0 16 []) (io.L18 ((↑nn3:Int)) (aa aJ fn2) nn3 nn4 (aa aJ fn5) in0 in1 fn2 fn5 in6 fn7) [⟨13,aJ,8,aa aJ fn2,aC rfl _ _⟩,⟨15,aJ,nn4,aa aJ fn5,aC rfl _ _⟩])
 |.L14 io0 io1 no2 fo3 no4 io5 io6 no7 fo8 io9 no10 no11 io12 io13 io14 no15 io16 io17 fo18=>.iv (.obj (decide (wI (0+1)<(↑no4:Int))) (decide (0<=wI ((↑no4:Int)-2)/\wI ((↑no4:Int)-2)<(↑no4:Int)/\no4<=no7)) (.obi (.obj (decide (wI (0+1)<(↑no4:Int))) (decide ((wI ((↑no4:Int)-2)).toNat<no7)) (.iv (.obj (decide (wI (0+1)<(↑no4:Int))) (decide (0<=wI ((↑no4:Int)-1)/\wI ((↑no4:Int)-1)<(↑no4:Int)/\no4<=no7)) (.obi (.obj (decide (wI (0+1)<(↑no4:Int))) (decide ((wI ((↑no4:Int)-1)).toNat<no7)) (.ii (.br (decide (wI (0+1)<(↑no4:Int))) (.ob (decide (wI (0+1)<(↑no4:Int))) (.ob (decide (wI (0+1)<(↑no4:Int))) (.cb (.br (decide (gJ (aw (fo8 (wI ((↑no4:Int)-2)).toNat)) (aW (fo8 (wI ((↑no4:Int)-2)).toNat)) (aw (fo8 (wI ((↑no4:Int)-1)).toNat)) (aW (fo8 (wI ((↑no4:Int)-1)).toNat)) io5 io6<=0)) (.ob (decide (0<=wI ((↑no4:Int)-1)/\wI ((↑no4:Int)-1)<=(↑no4:Int))) (.next (iR 0 17 []) (io.L14 io0 io1 no2 (aa aJ fo3) ((wI ((↑no4:Int)-1)).toNat) io5 io6 no7 (aa aJ fo8) io9 no10 no11 io12 io13 io14 no15 io16 io17 fo18) [⟨13,aJ,8,aa aJ fo3,aC rfl _ _⟩,⟨16,aJ,no7,aa aJ fo8,aC rfl _ _⟩])) (.obt (.ob (decide (no4<=no7/\(no4+1)*16<=140737488355328)&&!Nat.beq 16 0) (.next (iR 0 15 [some (some 18)]) (io.L12 (wI (io0+1)) io1 no2 (aa aJ fo3) (no4+1) (bh no4 (aa aJ fo8) fun x=>[vi io5,vi io6]) io9 no10 no11 io12 io13 io14 no15 io16 io17 fo18) [⟨13,aJ,8,aa aJ fo3,aC rfl _ _⟩,⟨15,aJ,no4+1,bh no4 (aa aJ fo8) fun x=>[vi io5,vi io6],eN (aC rfl _ _) (dN rfl _ rfl)⟩]))))))) (.obt (.ob (decide (no4<=no7/\(no4+1)*16<=140737488355328)&&!Nat.beq 16 0) (.next (iR 0 15 [some (some 18)]) (io.L12 (wI (io0+1)) io1 no2 (aa aJ fo3) (no4+1) (bh no4 (aa aJ fo8) fun x=>[vi io5,vi io6]) io9 no10 no11 io12 io13 io14 no15 io16 io17 fo18) [⟨13,aJ,8,aa aJ fo3,aC rfl _ _⟩,⟨15,aJ,no4+1,bh no4 (aa aJ fo8) fun x=>[vi io5,vi io6],eN (aC rfl _ _) (dN rfl _ rfl)⟩]))))))))))))
 |.L15 ip0 ip1 ip2 np3 fp4 np5 np6 fp7 ip8 np9 np10 ip11 ip12 ip13 np14 ip15 ip16 fp17=>.br (decide (ip1<ip0)) (.ob (decide (0<=ip0/\ip0<(↑np3:Int)/\np3<=8)) (.ob (decide (ip0.toNat<8)) (.ob (decide (0<=ip1/\ip1<(↑np3:Int)/\np3<=8)) (.ob (decide (ip1.toNat<8)) (.ob (decide (0<=ip1/\ip1<(↑np3:Int)/\np3<=8)) (.ob (decide (ip1.toNat<8)) (.ob (decide (0<=ip0/\ip0<(↑np3:Int)/\np3<=8)) (.ob (decide (ip0.toNat<8)) (.next (iR 0 16 []) (io.L15 (wI (ip0-1)) (wI (ip1+1)) ip2 np3 (fun i'=>bif i'.beq ip0.toNat then [vi (aw (fp4 ip1.toNat)),vi (aW (fp4 ip1.toNat))] else bif i'.beq ip1.toNat then [vi (aw (fp4 ip0.toNat)),vi (aW (fp4 ip0.toNat))] else aa aJ fp4 i') np5 np6 (aa aJ fp7) ip8 np9 np10 ip11 ip12 ip13 np14 ip15 ip16 fp17) [⟨13,aJ,8,fun i'=>bif i'.beq ip0.toNat then [vi (aw (fp4 ip1.toNat)),vi (aW (fp4 ip1.toNat))] else bif i'.beq ip1.toNat then [vi (aw (fp4 ip0.toNat)),vi (aW (fp4 ip0.toNat))] else aa aJ fp4 i',mB rfl (mB rfl (aC rfl _ _) rfl) rfl⟩,⟨15,aJ,np6,aa aJ fp7,aC rfl _ _⟩]))))))))) (.enter (iR 0 16 []) (io.L24 ((↑ip16.toNat:Int)) (ip16.toNat) ((↑np5:Int)) (aa aJ fp4) np5 np6 (aa aJ fp7) ip0 ip1 ip2 np3 fp4 fp7 ip8 np9 np10 ip11 ip12 ip13 np14 ip15 ip16 fp17) [⟨13,aJ,8,aa aJ fp4,aC rfl _ _⟩,⟨15,aJ,np6,aa aJ fp7,aC rfl _ _⟩])
 |.L18 is0 fs1 ns2 ns3 fs4 is5 is6 fs7 fs8 is9 fs10=>.brt (.obt (.obt (.enter (iR 0 17 []) (io.L20 is0 (aa aJ fs1) ns2 ns3 (aa aJ fs4) (aw (fs1 0)) (aW (fs1 0)) is5 is6 fs7 ns2 fs8 is9 fs10) [⟨13,aJ,8,aa aJ fs1,aC rfl _ _⟩,⟨15,aJ,ns3,aa aJ fs4,aC rfl _ _⟩])))
 |.L20 iu0 fu1 nu2 nu3 fu4 iu5 iu6 iu7 iu8 fu9 nu10 fu11 iu12 fu13=>.iv (.obj (decide (wI (iu0+1)<(↑nu2:Int))) (decide (0<=wI ((↑nu2:Int)-2)/\wI ((↑nu2:Int)-2)<(↑nu2:Int)/\nu2<=nu3)) (.obi (.obj (decide (wI (iu0+1)<(↑nu2:Int))) (decide ((wI ((↑nu2:Int)-2)).toNat<nu3)) (.iv (.obj (decide (wI (iu0+1)<(↑nu2:Int))) (decide (0<=wI ((↑nu2:Int)-1)/\wI ((↑nu2:Int)-1)<(↑nu2:Int)/\nu2<=nu3)) (.obi (.obj (decide (wI (iu0+1)<(↑nu2:Int))) (decide ((wI ((↑nu2:Int)-1)).toNat<nu3)) (.ii (.br (decide (wI (iu0+1)<(↑nu2:Int))) (.ob (decide (wI (iu0+1)<(↑nu2:Int))) (.ob (decide (wI (iu0+1)<(↑nu2:Int))) (.cb (.br (decide (gJ (aw (fu4 (wI ((↑nu2:Int)-2)).toNat)) (aW (fu4 (wI ((↑nu2:Int)-2)).toNat)) (aw (fu4 (wI ((↑nu2:Int)-1)).toNat)) (aW (fu4 (wI ((↑nu2:Int)-1)).toNat)) iu5 iu6<=0)) (.ob (decide (0<=wI ((↑nu2:Int)-1)/\wI ((↑nu2:Int)-1)<=(↑nu2:Int))) (.next (iR 0 17 []) (io.L20 iu0 (aa aJ fu1) ((wI ((↑nu2:Int)-1)).toNat) nu3 (aa aJ fu4) iu5 iu6 iu7 iu8 fu9 nu10 fu11 iu12 fu13) [⟨13,aJ,8,aa aJ fu1,aC rfl _ _⟩,⟨15,aJ,nu3,aa aJ fu4,aC rfl _ _⟩])) (.obt (.ob (decide (nu2<=nu3/\(nu2+1)*16<=140737488355328)&&!Nat.beq 16 0) (.next (iR 0 17 [some (some 18)]) (io.L22 (wI (0+1)) iu0 (aa aJ fu1) (nu2+1) iu5 iu6 (bh nu2 (aa aJ fu4) fun x=>[vi iu5,vi iu6]) iu7 iu8 fu9 nu10 nu3 fu11 iu12 fu13) [⟨13,aJ,8,aa aJ fu1,aC rfl _ _⟩,⟨17,aJ,nu2+1,bh nu2 (aa aJ fu4) fun x=>[vi iu5,vi iu6],eN (aC rfl _ _) (dN rfl _ rfl)⟩]))))))) (.obt (.ob (decide (nu2<=nu3/\(nu2+1)*16<=140737488355328)&&!Nat.beq 16 0) (.next (iR 0 17 [some (some 18)]) (io.L22 (wI (0+1)) iu0 (aa aJ fu1) (nu2+1) iu5 iu6 (bh nu2 (aa aJ fu4) fun x=>[vi iu5,vi iu6]) iu7 iu8 fu9 nu10 nu3 fu11 iu12 fu13) [⟨13,aJ,8,aa aJ fu1,aC rfl _ _⟩,⟨17,aJ,nu2+1,bh nu2 (aa aJ fu4) fun x=>[vi iu5,vi iu6],eN (aC rfl _ _) (dN rfl _ rfl)⟩]))))))))))))
 |.L22 iw0 iw1 fw2 nw3 iw4 iw5 fw6 iw7 iw8 fw9 nw10 nw11 fw12 iw13 fw14=>.br (decide (iw0<(↑8:Int))) (.ob (decide (0<=iw0/\iw0<(↑8:Int)/\8<=8)) (.ob (decide (iw0.toNat<8)) (.enter (iR 0 16 [some (some 18),some (some 17)]) (io.L23 iw0 iw1 (aa aJ fw2) nw3 (aw (fw2 iw0.toNat)) (aW (fw2 iw0.toNat)) nw3 (aa aJ fw6) iw7 iw8 fw9 nw10 nw11 fw12 iw13 fw14) [⟨13,aJ,8,aa aJ fw2,aC rfl _ _⟩,⟨17,aJ,nw3,aa aJ fw6,aC rfl _ _⟩]))) (.ob (decide (0<=wI ((↑nw3:Int)-1)/\wI ((↑nw3:Int)-1)<=(↑nw3:Int))) (.enter [some (some 17),some (some 0)] (io.L5 0 ((↑(wI ((↑nw3:Int)-1)).toNat:Int)) ((wI ((↑nw3:Int)-1)).toNat) (decide (2<(↑(wI ((↑nw3:Int)-1)).toNat:Int))) nw3 (aa aJ fw6)) [⟨0,aJ,nw3,aa aJ fw6,aC rfl _ _⟩]))
 |.L23 ix0 ix1 fx2 nx3 ix4 ix5 nx6 fx7 ix8 ix9 fx10 nx11 nx12 fx13 ix14 fx15=>.iv (.obj (decide (wI (ix1+1)<(↑nx3:Int))) (decide (0<=wI ((↑nx3:Int)-2)/\wI ((↑nx3:Int)-2)<(↑nx3:Int)/\nx3<=nx6)) (.obi (.obj (decide (wI (ix1+1)<(↑nx3:Int))) (decide ((wI ((↑nx3:Int)-2)).toNat<nx6)) (.iv (.obj (decide (wI (ix1+1)<(↑nx3:Int))) (decide (0<=wI ((↑nx3:Int)-1)/\wI ((↑nx3:Int)-1)<(↑nx3:Int)/\nx3<=nx6)) (.obi (.obj (decide (wI (ix1+1)<(↑nx3:Int))) (decide ((wI ((↑nx3:Int)-1)).toNat<nx6)) (.ii (.br (decide (wI (ix1+1)<(↑nx3:Int))) (.ob (decide (wI (ix1+1)<(↑nx3:Int))) (.ob (decide (wI (ix1+1)<(↑nx3:Int))) (.cb (.br (decide (gJ (aw (fx7 (wI ((↑nx3:Int)-2)).toNat)) (aW (fx7 (wI ((↑nx3:Int)-2)).toNat)) (aw (fx7 (wI ((↑nx3:Int)-1)).toNat)) (aW (fx7 (wI ((↑nx3:Int)-1)).toNat)) ix4 ix5<=0)) (.ob (decide (0<=wI ((↑nx3:Int)-1)/\wI ((↑nx3:Int)-1)<=(↑nx3:Int))) (.next (iR 0 18 []) (io.L23 ix0 ix1 (aa aJ fx2) ((wI ((↑nx3:Int)-1)).toNat) ix4 ix5 nx6 (aa aJ fx7) ix8 ix9 fx10 nx11 nx12 fx13 ix14 fx15) [⟨13,aJ,8,aa aJ fx2,aC rfl _ _⟩,⟨17,aJ,nx6,aa aJ fx7,aC rfl _ _⟩])) (.obt (.ob (decide (nx3<=nx6/\(nx3+1)*16<=140737488355328)&&!Nat.beq 16 0) (.next (iR 0 17 [some (some 19)]) (io.L22 (wI (ix0+1)) ix1 (aa aJ fx2) (nx3+1) ix4 ix5 (bh nx3 (aa aJ fx7) fun x=>[vi ix4,vi ix5]) ix8 ix9 fx10 nx11 nx12 fx13 ix14 fx15) [⟨13,aJ,8,aa aJ fx2,aC rfl _ _⟩,⟨17,aJ,nx3+1,bh nx3 (aa aJ fx7) fun x=>[vi ix4,vi ix5],eN (aC rfl _ _) (dN rfl _ rfl)⟩]))))))) (.obt (.ob (decide (nx3<=nx6/\(nx3+1)*16<=140737488355328)&&!Nat.beq 16 0) (.next (iR 0 17 [some (some 19)]) (io.L22 (wI (ix0+1)) ix1 (aa aJ fx2) (nx3+1) ix4 ix5 (bh nx3 (aa aJ fx7) fun x=>[vi ix4,vi ix5]) ix8 ix9 fx10 nx11 nx12 fx13 ix14 fx15) [⟨13,aJ,8,aa aJ fx2,aC rfl _ _⟩,⟨17,aJ,nx3+1,bh nx3 (aa aJ fx7) fun x=>[vi ix4,vi ix5],eN (aC rfl _ _) (dN rfl _ rfl)⟩]))))))))))))
 |.L24 iy0 ny1 iy2 fy3 ny4 ny5 fy6 iy7 iy8 iy9 ny10 fy11 fy12 iy13 ny14 ny15 iy16 iy17 iy18 ny19 iy20 iy21 fy22=>.br (decide (0<iy0)) (.ob (decide ((0:Int)<=0/\0<(↑ny1:Int)/\ny1<=8)) (.obt (.enter (iR 0 17 []) (io.L25 iy0 ny1 iy2 (aa aJ fy3) ny4 ny5 (aa aJ fy6) (aw (fy3 0)) (aW (fy3 0)) iy7 iy8 iy9 ny10 fy11 ny4 fy12 iy13 ny14 ny15 iy16 iy17 iy18 ny19 iy20 iy21 fy22) [⟨13,aJ,8,aa aJ fy3,aC rfl _ _⟩,⟨15,aJ,ny5,aa aJ fy6,aC rfl _ _⟩]))) (.ob (decide (0<=wI ((↑ny4:Int)-1)/\wI ((↑ny4:Int)-1)<=(↑ny4:Int))) (.enter [some (some 15),some (some 0)] (io.L5 0 ((↑(wI ((↑ny4:Int)-1)).toNat:Int)) ((wI ((↑ny4:Int)-1)).toNat) (decide (2<(↑(wI ((↑ny4:Int)-1)).toNat:Int))) ny5 (aa aJ fy6)) [⟨0,aJ,ny5,aa aJ fy6,aC rfl _ _⟩]))
 |.L25 iz0 nz1 iz2 fz3 nz4 nz5 fz6 iz7 iz8 iz9 iz10 iz11 nz12 fz13 nz14 fz15 iz16 nz17 nz18 iz19 iz20 iz21 nz22 iz23 iz24 fz25=>.iv (.obj (decide (wI (iz2+1)<(↑nz4:Int))) (decide (0<=wI ((↑nz4:Int)-2)/\wI ((↑nz4:Int)-2)<(↑nz4:Int)/\nz4<=nz5)) (.obi (.obj (decide (wI (iz2+1)<(↑nz4:Int))) (decide ((wI ((↑nz4:Int)-2)).toNat<nz5)) (.iv (.obj (decide (wI (iz2+1)<(↑nz4:Int))) (decide (0<=wI ((↑nz4:Int)-1)/\wI ((↑nz4:Int)-1)<(↑nz4:Int)/\nz4<=nz5)) (.obi (.obj (decide (wI (iz2+1)<(↑nz4:Int))) (decide ((wI ((↑nz4:Int)-1)).toNat<nz5)) (.ii (.br (decide (wI (iz2+1)<(↑nz4:Int))) (.ob (decide (wI (iz2+1)<(↑nz4:Int))) (.ob (decide (wI (iz2+1)<(↑nz4:Int))) (.cb (.br (decide (gJ (aw (fz6 (wI ((↑nz4:Int)-2)).toNat)) (aW (fz6 (wI ((↑nz4:Int)-2)).toNat)) (aw (fz6 (wI ((↑nz4:Int)-1)).toNat)) (aW (fz6 (wI ((↑nz4:Int)-1)).toNat)) iz7 iz8<=0)) (.ob (decide (0<=wI ((↑nz4:Int)-1)/\wI ((↑nz4:Int)-1)<=(↑nz4:Int))) (.next (iR 0 17 []) (io.L25 iz0 nz1 iz2 (aa aJ fz3) ((wI ((↑nz4:Int)-1)).toNat) nz5 (aa aJ fz6) iz7 iz8 iz9 iz10 iz11 nz12 fz13 nz14 fz15 iz16 nz17 nz18 iz19 iz20 iz21 nz22 iz23 iz24 fz25) [⟨13,aJ,8,aa aJ fz3,aC rfl _ _⟩,⟨15,aJ,nz5,aa aJ fz6,aC rfl _ _⟩])) (.obt (.ob (decide (nz4<=nz5/\(nz4+1)*16<=140737488355328)&&!Nat.beq 16 0) (.next (iR 0 17 [some (some 18)]) (io.L26 (wI (0+1)) iz0 nz1 iz2 (aa aJ fz3) (nz4+1) iz7 iz8 (bh nz4 (aa aJ fz6) fun x=>[vi iz7,vi iz8]) iz9 iz10 iz11 nz12 fz13 nz14 nz5 fz15 iz16 nz17 nz18 iz19 iz20 iz21 nz22 iz23 iz24 fz25) [⟨13,aJ,8,aa aJ fz3,aC rfl _ _⟩,⟨17,aJ,nz4+1,bh nz4 (aa aJ fz6) fun x=>[vi iz7,vi iz8],eN (aC rfl _ _) (dN rfl _ rfl)⟩]))))))) (.obt (.ob (decide (nz4<=nz5/\(nz4+1)*16<=140737488355328)&&!Nat.beq 16 0) (.next (iR 0 17 [some (some 18)]) (io.L26 (wI (0+1)) iz0 nz1 iz2 (aa aJ fz3) (nz4+1) iz7 iz8 (bh nz4 (aa aJ fz6) fun x=>[vi iz7,vi iz8]) iz9 iz10 iz11 nz12 fz13 nz14 nz5 fz15 iz16 nz17 nz18 iz19 iz20 iz21 nz22 iz23 iz24 fz25) [⟨13,aJ,8,aa aJ fz3,aC rfl _ _⟩,⟨17,aJ,nz4+1,bh nz4 (aa aJ fz6) fun x=>[vi iz7,vi iz8],eN (aC rfl _ _) (dN rfl _ rfl)⟩]))))))))))))
 |.L26 iza0 iza1 nza2 iza3 fza4 nza5 iza6 iza7 fza8 iza9 iza10 iza11 nza12 fza13 nza14 nza15 fza16 iza17 nza18 nza19 iza20 iza21 iza22 nza23 iza24 iza25 fza26=>.br (decide (iza0<iza1)) (.ob (decide (0<=iza0/\iza0<(↑nza2:Int)/\nza2<=8)) (.ob (decide (iza0.toNat<8)) (.enter (iR 0 16 [some (some 18),some (some 17)]) (io.L27 (iza0) (iza1) (nza2) (iza3) (aa aJ fza4) (nza5) (aw (fza4 iza0.toNat)) (aW (fza4 iza0.toNat)) (nza5) (aa aJ fza8) (iza9) (iza10) (iza11) (nza12) (fza13) (nza14) (nza15) (fza16) (iza17) (nza18) (nza19) (iza20) (iza21) (iza22) (nza23) (iza24) (iza25) (fza26)) [⟨13,aJ,8,aa aJ fza4,aC rfl _ _⟩,⟨17,aJ,nza5,aa aJ fza8,aC rfl _ _⟩]))) (.ob (decide (0<=wI ((↑nza5:Int)-1)/\wI ((↑nza5:Int)-1)<=(↑nza5:Int))) (.enter [some (some 17),some (some 0)] (io.L5 0 ((↑(wI ((↑nza5:Int)-1)).toNat:Int)) ((wI ((↑nza5:Int)-1)).toNat) (decide (2<(↑(wI ((↑nza5:Int)-1)).toNat:Int))) (nza5) (aa aJ fza8)) [⟨0,aJ,nza5,aa aJ fza8,aC rfl _ _⟩]))
 |.L27 izb0 izb1 nzb2 izb3 fzb4 nzb5 izb6 izb7 nzb8 fzb9 izb10 izb11 izb12 nzb13 fzb14 nzb15 nzb16 fzb17 izb18 nzb19 nzb20 izb21 izb22 izb23 nzb24 izb25 izb26 fzb27=>.iv (.obj (decide (wI (izb3+1)<(↑nzb5:Int))) (decide (0<=wI ((↑nzb5:Int)-2)/\wI ((↑nzb5:Int)-2)<(↑nzb5:Int)/\nzb5<=nzb8)) (.obi (.obj (decide (wI (izb3+1)<(↑nzb5:Int))) (decide ((wI ((↑nzb5:Int)-2)).toNat<nzb8)) (.iv (.obj (decide (wI (izb3+1)<(↑nzb5:Int))) (decide (0<=wI ((↑nzb5:Int)-1)/\wI ((↑nzb5:Int)-1)<(↑nzb5:Int)/\nzb5<=nzb8)) (.obi (.obj (decide (wI (izb3+1)<(↑nzb5:Int))) (decide ((wI ((↑nzb5:Int)-1)).toNat<nzb8)) (.ii (.br (decide (wI (izb3+1)<(↑nzb5:Int))) (.ob (decide (wI (izb3+1)<(↑nzb5:Int))) (.ob (decide (wI (izb3+1)<(↑nzb5:Int))) (.cb (.br (decide (gJ (aw (fzb9 (wI ((↑nzb5:Int)-2)).toNat)) (aW (fzb9 (wI ((↑nzb5:Int)-2)).toNat)) (aw (fzb9 (wI ((↑nzb5:Int)-1)).toNat)) (aW (fzb9 (wI ((↑nzb5:Int)-1)).toNat)) izb6 izb7<=0)) (.ob (decide (0<=wI ((↑nzb5:Int)-1)/\wI ((↑nzb5:Int)-1)<=(↑nzb5:Int))) (.next (iR 0 18 []) (io.L27 (izb0) (izb1) (nzb2) (izb3) (aa aJ fzb4) ((wI ((↑nzb5:Int)-1)).toNat) (izb6) (izb7) (nzb8) (aa aJ fzb9) (izb10) (izb11) (izb12) (nzb13) (fzb14) (nzb15) (nzb16) (fzb17) (izb18) (nzb19) (nzb20) (izb21) (izb22) (izb23) (nzb24) (izb25) (izb26) (fzb27)) [⟨13,aJ,8,aa aJ fzb4,aC rfl _ _⟩,⟨17,aJ,nzb8,aa aJ fzb9,aC rfl _ _⟩])) (.obt (.ob (decide (nzb5<=nzb8/\(nzb5+1)*16<=140737488355328)&&!Nat.beq 16 0) (.next (iR 0 17 [some (some 19)]) (io.L26 (wI (izb0+1)) (izb1) (nzb2) (izb3) (aa aJ fzb4) (nzb5+1) (izb6) (izb7) (bh nzb5 (aa aJ fzb9) fun x=>[vi izb6,vi izb7]) (izb10) (izb11) (izb12) (nzb13) (fzb14) (nzb15) (nzb16) (fzb17) (izb18) (nzb19) (nzb20) (izb21) (izb22) (izb23) (nzb24) (izb25) (izb26) (fzb27)) [⟨13,aJ,8,aa aJ fzb4,aC rfl _ _⟩,⟨17,aJ,nzb5+1,bh nzb5 (aa aJ fzb9) fun x=>[vi izb6,vi izb7],eN (aC rfl _ _) (dN rfl _ rfl)⟩]))))))) (.obt (.ob (decide (nzb5<=nzb8/\(nzb5+1)*16<=140737488355328)&&!Nat.beq 16 0) (.next (iR 0 17 [some (some 19)]) (io.L26 (wI (izb0+1)) (izb1) (nzb2) (izb3) (aa aJ fzb4) (nzb5+1) (izb6) (izb7) (bh nzb5 (aa aJ fzb9) fun x=>[vi izb6,vi izb7]) (izb10) (izb11) (izb12) (nzb13) (fzb14) (nzb15) (nzb16) (fzb17) (izb18) (nzb19) (nzb20) (izb21) (izb22) (izb23) (nzb24) (izb25) (izb26) (fzb27)) [⟨13,aJ,8,aa aJ fzb4,aC rfl _ _⟩,⟨17,aJ,nzb5+1,bh nzb5 (aa aJ fzb9) fun x=>[vi izb6,vi izb7],eN (aC rfl _ _) (dN rfl _ rfl)⟩]))))))))))))
def m57:RT io:=dm (x5,x6,x7) (.br (b8) (.ret (V.kb false)) (.cb (.brt (.obt (.cb (.cb (.obt (.obt (.brt (.obt (.cb (.cb (.obt (.obt (.brt (.obt (.cb (.cb (.obt (.obt (.brt (.obt (.cb (.cb (.obt (.obt (.brf (.cb (.brt (.enter (iR 0 14 []) (io.L0 (wI (0+1)) (bh 6 (bh 4 (bh 2 (fun i=>List.take 2 (List.drop (i*2) [vi (bQ x0 x2 x9 x3),vi (bR x1 x2 x10 x3),vi (bQ x0 x2 x9 x4),vi (bR x1 x2 x10 x4)])) fun i=>List.take 2 (List.drop (i*2) [vi (bQ x0 x2 x11 x3),vi (bR x1 x2 x10 x3),vi (bQ x0 x2 x11 x4),vi (bR x1 x2 x10 x4)])) fun i=>List.take 2 (List.drop (i*2) [vi (bQ x0 x2 x11 x3),vi (bR x1 x2 x12 x3),vi (bQ x0 x2 x11 x4),vi (bR x1 x2 x12 x4)])) fun i=>List.take 2 (List.drop (i*2) [vi (bQ x0 x2 x9 x3),vi (bR x1 x2 x12 x3),vi (bQ x0 x2 x9 x4),vi (bR x1 x2 x12 x4)]))) [⟨13,aJ,8,bh 6 (bh 4 (bh 2 (fun i=>List.take 2 (List.drop (i*2) [vi (bQ x0 x2 x9 x3),vi (bR x1 x2 x10 x3),vi (bQ x0 x2 x9 x4),vi (bR x1 x2 x10 x4)])) fun i=>List.take 2 (List.drop (i*2) [vi (bQ x0 x2 x11 x3),vi (bR x1 x2 x10 x3),vi (bQ x0 x2 x11 x4),vi (bR x1 x2 x10 x4)])) fun i=>List.take 2 (List.drop (i*2) [vi (bQ x0 x2 x11 x3),vi (bR x1 x2 x12 x3),vi (bQ x0 x2 x11 x4),vi (bR x1 x2 x12 x4)])) fun i=>List.take 2 (List.drop (i*2) [vi (bQ x0 x2 x9 x3),vi (bR x1 x2 x12 x3),vi (bQ x0 x2 x9 x4),vi (bR x1 x2 x12 x4)]),ybg rfl rfl⟩]))))))))))))))))))))))))))))))
theorem alA:eS iI Eb (D57 x0 x1 x2 x3 x4 x5 x6 x7 b8 x9 x10 x11 x12) (alD x0 x1 x2 x3 x4 x5 x6 x7 b8 x9 x10 x11 x12) (m57 x0 x1 x2 x3 x4 x5 x6 x7 b8 x9 x10 x11 x12) (ed x0 x1 x2 x3 x4 x5 x6 x7 b8 x9 x10 x11 x12):=⟨bF,fun s=>by cases s<;>exact bF⟩
attribute [local irreducible] ja gJ qa
def pl57:List P2:=[(bQ x0 x2 x9 x3,bR x1 x2 x10 x3),(bQ x0 x2 x9 x4,bR x1 x2 x10 x4),(bQ x0 x2 x11 x3,bR x1 x2 x10 x3),(bQ x0 x2 x11 x4,bR x1 x2 x10 x4),(bQ x0 x2 x11 x3,bR x1 x2 x12 x3),(bQ x0 x2 x11 x4,bR x1 x2 x12 x4),(bQ x0 x2 x9 x3,bR x1 x2 x12 x3),(bQ x0 x2 x9 x4,bR x1 x2 x12 x4)]
def WY:Bool:=!b8&&cvB (pl57 x0 x1 x2 x3 x4 x9 x10 x11 x12) (x5,x6) x7
def NB:Prop:=(-100000<=x0/\x0<=100000)/\(-100000<=x1/\x1<=100000)/\(0<=x2/\x2<=200)/\(0<=x3/\x3<=200)/\(0<=x4/\x4<=200)/\sm x5/\sm x6/\(0<=x7/\x7<=1073741824)/\(-100000<=x9/\x9<=100000)/\(-100000<=x10/\x10<=100000)/\(-100000<=x11/\x11<=100000)/\(-100000<=x12/\x12<=100000)
theorem atS {l h n x:Int} (hl:-100000<=l/\l<=100000) (hh:0<=h/\h<=200) (hn:0<=n/\n<=200) (hx:-100000<=x/\x<=100000):bQ l h x n=h*l+n*(x-l)/\bR l h x n=h*l+n*(x-l)/\sm (h*l+n*(x-l)):=by
 have k1:=rv (x:=h) (y:=l) (A:=200) (B:=100000) (by omega) (by omega) (by omega) (by omega)
 have k2:=rv (x:=n) (y:=x-l) (A:=200) (B:=200000) (by omega) (by omega) (by omega) (by omega)
 unfold bQ bR bo bn
 rw [wrapI (x:=x-l) (by omega) (by omega),wrapI (x:=h*l) (by omega) (by omega),wrapI (x:=n*(x-l)) (by omega) (by omega),wrapI (x:=h*l+n*(x-l)) (by omega) (by omega)]
 exact ⟨rfl,rfl,by unfold sm;omega⟩
theorem Xb {x0 x1 x2 x3 x4 x5 x6 x7 x9 x10 x11 x12:Int} (h:NB x0 x1 x2 x3 x4 x5 x6 x7 x9 x10 x11 x12):∀ q∈pl57 x0 x1 x2 x3 x4 x9 x10 x11 x12,oB q:=by
 obtain ⟨h0,h1,h2,h3,h4,h5,h6,h7,h9,h10,h11,h12⟩:=h
 have k:∀ a b n:Int,(-100000<=a/\a<=100000)->(-100000<=b/\b<=100000)->(0<=n/\n<=200)->oB (bQ x0 x2 a n,bR x1 x2 b n):=fun a b n ha hb hn=>by
  have e1:=atS h0 h2 hn ha
  have e2:=atS h1 h2 hn hb
  exact ⟨by show sm (bQ x0 x2 a n);rw[e1.1];exact e1.2.2,by show sm (bR x1 x2 b n);rw[e2.2.1];exact e2.2.2⟩
 intro q hq
 simp only [pl57,ahG,ajR,or_false]at hq
 rcases hq with rfl|rfl|rfl|rfl|rfl|rfl|rfl|rfl
 ·exact k _ _ _ h9 h10 h3
 ·exact k _ _ _ h9 h10 h4
 ·exact k _ _ _ h11 h10 h3
 ·exact k _ _ _ h11 h10 h4
 ·exact k _ _ _ h11 h12 h3
 ·exact k _ _ _ h11 h12 h4
 ·exact k _ _ _ h9 h12 h3
 ·exact k _ _ _ h9 h12 h4
theorem an0 (hm:oB (x5,x6)) (h7:0<=x7) (h8:x7<=1073741824) {n cap:Nat} {fo:(Nat->List V)} (hc:n<=cap) (hC:cap<=100) (h1:1<=n) (hs:∀ k,k<n->oB (pq fo k)) :
 Ev (ed x0 x1 x2 x3 x4 x5 x6 x7 b8 x9 x10 x11 x12) (.L5 0 (n:Int) n (decide (2<(n:Int))) cap fo) (.bool (tpB (ptL n fo) (x5,x6) x7)):=by
 have key:∀ i,i<=n->∀ (b:Bool) (g:(Nat->List V)),(∀ k,pq g k=pq fo k)->(b=true↔2<n/\∀ k,k<i->0<Md (pq fo k) (pq fo ((k+1) % n)) (x5,x6))->(∀ k,k<i->nrp (pq fo k) (pq fo ((k+1) % n)) (x5,x6) x7=false)->Ev (ed x0 x1 x2 x3 x4 x5 x6 x7 b8 x9 x10 x11 x12) (.L5 (i:Int) (n:Int) n b cap g) (.bool (tpB (ptL n fo) (x5,x6) x7)):=by
  refine dO fun i hi ih b g hg hb hN=>?_
  by_cases hlt:i<n
  ·have hmod:(i+1) % n<n:=Nat.mod_lt _ (by omega)
   have e:(wI ((i:Int)+1)).tmod (n:Int)=(((i+1) % n:Nat):Int):=by
    rw [E6 (by omega)];exact(Int.ofNat_tmod _ _).symm
   have n1:ja (pq g i).1 (pq g i).2 (pq g ((i+1) % n)).1 (pq g ((i+1) % n)).2 x5 x6 x7=nrp (pq fo i) (pq fo ((i+1) % n)) (x5,x6) x7:=by
    rw [hg,hg];exact nrT (a:=pq fo i) (b:=pq fo ((i+1) % n)) (p:=(x5,x6)) (hs i hlt) (hs _ hmod) hm h7 h8
   have n2:gJ (pq g i).1 (pq g i).2 (pq g ((i+1) % n)).1 (pq g ((i+1) % n)).2 x5 x6=Md (pq fo i) (pq fo ((i+1) % n)) (x5,x6):=by
    rw [hg,hg];exact XZ (a:=pq fo i) (b:=pq fo ((i+1) % n)) (p:=(x5,x6)) (hs i hlt) (hs _ hmod) hm
   refine Ev.of rfl (cI (dqt (by omega)) (aD (dqt (by omega)) (aD (dqt (by omega)) (aD (dqt (by omega)) (aD (dqt (by rw[e];omega)) (aD (dqt (by rw[e];omega)) (au (evObt ?_))))))))
   have hstep:∀ b',(b'=true↔b=true/\0<Md (pq fo i) (pq fo ((i+1) % n)) (x5,x6))->nrp (pq fo i) (pq fo ((i+1) % n)) (x5,x6) x7=false->Ev (ed x0 x1 x2 x3 x4 x5 x6 x7 b8 x9 x10 x11 x12) (.L5 (wI ((i:Int)+1)) (n:Int) n b' cap (aa ty2 g)) (.bool (tpB (ptL n fo) (x5,x6) x7)):=fun b' hb' hn=>by
    rw [E6 (by omega)]
    refine ih hlt b' _ (fun k=>hg k) ?_ ?_
    ·rw [hb',hb]
     constructor
     ·rintro⟨⟨q1,q2⟩,q3⟩
      refine ⟨q1,fun k hk=>?_⟩
      by_cases ek:k=i
      ·rw[ek];exact q3
      ·exact q2 k (by omega)
     ·rintro⟨q1,q2⟩
      exact ⟨⟨q1,fun k hk=>q2 k (by omega)⟩,q2 i (by omega)⟩
    ·intro k hk
     by_cases ek:k=i
     ·rw[ek];exact hn
     ·exact hN k (by omega)
   have e':((wI ((i:Int)+1)).tmod (n:Int)).toNat=(i+1) % n:=by rw[e];rfl
   refine evBr (fun hx=>evRet ?_) (fun hx=>evObi (evBr (fun hb0=>aD hb0 (aD hb0 (au (evObt (aS ?_))))) (fun hb0=>aS ?_)))
   ·rw[e']at hx
    have hx:nrp (pq fo i) (pq fo ((i+1) % n)) (x5,x6) x7=true:=n1.symm.trans hx
    rw [acj (.inl ⟨i,by rw[di];exact hlt,by rw[di,fZ hlt,fZ hmod];exact hx⟩)];rfl
   ·rw[e']at hx ⊢
    refine hstep _ ?_ (n1.symm.trans hx)
    rw [abN]
    have n2':gJ (aw (g (i:Int).toNat)) (aW (g (i:Int).toNat)) (aw (g ((i+1) % n))) (aW (g ((i+1) % n))) x5 x6=_:=n2
    rw [n2']
    exact ⟨fun q=>⟨hb0,q⟩,fun q=>q.2⟩
   ·rw[e']at hx
    refine hstep _ ?_ (n1.symm.trans hx)
    rw [hb0]
    exact ⟨(fun q=>by cases q),fun q=>q.1⟩
  ·have ei:i=n:=by omega
   subst ei
   refine Ev.of rfl (cS (ef (by omega)) (evRet ?_))
   have : b=tpB (ptL i fo) (x5,x6) x7:=by
    cases hb':b with
    | true =>
      have:=hb.1 hb'
      refine (acj (.inr ⟨by rw[di];exact this.1,fun k hk=>?_⟩)).symm
      rw [di]at hk ⊢
      rw [fZ hk,fZ (Nat.mod_lt _ (by omega))]
      exact this.2 k hk
    | false =>
      refine (alK ?_).symm
      rintro (⟨k,hk,h⟩|⟨q1,q2⟩)
      ·rw[di]at hk h
       rw [fZ hk,fZ (Nat.mod_lt _ (by omega)),hN k hk]at h;cases h
      ·rw [di]at q1 q2
       have:=hb.2 ⟨q1,fun k hk=>by
        have:=q2 k hk
        rwa [fZ hk,fZ (Nat.mod_lt _ (by omega))]at this⟩
       rw [hb']at this;cases this
   rw [this]
 exact key 0 (acK _) _ fo (fun _=>rfl) ⟨fun h=>⟨by have:=abg h;omega,fun k hk=>by omega⟩,fun h=>dqt (by omega)⟩ (fun k hk=>by omega)
theorem akX {r:V} {D:P2->Prop} (hD:∀ q,D q->oB q) (h2:∀ f j g,Srt 8 f->kZ 8 D f->Ev (ed x0 x1 x2 x3 x4 x5 x6 x7 b8 x9 x10 x11 x12) (.L2 1 f j g) r) {f:(Nat->List V)} (hf:kZ 8 D f):Ev (ed x0 x1 x2 x3 x4 x5 x6 x7 b8 x9 x10 x11 x12) (.L0 1 f) r:=by
 refine wO (N:=8) (D:=D) (P0:=fun i f=>Ev (ed x0 x1 x2 x3 x4 x5 x6 x7 b8 x9 x10 x11 x12) (.L0 (i:Int) f) r) (P1:=fun j i f=>Ev (ed x0 x1 x2 x3 x4 x5 x6 x7 b8 x9 x10 x11 x12) (.L1 (j:Int) (i:Int) f) r) ?_ ?_ ?_ ?_ 7 1 f rfl (aaS _) (fun a b h1 h2=>by omega) hf
 ·intro i f h1 h2 h
  exact Ev.of rfl (cI (dqt (by omega)) (aM h))
 ·intro f hs hm
  exact Ev.of rfl (cS (ef (by omega)) (jR (aM (h2 _ _ _ hs hm))))
 ·intro j i f h0 hji hi hm hlt h
  have e:=xV h0 (by omega)
  have hC:decide (0<(j:Int))=true:=dqt (by omega)
  have hlt':=(anU (hD _ ((hm _).2 ⟨j,by omega,rfl⟩)) (hD _ ((hm _).2 ⟨j-1,by omega,rfl⟩))).2 hlt
  refine Ev.of rfl (evObi (evObi (d5 (fun _=>dqt (by first|omega|(rw[e];omega))) (evObi (d5 (fun _=>dqt (by first|omega|(rw[e];omega))) (evObi (evObi (evObi (d5 (fun _=>dqt (by first|omega|(rw[e];omega))) (evObi (d5 (fun _=>dqt (by first|omega|(rw[e];omega))) (cI hC (aD hC (aD hC (aD hC (au (evObt (cI ?_
   (aD (dqt (by first|omega|(rw[e];omega))) (aD (dqt (by first|omega|(rw[e];omega))) (aD (dqt (by first|omega|(rw[e];omega))) (aD (dqt (by first|omega|(rw[e];omega))) (aD (dqt (by first|omega|(rw[e];omega))) (aD (dqt (by first|omega|(rw[e];omega))) (aD (dqt (by first|omega|(rw[e];omega))) (aD (dqt (by first|omega|(rw[e];omega))) (aS ?_)))))))))))))))))))))))))))
  ·rw[e];exact hlt'
  ·rw[e];exact h
 ·intro j i f hji hi hm hn h
  have h':Ev (ed x0 x1 x2 x3 x4 x5 x6 x7 b8 x9 x10 x11 x12) (.L0 (wI ((i:Int)+1)) (aa ty2 f)) r:=by rw[E6 (by omega)];exact h
  by_cases h0:0<j
  ·have e:=xV h0 (by omega)
   have hC:decide (0<(j:Int))=true:=dqt (by omega)
   have hlt':=fun hh=>hn h0 ((anU (hD _ ((hm _).2 ⟨j,by omega,rfl⟩)) (hD _ ((hm _).2 ⟨j-1,by omega,rfl⟩))).1 hh)
   refine Ev.of rfl (evObi (evObi (d5 (fun _=>dqt (by first|omega|(rw[e];omega))) (evObi (d5 (fun _=>dqt (by first|omega|(rw[e];omega))) (evObi (evObi (evObi (d5 (fun _=>dqt (by first|omega|(rw[e];omega))) (evObi (d5 (fun _=>dqt (by first|omega|(rw[e];omega))) (cI hC (aD hC (aD hC (aD hC (au (evObt (cS ?_ (aS h')))))))))))))))))))
   rw [e];exact Bool.eq_false_iff.2 hlt'
  ·have hC:decide (0<(j:Int))=false:=ef (by omega)
   have hx:∀ {b:Bool},decide (0<(j:Int))=true->b=true:=fun hh=>by rw[hC]at hh;cases hh
   exact Ev.of rfl (evObi (evObi (d5 hx (evObi (d5 hx (evObi (evObi (evObi (d5 hx (evObi (d5 hx (cS hC (aS h')))))))))))))
theorem aka {r:V} {D:P2->Prop} (h4:∀ f j g,J5 8 f->kZ 8 D f->Ev (ed x0 x1 x2 x3 x4 x5 x6 x7 b8 x9 x10 x11 x12) (.L4 0 f 0 (fun _=>[]) j g) r) (h5:∀ m f,1<=m->m<3->J5 m f->kZ m D f->Ev (ed x0 x1 x2 x3 x4 x5 x6 x7 b8 x9 x10 x11 x12) (.L5 0 (m:Int) m (decide (2<(m:Int))) 8 f) r)
 (h12:∀ m f i n1 n2 i1 i2 i3 n3 i4 g,3<=m->m<8->J5 m f->kZ m D f->Ev (ed x0 x1 x2 x3 x4 x5 x6 x7 b8 x9 x10 x11 x12) (.L12 0 (m:Int) m f 0 (fun _=>[]) i n1 n2 i1 i2 i3 n3 i4 (m:Int) g) r) {f:(Nat->List V)} (j:Int) (g:(Nat->List V)) (hs:Srt 8 f) (hf:kZ 8 D f):Ev (ed x0 x1 x2 x3 x4 x5 x6 x7 b8 x9 x10 x11 x12) (.L2 1 f j g) r:=by
 refine CL (N:=8) (D:=D) (P2':=fun i f=>∀ j g,Ev (ed x0 x1 x2 x3 x4 x5 x6 x7 b8 x9 x10 x11 x12) (.L2 (i:Int) f j g) r) (P3:=fun k off m f=>∀ i1 i2 i3 n i4 i5 g,Ev (ed x0 x1 x2 x3 x4 x5 x6 x7 b8 x9 x10 x11 x12) (.L3 (k:Int) off (8-off) i1 i2 i3 n i4 (m:Int) f i5 g) r) ?_ ?_ ?_ ?_ ?_ ?_ 7 1 f rfl (aaS _) hs (fun a b h1 h2=>by omega) hf j g
 ·intro f hs hm j g
  exact Ev.of rfl (cS (ef (by omega)) (jR (aM (h4 _ _ _ hs hm))))
 ·intro i f h1 h8 hne h j g
  have e:=xV (show 0<i by omega) (by omega)
  refine Ev.of rfl (cI (dqt (by omega)) (aD (dqt (by first|omega|(rw[e];omega))) (aD (dqt (by first|omega|(rw[e];omega))) (aD (dqt (by first|omega|(rw[e];omega))) (aD (dqt (by first|omega|(rw[e];omega))) (cS ?_ (aS ?_)))))))
  ·rw[e];exact(eqB _ _ _ _).trans (ef hne)
  ·rw[E6 (by omega)];exact h j g
 ·intro i f h1 h8 he h j g
  have e:=xV (show 0<i by omega) (by omega)
  refine Ev.of rfl (cI (dqt (by omega)) (aD (dqt (by first|omega|(rw[e];omega))) (aD (dqt (by first|omega|(rw[e];omega))) (aD (dqt (by first|omega|(rw[e];omega))) (aD (dqt (by first|omega|(rw[e];omega))) (cI ?_ (aD (dqt (by omega)) (aM (h _ _ _ _ _ _ _)))))))))
  rw [e];exact(eqB _ _ _ _).trans (dqt he)
 ·intro k off m f h1 hN hm hmk hne h i1 i2 i3 n i4 i5 g
  have e:=xV (show 0<k by omega) (by omega)
  refine Ev.of rfl (cI (dqt (by omega)) (aD (dqt (by first|omega|(rw[e];omega))) (aD (dqt (by first|omega|(rw[e];omega))) (aD (dqt (by first|omega|(rw[e];omega))) (aD (dqt (by first|omega|(rw[e];omega))) (cI ?_ (aD (dqt (by first|omega|(rw[e];omega))) (aD (dqt (by first|omega|(rw[e];omega))) (aD (dqt (by first|omega|(rw[e];omega))) (aD (dqt (by first|omega|(rw[e];omega))) (aS ?_)))))))))))
  ·rw[e];exact ntT ((eqB _ _ _ _).trans (ef hne))
  ·rw[E6 (j:=k) (by omega),E6 (j:=m) (by omega)];exact h _ _ _ _ _ _ _
 ·intro k off m f h1 hN hm hmk he h i1 i2 i3 n i4 i5 g
  have e:=xV (show 0<k by omega) (by omega)
  refine Ev.of rfl (cI (dqt (by omega)) (aD (dqt (by first|omega|(rw[e];omega))) (aD (dqt (by first|omega|(rw[e];omega))) (aD (dqt (by first|omega|(rw[e];omega))) (aD (dqt (by first|omega|(rw[e];omega))) (cS ?_ (aS ?_)))))))
  ·rw[e];exact ntF ((eqB _ _ _ _).trans (dqt he))
  ·rw[E6 (j:=k) (by omega)];exact h _ _ _ _ _ _ _
 ·intro off m f hoff hm1 hmN hs hm i1 i2 i3 n i4 i5 g
  refine Ev.of rfl (cS (ef (by omega)) (aD (dqt (by omega)) (aD (dqt (by omega)) (aD (dqt (by omega)) (evBr (fun hh=>aM ?_) (fun hh=>aM ?_))))))
  ·have:=abg hh
   exact h5 m _ hm1 (by omega) (hs.cong fun k hk=>zY hk) (hm.cong fun k hk=>zY hk)
  ·have:=abu hh
   exact h12 m _ _ _ _ _ _ _ _ _ _ (by omega) hmN (hs.cong fun k hk=>zY hk) (hm.cong fun k hk=>zY hk)
theorem B1 {c:List P2} {i:Nat} (h:i<c.length):jk c i∈c:=by
 have:=xe h
 exact amg this
theorem sdX {fo:aL} {p:P2} {n:Nat} {s:Int} (w1:wI ((n:Int)-1)=((n-1:Nat):Int)) (w2:wI ((n:Int)-2)=((n-2:Nat):Int)) (e:gJ (pq fo (n-2)).1 (pq fo (n-2)).2 (pq fo (n-1)).1 (pq fo (n-1)).2 p.1 p.2=s) :
 decide (gJ (aw (fo (wI ((n:Int)-2)).toNat)) (aW (fo (wI ((n:Int)-2)).toNat)) (aw (fo (wI ((n:Int)-1)).toNat)) (aW (fo (wI ((n:Int)-1)).toNat)) p.1 p.2<=0)=decide (s<=0):=by
 rw [w1,w2,← e];rfl
theorem aqE {r:V} {c:List P2} {bl:Nat} {base:List P2} {f:(Nat->List V)} (hf:ptL 8 f=c) (hsm:∀ q∈c,oB q) (hb:∀ q∈base,oB q) (hbl:base.length=bl) (hb8:bl<=8)
 (h5:∀ n fo cap,n<=cap->cap<=100->ptL n fo=base++(cB [] c).tail.reverse->n=base.length+(cB [] c).tail.length->Ev (ed x0 x1 x2 x3 x4 x5 x6 x7 b8 x9 x10 x11 x12) (.L5 0 (n:Int) n (decide (2<(n:Int))) cap fo) r)
 {cap:Nat} {fo:(Nat->List V)} (hc:bl<=cap) (hcM:cap<=50) (hfo:ptL bl fo=base) (i5:Int) (i6:Int) (f7:(Nat->List V)) (f8:(Nat->List V)) (i9:Int) (f10:(Nat->List V)):Ev (ed x0 x1 x2 x3 x4 x5 x6 x7 b8 x9 x10 x11 x12) (.L18 (bl:Int) f bl cap fo i5 i6 f7 f8 i9 f10) r:=by
 have hcl:c.length=8:=by rw[← hf,di]
 have ew:=E6 (j:=bl) (by omega)
 have e0:wI (0+1)=((1:Nat):Int):=by rw[wrapI (by omega) (by omega)];rfl
 have at':∀ (g:(Nat->List V)),(∀ k,k<8->pq g k=pq f k)->∀ i,i<8->jk c i=pq g i:=fun g hg i hi=>by rw[hg i hi,← hf];exact fZ hi
 have key:=lQ (base:=base) (c:=c) (M:=bl+8) (by omega)
  (PO:=fun i n fo=>∀ (g:(Nat->List V)) (ix:Int) (iy:Int) (i7:Int) (i8:Int) (f9:(Nat->List V)) (n10:Nat) (n11:Nat) (f12:(Nat->List V)) (i13:Int) (f14:(Nat->List V)),(∀ k,k<8->pq g k=pq f k)->Ev (ed x0 x1 x2 x3 x4 x5 x6 x7 b8 x9 x10 x11 x12) (.L22 (i:Int) (bl:Int) g n ix iy fo i7 i8 f9 n10 n11 f12 i13 f14) r)
  (PI:=fun i n cap fo=>∀ (g:(Nat->List V)) (i7:Int) (i8:Int) (f9:(Nat->List V)) (n10:Nat) (n11:Nat) (f12:(Nat->List V)) (i13:Int) (f14:(Nat->List V)),(∀ k,k<8->pq g k=pq f k)->Ev (ed x0 x1 x2 x3 x4 x5 x6 x7 b8 x9 x10 x11 x12) (.L23 (i:Int) (bl:Int) g n (jk c i).1 (jk c i).2 cap fo i7 i8 f9 n10 n11 f12 i13 f14) r) ?_ ?_ ?_ ?_
 ·-- the first round
  obtain ⟨p,l,ec⟩:∃ p l,c=p::l:=by
   cases c with
   |nil=>simp at hcl
   |cons p l=>exact⟨p,l,rfl⟩
  have hp:pq f 0=p:=by
   have:=at' f (fun _ _=>rfl) 0 (by omega)
   rw [← this,ec];rfl
  subst hp
  have k1:=key l [pq f 0] [pq f 0] (bl+1) (bh bl (aa ty2 fo) fun _=>FQ (pq f 0)) (by rw[ec];rfl) (by rw[ec];rfl) (by rw[yan,hfo];rfl) (aaS _) (fun q hq=>by rw[ec];simp at hq;simp[hq])
  have T0:∀ (i7:Int) (i8:Int) (f9:(Nat->List V)) (n10:Nat) (f11:(Nat->List V)) (i12:Int) (f13:(Nat->List V)),Ev (ed x0 x1 x2 x3 x4 x5 x6 x7 b8 x9 x10 x11 x12) (.L20 (bl:Int) (aa ty2 f) bl cap (aa ty2 fo) (pq f 0).1 (pq f 0).2 i7 i8 f9 n10 f11 i12 f13) r:=by
   intro i7 i8 f9 n10 f11 i12 f13
   have hC:decide (wI ((bl:Int)+1)<(bl:Int))=false:=ef (by rw[ew];omega)
   have hx:∀ {P:Prop},decide (wI ((bl:Int)+1)<(bl:Int))=true->P:=fun hh=>by rw[hC]at hh;cases hh
   refine Ev.of rfl (gE hx hx hx fun _=>evObt (aD (lg hc (by omega)) (aS ?_)))
   rw [e0]
   exact k1 (aa ty2 f) _ _ _ _ _ _ _ _ _ _ (fun k hk=>rfl)
  exact Ev.of rfl (fE (evObt (evObt (aM (T0 _ _ _ _ _ _ _)))))
 ·intro i n fo hi hn h g ix iy i7 i8 f9 n10 n11 f12 i13 f14 hg
  rw [hcl]at hi
  have e:=at' g hg i hi
  have h':=h
  rw [e]at h'
  exact Ev.of rfl (cI (dqt (by omega)) (aD (dqt (by omega)) (aD (dqt (by omega)) (aM (h' (aa ty2 g) _ _ _ _ _ _ _ _ (fun k hk=>hg k hk))))))
 ·intro i n cap fo hi h1 h2 h3' hel hs h g i7 i8 f9 n10 n11 f12 i13 f14 hg
  have hb2:bl+1<n:=by rw[← hbl];exact h1
  have w1:=xV (j:=n) (by omega) (by omega)
  have w2:=wm2 (j:=n) (by omega) (by omega)
  have sm:∀ k,k<n->oB (pq fo k):=fun k hk=>(hel k hk).elim (hb _) (hsm _)
  have e3:=XZ (sm (n-2) (by omega)) (sm (n-1) (by omega)) (hsm (jk c i) (B1 hi))
  have hC:decide (wI ((bl:Int)+1)<(n:Int))=true:=dqt (by rw[ew];omega)
  have hS:=sdX (fo:=fo) (p:=jk c i) w1 w2 e3
  refine Ev.of rfl (gE (fun _=>⟨dqt (by rw[w2];omega),dqt (by rw[w2];omega),dqt (by rw[w1];omega),dqt (by rw[w1];omega)⟩) (fun _ _=>aD (dqt (by rw[w1];omega)) (aS ?_)) (fun _ hf=>by rw[hS,dqt hs]at hf;cases hf) (fun hf=>by rw[hC]at hf;cases hf))
  rw [w1];exact h (aa ty2 g) _ _ _ _ _ _ _ _ (fun k hk=>hg k hk)
 ·intro i n cap fo hi h1 hel hs h2 h3' h g i7 i8 f9 n10 n11 f12 i13 f14 hg
  have nx:∀ (_:Unit),Ev (ed x0 x1 x2 x3 x4 x5 x6 x7 b8 x9 x10 x11 x12) (.L22 (wI ((i:Int)+1)) (bl:Int) (aa ty2 g) (n+1) (jk c i).1 (jk c i).2 (bh n (aa ty2 fo) fun _=>FQ (jk c i)) i7 i8 f9 n10 n11 f12 i13 f14) r:=fun _=>by rw[E6 (j:=i) (by omega)];exact h (aa ty2 g) _ _ _ _ _ _ _ _ _ _ (fun k hk=>hg k hk)
  by_cases hb2:bl+1<n
  ·have w1:=xV (j:=n) (by omega) (by omega)
   have w2:=wm2 (j:=n) (by omega) (by omega)
   have sm:∀ k,k<n->oB (pq fo k):=fun k hk=>(hel k hk).elim (hb _) (hsm _)
   have e3:=XZ (sm (n-2) (by omega)) (sm (n-1) (by omega)) (hsm (jk c i) (B1 hi))
   have hC:decide (wI ((bl:Int)+1)<(n:Int))=true:=dqt (by rw[ew];omega)
   have hS:=sdX (fo:=fo) (p:=jk c i) w1 w2 e3
   have hs':=hs (by first|exact hb2|(rw[hbl];exact hb2))
   exact Ev.of rfl (gE (fun _=>⟨dqt (by rw[w2];omega),dqt (by rw[w2];omega),dqt (by rw[w1];omega),dqt (by rw[w1];omega)⟩) (fun _ hf=>by rw[hS,ef (by omega)]at hf;cases hf) (fun _ _=>evObt (aD (lg h2 (by omega)) (aS (nx ())))) (fun hf=>by rw[hC]at hf;cases hf))
  ·have hC:decide (wI ((bl:Int)+1)<(n:Int))=false:=ef (by rw[ew];omega)
   have hx:∀ {P:Prop},decide (wI ((bl:Int)+1)<(n:Int))=true->P:=fun hh=>by rw[hC]at hh;cases hh
   exact Ev.of rfl (gE hx hx hx fun _=>evObt (aD (lg h2 (by omega)) (aS (nx ()))))
 ·intro n fo hpt g ix iy i7 i8 f9 n10 n11 f12 i13 f14 hg
  rw [hcl]
  obtain ⟨q1,q2,q3,q4⟩:=qC hpt (lF (.inr (by intro h;rw[h]at hcl;simp at hcl)))
  have w1:=xV (j:=n) q1 (by have:=gm (l:=c) (st:=[]);simp only[ajG]at this;omega)
  have hl:=gm (l:=c) (st:=[])
  simp only [ajG]at hl
  have:=h5 (n-1) (aa ty2 fo) n (by omega) (by omega) q2 (by rw[aqk];omega)
  refine Ev.of rfl (cS (ef (by omega)) (aD (dqt (by rw[w1];omega)) (aM ?_)))
  rw [w1];exact this
theorem ars {r:V} {f:(Nat->List V)} (hS:J5 8 f) (hsm:∀ q∈ptL 8 f,oB q)
 (h5:∀ n fo cap,n<=cap->cap<=100->ptL n fo=js (ptL 8 f)->n=(js (ptL 8 f)).length->Ev (ed x0 x1 x2 x3 x4 x5 x6 x7 b8 x9 x10 x11 x12) (.L5 0 (n:Int) n (decide (2<(n:Int))) cap fo) r) (ia:Int) (fz:(Nat->List V)):Ev (ed x0 x1 x2 x3 x4 x5 x6 x7 b8 x9 x10 x11 x12) (.L4 0 f 0 (fun _=>[]) ia fz) r:=by
 generalize hc:ptL 8 f=c at *
 have hcl:c.length=8:=by rw[← hc,di]
 have e0:wI (0+1)=((1:Nat):Int):=by rw[wrapI (by omega) (by omega)];rfl
 have at':∀ (g:(Nat->List V)),(∀ k,k<8->pq g k=pq f k)->∀ i,i<8->jk c i=pq g i:=fun g hg i hi=>by rw[hg i hi,← hc];exact fZ hi
 have hlA:=gm (l:=c) (st:=[])
 simp only [ajG]at hlA
 have key:=lQ (base:=[]) (c:=c) (M:=8) (by simp;omega)
  (PO:=fun i n fo=>∀ (g:(Nat->List V)) (ia:Int) (fz:(Nat->List V)),(∀ k,k<8->pq g k=pq f k)->Ev (ed x0 x1 x2 x3 x4 x5 x6 x7 b8 x9 x10 x11 x12) (.L4 (i:Int) g n fo ia fz) r)
  (PI:=fun i n cap fo=>∀ (g:(Nat->List V)) (ia:Int) (fz:(Nat->List V)),(∀ k,k<8->pq g k=pq f k)->Ev (ed x0 x1 x2 x3 x4 x5 x6 x7 b8 x9 x10 x11 x12) (.L7 (i:Int) g n (jk c i).1 (jk c i).2 cap fo ia fz) r) ?_ ?_ ?_ ?_
 ·exact key c [] [] 0 (fun _=>[]) rfl rfl rfl (aaS _) (fun q hq=>by cases hq) f ia fz (fun _ _=>rfl)
 ·intro i n fo hi hn h g ia fz hg
  rw [hcl]at hi
  have e:=at' g hg i hi
  have h':=h
  rw [e]at h'
  exact Ev.of rfl (cI (dqt (by omega)) (aD (dqt (by omega)) (aD (dqt (by omega)) (aM (h' (aa ty2 g) _ _ (fun k hk=>hg k hk))))))
 ·intro i n cap fo hi h1 h2 h3' hel hs h g ia fz hg
  have hb2:0+1<n:=by simpa using h1
  have w1:=xV (j:=n) (by omega) (by omega)
  have w2:=wm2 (j:=n) (by omega) (by omega)
  have sm:∀ k,k<n->oB (pq fo k):=fun k hk=>(hel k hk).elim (fun h=>by cases h) (hsm _)
  have e3:=XZ (sm (n-2) (by omega)) (sm (n-1) (by omega)) (hsm (jk c i) (B1 hi))
  have hC:decide (wI (0+1)<(n:Int))=true:=dqt (by rw[e0];omega)
  have hS:=sdX (fo:=fo) (p:=jk c i) w1 w2 e3
  refine Ev.of rfl (gE (fun _=>⟨dqt (by rw[w2];omega),dqt (by rw[w2];omega),dqt (by rw[w1];omega),dqt (by rw[w1];omega)⟩) (fun _ _=>aD (dqt (by rw[w1];omega)) (aS ?_)) (fun _ hf=>by rw[hS,dqt hs]at hf;cases hf) (fun hf=>by rw[hC]at hf;cases hf))
  rw [w1];exact h (aa ty2 g) _ _ (fun k hk=>hg k hk)
 ·intro i n cap fo hi h1 hel hs h2 h3' h g ia fz hg
  have nx:∀ (_:Unit),Ev (ed x0 x1 x2 x3 x4 x5 x6 x7 b8 x9 x10 x11 x12) (.L4 (wI ((i:Int)+1)) (aa ty2 g) (n+1) (bh n (aa ty2 fo) fun _=>FQ (jk c i)) ia fz) r:=fun _=>by rw[E6 (j:=i) (by omega)];exact h (aa ty2 g) _ _ (fun k hk=>hg k hk)
  by_cases hb2:0+1<n
  ·have w1:=xV (j:=n) (by omega) (by omega)
   have w2:=wm2 (j:=n) (by omega) (by omega)
   have sm:∀ k,k<n->oB (pq fo k):=fun k hk=>(hel k hk).elim (fun h=>by cases h) (hsm _)
   have e3:=XZ (sm (n-2) (by omega)) (sm (n-1) (by omega)) (hsm (jk c i) (B1 hi))
   have hC:decide (wI (0+1)<(n:Int))=true:=dqt (by rw[e0];omega)
   have hS:=sdX (fo:=fo) (p:=jk c i) w1 w2 e3
   have hs':=hs (by simpa using hb2)
   exact Ev.of rfl (gE (fun _=>⟨dqt (by rw[w2];omega),dqt (by rw[w2];omega),dqt (by rw[w1];omega),dqt (by rw[w1];omega)⟩) (fun _ hf=>by rw[hS,ef (by omega)]at hf;cases hf) (fun _ _=>evObt (aD (lg h2 (by omega)) (aS (nx ())))) (fun hf=>by rw[hC]at hf;cases hf))
  ·have hC:decide (wI (0+1)<(n:Int))=false:=ef (by rw[e0];omega)
   have hx:∀ {P:Prop},decide (wI (0+1)<(n:Int))=true->P:=fun hh=>by rw[hC]at hh;cases hh
   exact Ev.of rfl (gE hx hx hx fun _=>evObt (aD (lg h2 (by omega)) (aS (nx ()))))
 ·intro n fo hpt g ia fz hg
  rw [hcl]
  obtain ⟨q1,q2,q3,q4⟩:=qC hpt (lF (.inr (by intro h;rw[h]at hcl;simp at hcl)))
  simp only [ajG,aeb,List.nil_append]at q2 q3
  have w1:=xV (j:=n) q1 (by omega)
  have wN:wI ((8:Int)-1)=((8-1:Nat):Int):=by rw[wrapI (by omega) (by omega)];rfl
  refine Ev.of rfl (cS (ef (by omega)) (aD (dqt (by rw[w1];omega)) (aM ?_)))
  rw [w1,wN]
  have rev:=BD (N:=8) (g:=pq f) (P:=fun i j f2=>∀ (fo2:(Nat->List V)) (ia:Int) (fz:(Nat->List V)),(∀ k,pq fo2 k=pq fo k)->Ev (ed x0 x1 x2 x3 x4 x5 x6 x7 b8 x9 x10 x11 x12) (.L13 (j:Int) (i:Int) f2 (n-1) n fo2 ia fz) r) ?_ ?_
  ·exact rev 8 0 (8-1) (aa ty2 g) (by omega) (by omega) (fun k hk=>by rw[aaT (by omega)];exact hg k hk) (aa ty2 fo) _ _ (fun _=>rfl)
  ·intro i j f2 hij hj h fo2 ia fz hfo2
   have v1:=xV (j:=j) (by omega) (by omega)
   have v2:=E6 (j:=i) (by omega)
   refine Ev.of rfl (cI (dqt (by omega)) (aD (dqt (by omega)) (aD (dqt (by omega)) (aD (dqt (by omega)) (aD (dqt (by omega)) (aD (dqt (by omega)) (aD (dqt (by omega)) (aD (dqt (by omega)) (aD (dqt (by omega)) (aS ?_))))))))))
   rw [v1,v2];exact h (aa ty2 fo2) _ _ (fun k=>hfo2 k)
  ·intro i j f2 hij hf2 fo2 ia fz hfo2
   have hb:ptL (n-1) fo2=(cB [] c).tail.reverse:=by rw[DT fun k _=>hfo2 k];exact q2
   have hrv:ptL 8 f2=c.reverse:=by rw[← hc];exact JU hf2
   have hlt:(cB [] c).tail.reverse.length=n-1:=by rw[ajP,aqk,← q3]
   have hu:js c=(cB [] c).tail.reverse++(cB [] c.reverse).tail.reverse:=CI (by omega)
   have hbs:∀ q∈(cB [] c).tail.reverse,oB q:=fun q hq=>by
    rcases jQ (aqu (List.mem_reverse.1 hq)) with h|h
    ·cases h
    ·exact hsm q h
   have fin:=aqE x0 x1 x2 x3 x4 x5 x6 x7 b8 x9 x10 x11 x12  (r:=r) (c:=c.reverse) (base:=(cB [] c).tail.reverse) (f:=aa ty2 f2) hrv (fun q hq=>hsm q (List.mem_reverse.1 hq)) hbs hlt (by omega) (fun n fo cap k1 k2 k3 k4=>h5 n fo cap k1 k2 (by rw[hu];exact k3) (by rw[hu,aft,k4];congr 1;exact(ajP ..).symm)) (cap:=n) (fo:=aa ty2 fo2) (by omega) (by omega) hb
   exact Ev.of rfl (cS (ef (by omega)) (aM (fin _ _ _ _ _ _)))
theorem arc {r:V} {N:Nat} {c:List P2} {bl:Nat} {base:List P2} {f:(Nat->List V)} (h3:3<=N) (h8:N<=8) (hf:ptL N f=c) (hsm:∀ q∈c,oB q) (hb:∀ q∈base,oB q) (hbl:base.length=bl) (hb8:bl<=8)
 (h5:∀ n fo cap,n<=cap->cap<=100->ptL n fo=base++(cB [] c).tail.reverse->n=base.length+(cB [] c).tail.length->Ev (ed x0 x1 x2 x3 x4 x5 x6 x7 b8 x9 x10 x11 x12) (.L5 0 (n:Int) n (decide (2<(n:Int))) cap fo) r)
 {cap:Nat} {fo:(Nat->List V)} (hc:bl<=cap) (hcM:cap<=50) (hfo:ptL bl fo=base) (i7:Int) (i8:Int) (i9:Int) (n10:Nat) (f11:(Nat->List V)) (f12:(Nat->List V)) (i13:Int) (n14:Nat) (n15:Nat) (i16:Int) (i17:Int) (i18:Int) (n19:Nat) (i20:Int) (i21:Int) (f22:(Nat->List V)):Ev (ed x0 x1 x2 x3 x4 x5 x6 x7 b8 x9 x10 x11 x12) (.L24 (N:Int) N (bl:Int) f bl cap fo i7 i8 i9 n10 f11 f12 i13 n14 n15 i16 i17 i18 n19 i20 i21 f22) r:=by
 have hcl:c.length=N:=by rw[← hf,di]
 have ew:=E6 (j:=bl) (by omega)
 have e0:wI (0+1)=((1:Nat):Int):=by rw[wrapI (by omega) (by omega)];rfl
 have at':∀ (g:(Nat->List V)),(∀ k,k<N->pq g k=pq f k)->∀ i,i<N->jk c i=pq g i:=fun g hg i hi=>by rw[hg i hi,← hf];exact fZ hi
 have key:=lQ (base:=base) (c:=c) (M:=bl+8) (by omega)
  (PO:=fun i n fo=>∀ (g:(Nat->List V)) (ix:Int) (iy:Int) (i09:Int) (i10:Int) (i11:Int) (n12:Nat) (f13:(Nat->List V)) (n14:Nat) (n15:Nat) (f16:(Nat->List V)) (i17:Int) (n18:Nat) (n19:Nat) (i20:Int) (i21:Int) (i22:Int) (n23:Nat) (i24:Int) (i25:Int) (f26:(Nat->List V)),(∀ k,k<N->pq g k=pq f k)->Ev (ed x0 x1 x2 x3 x4 x5 x6 x7 b8 x9 x10 x11 x12) (.L26 (i:Int) (N:Int) N (bl:Int) g n ix iy fo i09 i10 i11 n12 f13 n14 n15 f16 i17 n18 n19 i20 i21 i22 n23 i24 i25 f26) r)
  (PI:=fun i n cap fo=>∀ (g:(Nat->List V)) (i09:Int) (i10:Int) (i11:Int) (n12:Nat) (f13:(Nat->List V)) (n14:Nat) (n15:Nat) (f16:(Nat->List V)) (i17:Int) (n18:Nat) (n19:Nat) (i20:Int) (i21:Int) (i22:Int) (n23:Nat) (i24:Int) (i25:Int) (f26:(Nat->List V)),(∀ k,k<N->pq g k=pq f k)->Ev (ed x0 x1 x2 x3 x4 x5 x6 x7 b8 x9 x10 x11 x12) (.L27 (i:Int) (N:Int) N (bl:Int) g n (jk c i).1 (jk c i).2 cap fo i09 i10 i11 n12 f13 n14 n15 f16 i17 n18 n19 i20 i21 i22 n23 i24 i25 f26) r) ?_ ?_ ?_ ?_
 ·-- the first round
  obtain ⟨p,l,ec⟩:∃ p l,c=p::l:=by
   cases c with
   |nil=>simp at hcl;omega
   |cons p l=>exact⟨p,l,rfl⟩
  have hp:pq f 0=p:=by
   have:=at' f (fun _ _=>rfl) 0 (by omega)
   rw [← this,ec];rfl
  subst hp
  have k1:=key l [pq f 0] [pq f 0] (bl+1) (bh bl (aa ty2 fo) fun _=>FQ (pq f 0)) (by rw[ec];rfl) (by rw[ec];rfl) (by rw[yan,hfo];rfl) (aaS _) (fun q hq=>by rw[ec];simp at hq;simp[hq])
  have T0:∀ (i09:Int) (i10:Int) (i11:Int) (n12:Nat) (f13:(Nat->List V)) (n14:Nat) (f15:(Nat->List V)) (i16:Int) (n17:Nat) (n18:Nat) (i19:Int) (i20:Int) (i21:Int) (n22:Nat) (i23:Int) (i24:Int) (f25:(Nat->List V)),Ev (ed x0 x1 x2 x3 x4 x5 x6 x7 b8 x9 x10 x11 x12) (.L25 (N:Int) N (bl:Int) (aa ty2 f) bl cap (aa ty2 fo) (pq f 0).1 (pq f 0).2 i09 i10 i11 n12 f13 n14 f15 i16 n17 n18 i19 i20 i21 n22 i23 i24 f25) r:=by
   intro i09 i10 i11 n12 f13 n14 f15 i16 n17 n18 i19 i20 i21 n22 i23 i24 f25
   have hC:decide (wI ((bl:Int)+1)<(bl:Int))=false:=ef (by rw[ew];omega)
   have hx:∀ {P:Prop},decide (wI ((bl:Int)+1)<(bl:Int))=true->P:=fun hh=>by rw[hC]at hh;cases hh
   refine Ev.of rfl (gE hx hx hx fun _=>evObt (aD (lg hc (by omega)) (aS ?_)))
   rw [e0]
   exact k1 (aa ty2 f) _ _ _ _ _ _ _ _ _ _ _ _ _ _ _ _ _ _ _ _ (fun k hk=>rfl)
  exact Ev.of rfl (cI (dqt (by omega)) (aD (dqt (by omega)) (evObt (aM (T0 _ _ _ _ _ _ _ _ _ _ _ _ _ _ _ _ _)))))
 ·intro i n fo hi hn h g ix iy i09 i10 i11 n12 f13 n14 n15 f16 i17 n18 n19 i20 i21 i22 n23 i24 i25 f26 hg
  rw [hcl]at hi
  have e:=at' g hg i hi
  have h':=h
  rw [e]at h'
  exact Ev.of rfl (cI (dqt (by omega)) (aD (dqt (by omega)) (aD (dqt (by omega)) (aM (h' (aa ty2 g) _ _ _ _ _ _ _ _ _ _ _ _ _ _ _ _ _ _ (fun k hk=>hg k hk))))))
 ·intro i n cap fo hi h1 h2 h3' hel hs h g i09 i10 i11 n12 f13 n14 n15 f16 i17 n18 n19 i20 i21 i22 n23 i24 i25 f26 hg
  have hb2:bl+1<n:=by rw[← hbl];exact h1
  have w1:=xV (j:=n) (by omega) (by omega)
  have w2:=wm2 (j:=n) (by omega) (by omega)
  have sm:∀ k,k<n->oB (pq fo k):=fun k hk=>(hel k hk).elim (hb _) (hsm _)
  have e3:=XZ (sm (n-2) (by omega)) (sm (n-1) (by omega)) (hsm (jk c i) (B1 hi))
  have hC:decide (wI ((bl:Int)+1)<(n:Int))=true:=dqt (by rw[ew];omega)
  have hS:=sdX (fo:=fo) (p:=jk c i) w1 w2 e3
  refine Ev.of rfl (gE (fun _=>⟨dqt (by rw[w2];omega),dqt (by rw[w2];omega),dqt (by rw[w1];omega),dqt (by rw[w1];omega)⟩) (fun _ _=>aD (dqt (by rw[w1];omega)) (aS ?_)) (fun _ hf=>by rw[hS,dqt hs]at hf;cases hf) (fun hf=>by rw[hC]at hf;cases hf))
  rw [w1];exact h (aa ty2 g) _ _ _ _ _ _ _ _ _ _ _ _ _ _ _ _ _ _ (fun k hk=>hg k hk)
 ·intro i n cap fo hi h1 hel hs h2 h3' h g i09 i10 i11 n12 f13 n14 n15 f16 i17 n18 n19 i20 i21 i22 n23 i24 i25 f26 hg
  have nx:∀ (_:Unit),Ev (ed x0 x1 x2 x3 x4 x5 x6 x7 b8 x9 x10 x11 x12) (.L26 (wI ((i:Int)+1)) (N:Int) N (bl:Int) (aa ty2 g) (n+1) (jk c i).1 (jk c i).2 (bh n (aa ty2 fo) fun _=>FQ (jk c i)) i09 i10 i11 n12 f13 n14 n15 f16 i17 n18 n19 i20 i21 i22 n23 i24 i25 f26) r:=fun _=>by rw[E6 (j:=i) (by omega)];exact h (aa ty2 g) _ _ _ _ _ _ _ _ _ _ _ _ _ _ _ _ _ _ _ _ (fun k hk=>hg k hk)
  by_cases hb2:bl+1<n
  ·have w1:=xV (j:=n) (by omega) (by omega)
   have w2:=wm2 (j:=n) (by omega) (by omega)
   have sm:∀ k,k<n->oB (pq fo k):=fun k hk=>(hel k hk).elim (hb _) (hsm _)
   have e3:=XZ (sm (n-2) (by omega)) (sm (n-1) (by omega)) (hsm (jk c i) (B1 hi))
   have hC:decide (wI ((bl:Int)+1)<(n:Int))=true:=dqt (by rw[ew];omega)
   have hS:=sdX (fo:=fo) (p:=jk c i) w1 w2 e3
   have hs':=hs (by first|exact hb2|(rw[hbl];exact hb2))
   exact Ev.of rfl (gE (fun _=>⟨dqt (by rw[w2];omega),dqt (by rw[w2];omega),dqt (by rw[w1];omega),dqt (by rw[w1];omega)⟩) (fun _ hf=>by rw[hS,ef (by omega)]at hf;cases hf) (fun _ _=>evObt (aD (lg h2 (by omega)) (aS (nx ())))) (fun hf=>by rw[hC]at hf;cases hf))
  ·have hC:decide (wI ((bl:Int)+1)<(n:Int))=false:=ef (by rw[ew];omega)
   have hx:∀ {P:Prop},decide (wI ((bl:Int)+1)<(n:Int))=true->P:=fun hh=>by rw[hC]at hh;cases hh
   exact Ev.of rfl (gE hx hx hx fun _=>evObt (aD (lg h2 (by omega)) (aS (nx ()))))
 ·intro n fo hpt g ix iy i09 i10 i11 n12 f13 n14 n15 f16 i17 n18 n19 i20 i21 i22 n23 i24 i25 f26 hg
  rw [hcl]
  obtain ⟨q1,q2,q3,q4⟩:=qC hpt (lF (.inr (by intro h;rw[h]at hcl;simp at hcl;omega)))
  have w1:=xV (j:=n) q1 (by have:=gm (l:=c) (st:=[]);simp only[ajG]at this;omega)
  have hl:=gm (l:=c) (st:=[])
  simp only [ajG]at hl
  have:=h5 (n-1) (aa ty2 fo) n (by omega) (by omega) q2 (by rw[aqk];omega)
  refine Ev.of rfl (cS (ef (by omega)) (aD (dqt (by rw[w1];omega)) (aM ?_)))
  rw [w1];exact this
theorem aqS {r:V} {N:Nat} {f:(Nat->List V)} (h3:3<=N) (h8:N<=8) (hS:J5 N f) (hsm:∀ q∈ptL N f,oB q)
 (h5:∀ n fo cap,n<=cap->cap<=100->ptL n fo=js (ptL N f)->n=(js (ptL N f)).length->Ev (ed x0 x1 x2 x3 x4 x5 x6 x7 b8 x9 x10 x11 x12) (.L5 0 (n:Int) n (decide (2<(n:Int))) cap fo) r) (ia:Int) (na:Nat) (nb:Nat) (ib:Int) (ic:Int) (id:Int) (nc:Nat) (ie:Int) (fz:(Nat->List V)):Ev (ed x0 x1 x2 x3 x4 x5 x6 x7 b8 x9 x10 x11 x12) (.L12 0 (N:Int) N f 0 (fun _=>[]) ia na nb ib ic id nc ie (N:Int) fz) r:=by
 generalize hc:ptL N f=c at *
 have hcl:c.length=N:=by rw[← hc,di]
 have e0:wI (0+1)=((1:Nat):Int):=by rw[wrapI (by omega) (by omega)];rfl
 have at':∀ (g:(Nat->List V)),(∀ k,k<N->pq g k=pq f k)->∀ i,i<N->jk c i=pq g i:=fun g hg i hi=>by rw[hg i hi,← hc];exact fZ hi
 have hlA:=gm (l:=c) (st:=[])
 simp only [ajG]at hlA
 have key:=lQ (base:=[]) (c:=c) (M:=8) (by simp;omega)
  (PO:=fun i n fo=>∀ (g:(Nat->List V)) (ia:Int) (na:Nat) (nb:Nat) (ib:Int) (ic:Int) (id:Int) (nc:Nat) (ie:Int) (fz:(Nat->List V)),(∀ k,k<N->pq g k=pq f k)->Ev (ed x0 x1 x2 x3 x4 x5 x6 x7 b8 x9 x10 x11 x12) (.L12 (i:Int) (N:Int) N g n fo ia na nb ib ic id nc ie (N:Int) fz) r)
  (PI:=fun i n cap fo=>∀ (g:(Nat->List V)) (ia:Int) (na:Nat) (nb:Nat) (ib:Int) (ic:Int) (id:Int) (nc:Nat) (ie:Int) (fz:(Nat->List V)),(∀ k,k<N->pq g k=pq f k)->Ev (ed x0 x1 x2 x3 x4 x5 x6 x7 b8 x9 x10 x11 x12) (.L14 (i:Int) (N:Int) N g n (jk c i).1 (jk c i).2 cap fo ia na nb ib ic id nc ie (N:Int) fz) r) ?_ ?_ ?_ ?_
 ·exact key c [] [] 0 (fun _=>[]) rfl rfl rfl (aaS _) (fun q hq=>by cases hq) f ia na nb ib ic id nc ie fz (fun _ _=>rfl)
 ·intro i n fo hi hn h g ia na nb ib ic id nc ie fz hg
  rw [hcl]at hi
  have e:=at' g hg i hi
  have h':=h
  rw [e]at h'
  exact Ev.of rfl (cI (dqt (by omega)) (aD (dqt (by omega)) (aD (dqt (by omega)) (aM (h' (aa ty2 g) _ _ _ _ _ _ _ _ _ (fun k hk=>hg k hk))))))
 ·intro i n cap fo hi h1 h2 h3' hel hs h g ia na nb ib ic id nc ie fz hg
  have hb2:0+1<n:=by simpa using h1
  have w1:=xV (j:=n) (by omega) (by omega)
  have w2:=wm2 (j:=n) (by omega) (by omega)
  have sm:∀ k,k<n->oB (pq fo k):=fun k hk=>(hel k hk).elim (fun h=>by cases h) (hsm _)
  have e3:=XZ (sm (n-2) (by omega)) (sm (n-1) (by omega)) (hsm (jk c i) (B1 hi))
  have hC:decide (wI (0+1)<(n:Int))=true:=dqt (by rw[e0];omega)
  have hS:=sdX (fo:=fo) (p:=jk c i) w1 w2 e3
  refine Ev.of rfl (gE (fun _=>⟨dqt (by rw[w2];omega),dqt (by rw[w2];omega),dqt (by rw[w1];omega),dqt (by rw[w1];omega)⟩) (fun _ _=>aD (dqt (by rw[w1];omega)) (aS ?_)) (fun _ hf=>by rw[hS,dqt hs]at hf;cases hf) (fun hf=>by rw[hC]at hf;cases hf))
  rw [w1];exact h (aa ty2 g) _ _ _ _ _ _ _ _ _ (fun k hk=>hg k hk)
 ·intro i n cap fo hi h1 hel hs h2 h3' h g ia na nb ib ic id nc ie fz hg
  have nx:∀ (_:Unit),Ev (ed x0 x1 x2 x3 x4 x5 x6 x7 b8 x9 x10 x11 x12) (.L12 (wI ((i:Int)+1)) (N:Int) N (aa ty2 g) (n+1) (bh n (aa ty2 fo) fun _=>FQ (jk c i)) ia na nb ib ic id nc ie (N:Int) fz) r:=fun _=>by rw[E6 (j:=i) (by omega)];exact h (aa ty2 g) _ _ _ _ _ _ _ _ _ (fun k hk=>hg k hk)
  by_cases hb2:0+1<n
  ·have w1:=xV (j:=n) (by omega) (by omega)
   have w2:=wm2 (j:=n) (by omega) (by omega)
   have sm:∀ k,k<n->oB (pq fo k):=fun k hk=>(hel k hk).elim (fun h=>by cases h) (hsm _)
   have e3:=XZ (sm (n-2) (by omega)) (sm (n-1) (by omega)) (hsm (jk c i) (B1 hi))
   have hC:decide (wI (0+1)<(n:Int))=true:=dqt (by rw[e0];omega)
   have hS:=sdX (fo:=fo) (p:=jk c i) w1 w2 e3
   have hs':=hs (by simpa using hb2)
   exact Ev.of rfl (gE (fun _=>⟨dqt (by rw[w2];omega),dqt (by rw[w2];omega),dqt (by rw[w1];omega),dqt (by rw[w1];omega)⟩) (fun _ hf=>by rw[hS,ef (by omega)]at hf;cases hf) (fun _ _=>evObt (aD (lg h2 (by omega)) (aS (nx ())))) (fun hf=>by rw[hC]at hf;cases hf))
  ·have hC:decide (wI (0+1)<(n:Int))=false:=ef (by rw[e0];omega)
   have hx:∀ {P:Prop},decide (wI (0+1)<(n:Int))=true->P:=fun hh=>by rw[hC]at hh;cases hh
   exact Ev.of rfl (gE hx hx hx fun _=>evObt (aD (lg h2 (by omega)) (aS (nx ()))))
 ·intro n fo hpt g ia na nb ib ic id nc ie fz hg
  rw [hcl]
  obtain ⟨q1,q2,q3,q4⟩:=qC hpt (lF (.inr (by intro h;rw[h]at hcl;simp at hcl;omega)))
  simp only [ajG,aeb,List.nil_append]at q2 q3
  have w1:=xV (j:=n) q1 (by omega)
  have wN:wI ((((N:Int)).toNat:Int)-1)=((N-1:Nat):Int):=by exact xV (by omega) (by omega)
  refine Ev.of rfl (cS (ef (by omega)) (aD (dqt (by rw[w1];omega)) (aM ?_)))
  rw [w1,wN]
  have rev:=BD (N:=N) (g:=pq f) (P:=fun i j f2=>∀ (fo2:(Nat->List V)) (ia:Int) (na:Nat) (nb:Nat) (ib:Int) (ic:Int) (id:Int) (nc:Nat) (ie:Int) (fz:(Nat->List V)),(∀ k,pq fo2 k=pq fo k)->Ev (ed x0 x1 x2 x3 x4 x5 x6 x7 b8 x9 x10 x11 x12) (.L15 (j:Int) (i:Int) (N:Int) N f2 (n-1) n fo2 ia na nb ib ic id nc ie (N:Int) fz) r) ?_ ?_
  ·exact rev N 0 (N-1) (aa ty2 g) (by omega) (by omega) (fun k hk=>by rw[aaT (by omega)];exact hg k hk) (aa ty2 fo) _ _ _ _ _ _ _ _ _ (fun _=>rfl)
  ·intro i j f2 hij hj h fo2 ia na nb ib ic id nc ie fz hfo2
   have v1:=xV (j:=j) (by omega) (by omega)
   have v2:=E6 (j:=i) (by omega)
   refine Ev.of rfl (cI (dqt (by omega)) (aD (dqt (by omega)) (aD (dqt (by omega)) (aD (dqt (by omega)) (aD (dqt (by omega)) (aD (dqt (by omega)) (aD (dqt (by omega)) (aD (dqt (by omega)) (aD (dqt (by omega)) (aS ?_))))))))))
   rw [v1,v2];exact h (aa ty2 fo2) _ _ _ _ _ _ _ _ _ (fun k=>hfo2 k)
  ·intro i j f2 hij hf2 fo2 ia na nb ib ic id nc ie fz hfo2
   have hb:ptL (n-1) fo2=(cB [] c).tail.reverse:=by rw[DT fun k _=>hfo2 k];exact q2
   have hrv:ptL N f2=c.reverse:=by rw[← hc];exact JU hf2
   have hlt:(cB [] c).tail.reverse.length=n-1:=by rw[ajP,aqk,← q3]
   have hu:js c=(cB [] c).tail.reverse++(cB [] c.reverse).tail.reverse:=CI (by omega)
   have hbs:∀ q∈(cB [] c).tail.reverse,oB q:=fun q hq=>by
    rcases jQ (aqu (List.mem_reverse.1 hq)) with h|h
    ·cases h
    ·exact hsm q h
   have fin:=arc x0 x1 x2 x3 x4 x5 x6 x7 b8 x9 x10 x11 x12 h3 h8 (r:=r) (c:=c.reverse) (base:=(cB [] c).tail.reverse) (f:=aa ty2 f2) hrv (fun q hq=>hsm q (List.mem_reverse.1 hq)) hbs hlt (by omega) (fun n fo cap k1 k2 k3 k4=>h5 n fo cap k1 k2 (by rw[hu];exact k3) (by rw[hu,aft,k4];congr 1;exact(ajP ..).symm)) (cap:=n) (fo:=aa ty2 fo2) (by omega) (by omega) hb
   exact Ev.of rfl (cS (ef (by omega)) (aM (fin _ _ _ _ _ _ _ _ _ _ _ _ _ _ _ _)))
theorem Tf (hm:oB (x5,x6)) (h7:0<=x7) (h8:x7<=1073741824) {L:List P2} (hL:∀ q∈L,oB q) {m:Nat} {f:(Nat->List V)} (h1:1<=m) (hs:J5 m f) (hf:kZ m (fun q=>q∈L) f) {n cap:Nat} {fo:(Nat->List V)} (k1:n<=cap) (k2:cap<=100) (k3:ptL n fo=js (ptL m f)) (k4:n=(js (ptL m f)).length) :
 Ev (ed x0 x1 x2 x3 x4 x5 x6 x7 b8 x9 x10 x11 x12) (.L5 0 (n:Int) n (decide (2<(n:Int))) cap fo) (.bool (cvB L (x5,x6) x7)):=by
 have hmem:∀ q,q∈L↔q∈ptL m f:=fun q=>(hf q).trans qD.symm
 have hne:ptL m f≠[]:=fun h=>by have:=di m f;rw[h]at this;simp at this;omega
 have:=an0 x0 x1 x2 x3 x4 x5 x6 x7 b8 x9 x10 x11 x12 hm h7 h8 k1 k2 (by have:=K7 (Ph hs) hne;omega) (fun k hk=>hL _ ((hmem _).2 (KL (by rw[← k3];exact qD.2 ⟨k,hk,rfl⟩))))
 rw [k3,agx (Ph hs) hmem]at this
 exact this
theorem ak8 (hb:b8=false) (hin:NB x0 x1 x2 x3 x4 x5 x6 x7 x9 x10 x11 x12) {f:(Nat->List V)} (hf:ptL 8 f=pl57 x0 x1 x2 x3 x4 x9 x10 x11 x12):Ev (ed x0 x1 x2 x3 x4 x5 x6 x7 b8 x9 x10 x11 x12) (.L0 1 f) (.bool (WY x0 x1 x2 x3 x4 x5 x6 x7 b8 x9 x10 x11 x12)):=by
 have hF:WY x0 x1 x2 x3 x4 x5 x6 x7 b8 x9 x10 x11 x12=cvB (pl57 x0 x1 x2 x3 x4 x9 x10 x11 x12) (x5,x6) x7:=by unfold WY;rw[hb];rfl
 rw [hF]
 have hL:=Xb hin
 have hm:oB (x5,x6):=⟨hin.2.2.2.2.2.1,hin.2.2.2.2.2.2.1⟩
 have h7:=hin.2.2.2.2.2.2.2.1
 have sml:∀ {m:Nat} {f:(Nat->List V)},kZ m (fun q=>q∈pl57 x0 x1 x2 x3 x4 x9 x10 x11 x12) f->∀ q∈ptL m f,oB q:=fun hm q hq=>hL q ((hm q).2 (qD.1 hq))
 refine akX x0 x1 x2 x3 x4 x5 x6 x7 b8 x9 x10 x11 x12 (D:=fun q=>q∈pl57 x0 x1 x2 x3 x4 x9 x10 x11 x12) hL (fun f j g hs hmm=>aka x0 x1 x2 x3 x4 x5 x6 x7 b8 x9 x10 x11 x12 ?_ ?_ ?_ j g hs hmm) (fun q=>by rw[← hf];exact qD)
 ·exact fun f j g hs hmm=>ars x0 x1 x2 x3 x4 x5 x6 x7 b8 x9 x10 x11 x12 hs (sml hmm) (fun n fo cap k1 k2 k3 k4=>Tf x0 x1 x2 x3 x4 x5 x6 x7 b8 x9 x10 x11 x12 hm h7.1 h7.2 hL (by omega) hs hmm k1 k2 k3 k4) j g
 ·exact fun m f h1 h3 hs hmm=>Tf x0 x1 x2 x3 x4 x5 x6 x7 b8 x9 x10 x11 x12 hm h7.1 h7.2 hL h1 hs hmm (n:=m) (by omega) (by omega) (acT (by rw[di];exact h3)).symm (by rw[acT (by rw[di];exact h3),di])
 ·exact fun m f i n1 n2 i1 i2 i3 n3 i4 g h3 h8 hs hmm=>aqS x0 x1 x2 x3 x4 x5 x6 x7 b8 x9 x10 x11 x12 h3 (by omega) hs (sml hmm) (fun n fo cap k1 k2 k3 k4=>Tf x0 x1 x2 x3 x4 x5 x6 x7 b8 x9 x10 x11 x12 hm h7.1 h7.2 hL (by omega) hs hmm k1 k2 k3 k4) i n1 n2 i1 i2 i3 n3 i4 g
theorem apT (hp:b8=false->NB x0 x1 x2 x3 x4 x5 x6 x7 x9 x10 x11 x12):aX (Ev (ed x0 x1 x2 x3 x4 x5 x6 x7 b8 x9 x10 x11 x12)) (m57 x0 x1 x2 x3 x4 x5 x6 x7 b8 x9 x10 x11 x12) (.bool (WY x0 x1 x2 x3 x4 x5 x6 x7 b8 x9 x10 x11 x12)):=by
 refine evBr (fun h=>evRet ?_) (fun h=>?_)
 ·have:WY x0 x1 x2 x3 x4 x5 x6 x7 b8 x9 x10 x11 x12=false:=by unfold WY;rw[h];rfl
  rw [this];rfl
 ·have e1:wI (0+1)=1:=by rw[wrapI (by omega) (by omega)];rfl
  repeat (first|refine evObt ?_|refine au ?_|refine fE ?_|refine jR ?_)
  refine aM ?_
  rw [e1]
  exact ak8 x0 x1 x2 x3 x4 x5 x6 x7 b8 x9 x10 x11 x12 h (hp h) rfl
def C57:av:=bL [.agg [tI,tI,tI,tI,tI,tI,tI,tI,.bool],.agg gP] (fun
 |[.agg [.int _ x0,.int _ x1,.int _ x2,.int _ x3,.int _ x4,.int _ x5,.int _ x6,.int _ x7,.bool b8],.agg [.int _ x9,.int _ x10,.int _ x11,.int _ x12]]=>b8=false->NB x0 x1 x2 x3 x4 x5 x6 x7 x9 x10 x11 x12
 |_=>False) fun
 |[.agg [.int _ x0,.int _ x1,.int _ x2,.int _ x3,.int _ x4,.int _ x5,.int _ x6,.int _ x7,.bool b8],.agg [.int _ x9,.int _ x10,.int _ x11,.int _ x12]]=>.bool (WY x0 x1 x2 x3 x4 x5 x6 x7 b8 x9 x10 x11 x12)
 |_=>.any
theorem ar4:cr C57 104:=aY ajp fun _ hp=>nd (alA ..) (apT _ _ _ _ _ _ _ _ _ _ _ _ _ hp)
end
end Go.Dx
namespace Go.Dx
open Go.Sx
noncomputable section
end
end Go.Dx
namespace Go.Dx
open Go.IntKind (i64 u64 u8)
open Go.Sx Go.Proofs
noncomputable section
attribute [local irreducible] afK ahR
end
end Go.Dx
namespace Go.Dx
open Go.Sx
noncomputable section
theorem U3 {x y a z w:Int} (h:G7 x y a z w=0):(-100000<=x/\x<=100000)/\(-100000<=y/\y<=100000)/\(1<=a/\a<=20000)/\0<=z/\z<w/\w<=1000:=by
 unfold G7 at h
 cases hp:tY x y with
 |false=>rw[hp]at h;cases h
 | true =>
   rw [hp]at h
   simp only [apb,ape,cond_true]at h
   cases hf:gx a 1 20000 with
   |false=>rw[hf]at h;cases h
   | true =>
     rw [hf]at h
     have ha:=gh hf
     have hq:=QZ hp
     by_cases h1:z<0
     ·simp[h1]at h
     ·by_cases h2:w<=z
      ·simp[h1,h2]at h
      ·by_cases h3:1000<w
       ·simp[h1,h2,h3]at h
       ·exact⟨hq.1,hq.2,ha,by omega,by omega,by omega⟩
theorem agY {x y h dx dy:Int} (hc:SY x y h dx dy=0):(-100000<=x/\x<=100000)/\(-100000<=y/\y<=100000)/\(1<=h/\h<=200):=by
 have hc':(bif bif bif bif !tY x y then true else !gx h 1 200 then true else !gx dx (-1000) 1000 then true else !gx dy (-1000) 1000 then 7 else bif bif dx==0 then dy==0 else false then 2 else(0:Int))=0:=hc
 cases hp:tY x y with
 |false=>rw[hp]at hc';cases hc'
 | true =>
   rw [hp]at hc'
   cases hf:gx h 1 200 with
   |false=>rw[hf]at hc';cases hc'
   |true=>exact⟨(QZ hp).1,(QZ hp).2,gh hf⟩
theorem air {n6:Nat} {f6:aL} {i:Nat} (h:cC n6 f6 i=0):SY (aW (f6 i)) (b7 (f6 i)) (bV (f6 i)) (dA (f6 i)) (bE (f6 i))=0:=by
 have h':F73 n6 (aa aA f6) (i:Int)=0:=h
 unfold F73 at h'
 simp only [acm]at h'
 cases hn:Uf (sv (aE (aa aA f6 i))) with
 |false=>rw[hn]at h';cases h'
 | true =>
   rw [hn,apb,cond_false]at h'
   cases hd:ls i (fun k=>(sv (aE (aa aA f6 k))).toList==(sv (aE (aa aA f6 i))).toList) with
   |true=>rw[hd]at h';cases h'
   |false=>rw[hd,cond_false]at h';exact h'
section
variable {X Y h tx ty R lo hi x9 x10 x11 x12 px py:Int}
structure TC (X Y h tx ty R lo hi:Int):Prop where
 X':-100000<=X/\X<=100000
 Y':-100000<=Y/\Y<=100000
 h':1<=h/\h<=200
 tx':-100000<=tx/\tx<=100000
 ty':-100000<=ty/\ty<=100000
 R':1<=R/\R<=20000
 lo':0<=lo/\lo<hi/\hi<=1000
theorem TC.vals (t:TC X Y h tx ty R lo hi):ox h hi=max 0 (h-hi)/\Nz h hi=max 0 (h-hi)/\nM h lo=h-lo/\TL h lo=h-lo/\ol h tx=h*tx/\N6 h tx=h*tx/\nC h ty=h*ty/\Q9 h ty=h*ty/\nm h R=h*R/\UN h R=h*R/\sm (h*tx)/\sm (h*ty)/\0<=h*R/\h*R<=1073741824:=by
 obtain ⟨_,_,hh,h1,h2,h3,h4⟩:=t
 have k1:=rv (x:=h) (y:=tx) (A:=200) (B:=100000) (by omega) (by omega) (by omega) (by omega)
 have k2:=rv (x:=h) (y:=ty) (A:=200) (B:=100000) (by omega) (by omega) (by omega) (by omega)
 have k3:=rv (x:=h) (y:=R) (A:=200) (B:=20000) (by omega) (by omega) (by omega) (by omega)
 have k4:=imn (show 0<=h by omega) (show 0<=R by omega)
 unfold ox Nz nM TL ol nC nm vJ xp N6 Q9 UN
 rw [Int.mul_comm R h,wrapI (x:=h-hi) (by omega) (by omega),wrapI (x:=h-min hi h) (by omega) (by omega),wrapI (x:=h-lo) (by omega) (by omega),wrapI (x:=h*tx) (by omega) (by omega),wrapI (x:=h*ty) (by omega) (by omega),wrapI (x:=h*R) (by omega) (by omega)]
 unfold sm
 refine ⟨rfl,by omega,rfl,rfl,rfl,rfl,rfl,rfl,rfl,rfl,by omega,by omega,k4,by omega⟩
theorem TC.in57 (t:TC X Y h tx ty R lo hi) (hb:qJ h lo=false) (h9:-100000<=x9/\x9<=100000) (h10:-100000<=x10/\x10<=100000) (h11:-100000<=x11/\x11<=100000) (h12:-100000<=x12/\x12<=100000):NB X Y h (ox h hi) (nM h lo) (ol h tx) (nC h ty) (nm h R) x9 x10 x11 x12:=by
 obtain ⟨e1,_,e2,_,e3,_,e4,_,e5,_,s1,s2,s3,s4⟩:=t.vals
 have:=t.h';have:=t.lo'
 unfold qJ at hb
 have hb:=abu hb
 rw [e1,e2,e3,e4,e5]
 exact ⟨t.X',t.Y',by omega,by omega,by omega,s1,s2,⟨s3,s4⟩,h9,h10,h11,h12⟩
end
def kM (d t:Nat->Bool):Nat->Int
 |0=>0
 |k+1=>bif d k then 2 else bif t k then max (kM d t k) 1 else kM d t k
end
end Go.Dx
namespace Go.Dx
open Go.IntKind (i64 u64 u8)
open Go.Sx Go.Proofs
variable (n0:Nat) (f0:aL) (n2:Nat) (f2:aL) (n4:Nat) (f4:aL) (n6:Nat) (f6:aL) (x8 x9 x10 x11 x12:Int)
noncomputable section
def Rc:aZ:=[(104,.con C57),(171,.con yaW),(134,.con aae),(102,.con C56),(157,.con RA),(103,.con C49),(29,.con C30),(27,.con C32),(56,.con C80),(55,.con C44),(67,.con C23),(90,.con C62),(96,.con C68),(91,.con C63),(97,.con C69),(128,.inl yU u0),(127,.inl yC u0),(126,.con EG),(124,.con Fp),(150,.con F6),(92,.con C64),(94,.con C66),(122,.con D7),(93,.con C65),(95,.con C67),(98,.con C53),(123,.con C45),(125,.con C90),(130,.con yay),(132,.con B7),(46,.con C99),(149,.con C8),(151,.con B3),(152,.con DL),(121,.con CW),(129,.con C3),(131,.con Cn),(77,.con DK),(136,.con C4),(147,.con CU),(154,.con D6),(155,.con BL),(59,.con C78),(100,.con C54),(99,.con C48),(135,.con CS),(57,.con C81),(79,.con C84),(153,.con C85),(80,.con DG),(133,.con Ds),(78,.con Zr),(169,.con BZ),(188,.con FX),(148,.con CV),(101,.con C55)]
theorem afH:aO Tryz.prog eqs its Rc:=.con ar4 (.con Mp (.con QG (.con Zd (.con Hc (.con Vf (.con Kz (.con KT (.con KU (.con Ln (.con Gw (.con LX (.con Lw (.con Lf (.con Lz (eT Tryz.func128 bb (eT Tryz.func127 bb (.con yB (.con zp (.con zt (.con KI (.con K9 (.con vY (.con E0 (.con F8 (.con EM (.con Ef (.con Fo (.con xt (.con vV (.con FB (.con vd (.con wJ (.con vD (.con wF (.con wq (.con xn (.con vT (.con uZ (.con vt (.con wv (.con xc (.con EH (.con EV (.con Gs (.con wX (.con ED (.con Fa (.con EC (.con xi (.con vn (.con yaw (.con vl (.con yT (.con yQ (.con an9 (.nil))))))))))))))))))))))))))))))))))))))))))))))))))))))))
attribute [local irreducible] jd eo yz
theorem amy {n0:Nat} {f0:aL} {n2:Nat} {f2:aL} {n4:Nat} {f4:aL} {n6:Nat} {f6:aL} {x8:Int} (h:ix1 (fv n0 (aa aB f0) n2 (aa aG f2) n4 (aa aH f4) n6 (aa aA f6)) x8 n6=0):(0<=x8/\x8<(n6:Int))/\∀ i,i<n2->TC (aW (f6 x8.toNat)) (b7 (f6 x8.toNat)) (bV (f6 x8.toNat)) (aw (f2 i)) (aW (f2 i)) (b7 (f2 i)) (bV (f2 i)) (dA (f2 i)):=by
 obtain ⟨h1,h2,h3⟩:=ww h
 have hv:=tX h1
 refine ⟨⟨h2,h3⟩,fun i hi=>?_⟩
 have hc:=agY (air (f6:=aa aA f6) (hv.cl x8.toNat (by omega)))
 have ht:=U3 (hv.tr i hi)
 exact ⟨hc.1,hc.2.1,hc.2.2,ht.1,ht.2.1,ht.2.2.1,ht.2.2.2⟩
inductive UX where
 |L0 (ia0 ia1:Int)
def akP:UX->bD×List O×Option Ex
 |.L0 ia0 ia1=>([(31,vi ia0),(30,vi (n2:Int)),(29,V.sl n2 (aa aG f2)),(9,vi ia1),(5,V.pl 0 0),(3,V.pl 1 0),(1,vi x8)],[O.cells [vi x9,vi x10,vi x11,vi x12] 37,O.cells [V.sl n0 (aa aB f0),V.sl n2 (aa aG f2),V.sl n4 (aa aH f4),V.sl n6 (aa aA f6)] 31],none)
def arf:UX->JJ
 |.L0 ia0 ia1=>(0,[])
def aoK:T (ck JJ):=aV JJ Rc u0 U1 [scV n0 f0 n2 f2 n4 f4 n6 f6,vi x8,V.agg [vi x9,vi x10,vi x11,vi x12]]
def Sq (cx:List Cx):Lp JJ:=fQ (eZ (aoK n0 f0 n2 f2 n4 f4 n6 f6 x8 x9 x10 x11 x12) [false,false])
def aqX:JJ->Lp JJ
 |(0,cx)=>Sq n0 f0 n2 f2 n4 f4 n6 f6 x8 x9 x10 x11 x12 cx
 |(_,cx)=>Sq n0 f0 n2 f2 n4 f4 n6 f6 x8 x9 x10 x11 x12 cx
def D17:LD JJ UX:=⟨arf,aqX n0 f0 n2 f2 n4 f4 n6 f6 x8 x9 x10 x11 x12,akP n0 f0 n2 f2 n4 f4 n6 f6 x8 x9 x10 x11 x12⟩
def VA (n0:Nat) (f0:aL) (n2:Nat) (f2:aL) (n4:Nat) (f4:aL) (n6:Nat) (f6:aL) (x8 x9 x10 x11 x12:Int):UX->RT UX
 |.L0 ia0 ia1=>.br (decide (ia0<(n2:Int))) (.ob (decide (0<=ia0/\ia0<(n2:Int))) (.ob (decide (0<=x8/\x8<(n6:Int))) (.cb (.cb (.cb (.br (!Hm 4 (aa aJ (bc [vi x9,vi x10,vi x11,vi x10,vi x11,vi x12,vi x9,vi x12] 0 2)) (aW (f6 x8.toNat)) (b7 (f6 x8.toNat)) (bV (f6 x8.toNat)) (ox (bV (f6 x8.toNat)) (dA (f2 ia0.toNat))) (nM (bV (f6 x8.toNat)) (bV (f2 ia0.toNat))) (ol (bV (f6 x8.toNat)) (aw (f2 ia0.toNat))) (nC (bV (f6 x8.toNat)) (aW (f2 ia0.toNat))) (nm (bV (f6 x8.toNat)) (b7 (f2 ia0.toNat))) (qJ (bV (f6 x8.toNat)) (bV (f2 ia0.toNat)))) (.next [some (some 0),some (some 1)] (UX.L0 (wI (ia0+1)) 2) []) (.obp (qJ (bV (f6 x8.toNat)) (bV (f2 ia0.toNat))=false->((-100000:Int)<=aW (f6 x8.toNat)/\aW (f6 x8.toNat)<=(100000:Int))/\((-100000:Int)<=b7 (f6 x8.toNat)/\b7 (f6 x8.toNat)<=(100000:Int))/\((0:Int)<=bV (f6 x8.toNat)/\bV (f6 x8.toNat)<=(200:Int))/\((0:Int)<=ox (bV (f6 x8.toNat)) (dA (f2 ia0.toNat))/\ox (bV (f6 x8.toNat)) (dA (f2 ia0.toNat))<=(200:Int))/\((0:Int)<=nM (bV (f6 x8.toNat)) (bV (f2 ia0.toNat))/\nM (bV (f6 x8.toNat)) (bV (f2 ia0.toNat))<=(200:Int))/\((-536870912:Int)<=ol (bV (f6 x8.toNat)) (aw (f2 ia0.toNat))/\ol (bV (f6 x8.toNat)) (aw (f2 ia0.toNat))<=(536870912:Int))/\((-536870912:Int)<=nC (bV (f6 x8.toNat)) (aW (f2 ia0.toNat))/\nC (bV (f6 x8.toNat)) (aW (f2 ia0.toNat))<=(536870912:Int))/\((0:Int)<=nm (bV (f6 x8.toNat)) (b7 (f2 ia0.toNat))/\nm (bV (f6 x8.toNat)) (b7 (f2 ia0.toNat))<=(1073741824:Int))/\((-100000:Int)<=x9/\x9<=(100000:Int))/\((-100000:Int)<=x10/\x10<=(100000:Int))/\((-100000:Int)<=x11/\x11<=(100000:Int))/\(-100000:Int)<=x12/\x12<=(100000:Int)) (.obt (.br (WY (aW (f6 x8.toNat)) (b7 (f6 x8.toNat)) (bV (f6 x8.toNat)) (ox (bV (f6 x8.toNat)) (dA (f2 ia0.toNat))) (nM (bV (f6 x8.toNat)) (bV (f2 ia0.toNat))) (ol (bV (f6 x8.toNat)) (aw (f2 ia0.toNat))) (nC (bV (f6 x8.toNat)) (aW (f2 ia0.toNat))) (nm (bV (f6 x8.toNat)) (b7 (f2 ia0.toNat))) (qJ (bV (f6 x8.toNat)) (bV (f2 ia0.toNat))) x9 x10 x11 x12) (.next [some (some 0),some (some 1)] (UX.L0 (wI (ia0+1)) (max ia1 1)) []) (.next [some (some 0),some (some 1)] (UX.L0 (wI (ia0+1)) ia1) [])))))))))) (.ret (V.tup [vi ia1,vi 0]))
def m17:RT UX:=.am n6 (.obp (((ap n0 f0)/\ap n6 f6)/\(0:Nat)=(0:Nat)/\(2:Nat)<=(100:Nat)) (.obt (.br (jd n0 (aa aB f0) n2 (aa aG f2) n4 (aa aH f4) n6 (aa aA f6) 2 (aa ac (bc [vi x8,vi (n6:Int)] 0 1))!=0) (.ret (V.tup [vi 0,vi (jd n0 (aa aB f0) n2 (aa aG f2) n4 (aa aH f4) n6 (aa aA f6) 2 (aa ac (bc [vi x8,vi (n6:Int)] 0 1)))])) (.cb (.br (wU x9 x10 x11 x12) (.ret (V.tup [vi 0,vi 7])) (.am n2 (.enter [some (some 1),some (some 0)] (UX.L0 0 0) [])))))))
theorem ama:eS Rc u0 (D17 n0 f0 n2 f2 n4 f4 n6 f6 x8 x9 x10 x11 x12) (aoK n0 f0 n2 f2 n4 f4 n6 f6 x8 x9 x10 x11 x12) (m17 n0 f0 n2 f2 n4 f4 n6 f6 x8 x9 x10 x11 x12) (VA n0 f0 n2 f2 n4 f4 n6 f6 x8 x9 x10 x11 x12):=⟨bF,fun s=>by cases s<;>exact bF⟩
def L9 (ii:Nat):Bool:=dm (n0,f0,n2,n4,f4,n6) (!Hm 4 (aa aJ (bc [vi x9,vi x10,vi x11,vi x10,vi x11,vi x12,vi x9,vi x12] 0 2)) (aW (f6 x8.toNat)) (b7 (f6 x8.toNat)) (bV (f6 x8.toNat)) (ox (bV (f6 x8.toNat)) (dA (f2 ii))) (nM (bV (f6 x8.toNat)) (bV (f2 ii))) (ol (bV (f6 x8.toNat)) (aw (f2 ii))) (nC (bV (f6 x8.toNat)) (aW (f2 ii))) (nm (bV (f6 x8.toNat)) (b7 (f2 ii))) (qJ (bV (f6 x8.toNat)) (bV (f2 ii))))
def Mk (ii:Nat):Bool:=dm (n0,f0,n2,n4,f4,n6) (WY (aW (f6 x8.toNat)) (b7 (f6 x8.toNat)) (bV (f6 x8.toNat)) (ox (bV (f6 x8.toNat)) (dA (f2 ii))) (nM (bV (f6 x8.toNat)) (bV (f2 ii))) (ol (bV (f6 x8.toNat)) (aw (f2 ii))) (nC (bV (f6 x8.toNat)) (aW (f2 ii))) (nm (bV (f6 x8.toNat)) (b7 (f2 ii))) (qJ (bV (f6 x8.toNat)) (bV (f2 ii))) x9 x10 x11 x12)
def fU:Int:=bif jd n0 (aa aB f0) n2 (aa aG f2) n4 (aa aH f4) n6 (aa aA f6) 2 (aa ac (bc [vi x8,vi (n6:Int)] 0 1))!=0 then 0 else bif wU x9 x10 x11 x12 then 0 else kM (L9 n0 f0 n2 f2 n4 f4 n6 f6 x8 x9 x10 x11 x12) (Mk n0 f0 n2 f2 n4 f4 n6 f6 x8 x9 x10 x11 x12) n2
def vQ:Int:=bif jd n0 (aa aB f0) n2 (aa aG f2) n4 (aa aH f4) n6 (aa aA f6) 2 (aa ac (bc [vi x8,vi (n6:Int)] 0 1))!=0 then jd n0 (aa aB f0) n2 (aa aG f2) n4 (aa aH f4) n6 (aa aA f6) 2 (aa ac (bc [vi x8,vi (n6:Int)] 0 1)) else bif wU x9 x10 x11 x12 then 7 else 0
theorem c17 (n0:Nat) (f0:aL) (n2:Nat) (f2:aL) (n4:Nat) (f4:aL) (n6:Nat) (f6:aL) (x8 x9 x10 x11 x12:Int) (hx:0<=x8/\x8<(n6:Int)) (hn:n2<=9223372036854775807) (hin:∀ i,i<n2->TC (aW (f6 x8.toNat)) (b7 (f6 x8.toNat)) (bV (f6 x8.toNat)) (aw (f2 i)) (aW (f2 i)) (b7 (f2 i)) (bV (f2 i)) (dA (f2 i))) (hp:(-100000<=x9/\x9<=100000)/\(-100000<=x10/\x10<=100000)/\(-100000<=x11/\x11<=100000)/\(-100000<=x12/\x12<=100000)) :
 ∀ i,i<=n2->Ev (VA n0 f0 n2 f2 n4 f4 n6 f6 x8 x9 x10 x11 x12) (.L0 (i:Int) (kM (L9 n0 f0 n2 f2 n4 f4 n6 f6 x8 x9 x10 x11 x12) (Mk n0 f0 n2 f2 n4 f4 n6 f6 x8 x9 x10 x11 x12) i)) (.tup [vi (kM (L9 n0 f0 n2 f2 n4 f4 n6 f6 x8 x9 x10 x11 x12) (Mk n0 f0 n2 f2 n4 f4 n6 f6 x8 x9 x10 x11 x12) n2),vi 0]):=by
 refine dO fun i hi ih=>?_
 by_cases hlt:i<n2
 ·have ih:=ih hlt
  have hw:=tB hlt hn
  refine Ev.of rfl (cI (dqt (by omega)) (aD (dqt (by omega)) (aD (dqt hx) (au (evObt (au (evObt (au (evObt (evBr (fun h=>aS ?_) (fun h=>evObp ?_ (evObt (evBr (fun h2=>aS ?_) (fun h2=>aS ?_))))))))))))))
  ·rw[hw]
   have e:kM (L9 n0 f0 n2 f2 n4 f4 n6 f6 x8 x9 x10 x11 x12) (Mk n0 f0 n2 f2 n4 f4 n6 f6 x8 x9 x10 x11 x12) (i+1)=2:=by simp only[kM];rw[show L9 n0 f0 n2 f2 n4 f4 n6 f6 x8 x9 x10 x11 x12 i=true from h];rfl
   rw [e]at ih;exact ih
  ·exact fun hb=>(hin i hlt).in57 hb hp.1 hp.2.1 hp.2.2.1 hp.2.2.2
  ·rw[hw]
   have e:kM (L9 n0 f0 n2 f2 n4 f4 n6 f6 x8 x9 x10 x11 x12) (Mk n0 f0 n2 f2 n4 f4 n6 f6 x8 x9 x10 x11 x12) (i+1)=max (kM (L9 n0 f0 n2 f2 n4 f4 n6 f6 x8 x9 x10 x11 x12) (Mk n0 f0 n2 f2 n4 f4 n6 f6 x8 x9 x10 x11 x12) i) 1:=by simp only[kM];rw[show L9 n0 f0 n2 f2 n4 f4 n6 f6 x8 x9 x10 x11 x12 i=false from h,show Mk n0 f0 n2 f2 n4 f4 n6 f6 x8 x9 x10 x11 x12 i=true from h2];rfl
   rw [e]at ih;exact ih
  ·rw[hw]
   have e:kM (L9 n0 f0 n2 f2 n4 f4 n6 f6 x8 x9 x10 x11 x12) (Mk n0 f0 n2 f2 n4 f4 n6 f6 x8 x9 x10 x11 x12) (i+1)=kM (L9 n0 f0 n2 f2 n4 f4 n6 f6 x8 x9 x10 x11 x12) (Mk n0 f0 n2 f2 n4 f4 n6 f6 x8 x9 x10 x11 x12) i:=by simp only[kM];rw[show L9 n0 f0 n2 f2 n4 f4 n6 f6 x8 x9 x10 x11 x12 i=false from h,show Mk n0 f0 n2 f2 n4 f4 n6 f6 x8 x9 x10 x11 x12 i=false from h2];rfl
   rw [e]at ih;exact ih
 ·have e:i=n2:=by omega
  subst e
  exact Ev.of rfl (cS (ef (by omega)) (evRet rfl))
theorem afe (hp:ap n0 f0/\ap n6 f6):aX (Ev (VA n0 f0 n2 f2 n4 f4 n6 f6 x8 x9 x10 x11 x12)) (m17 n0 f0 n2 f2 n4 f4 n6 f6 x8 x9 x10 x11 x12) (.tup [vi (fU n0 f0 n2 f2 n4 f4 n6 f6 x8 x9 x10 x11 x12),vi (vQ n0 f0 n2 f2 n4 f4 n6 f6 x8 x9 x10 x11 x12)]):=bw fun h6=>evObp ⟨hp,rfl,by decide⟩ (evObt (evBr (fun h=>evRet (by unfold fU vQ;rw[h];rfl)) (fun h=>au (evObt (evBr (fun h2=>evRet (by unfold fU vQ;rw[h,h2];rfl)) (fun h2=>bw fun hn=>aM (by
 have e0:fU n0 f0 n2 f2 n4 f4 n6 f6 x8 x9 x10 x11 x12=kM (L9 n0 f0 n2 f2 n4 f4 n6 f6 x8 x9 x10 x11 x12) (Mk n0 f0 n2 f2 n4 f4 n6 f6 x8 x9 x10 x11 x12) n2:=by unfold fU;rw[h,h2];rfl
 have e1:vQ n0 f0 n2 f2 n4 f4 n6 f6 x8 x9 x10 x11 x12=0:=by unfold vQ;rw[h,h2];rfl
 rw [e0,e1]
 have hc:=agi (n0:=n0) (f0:=f0) (n2:=n2) (f2:=f2) (n4:=n4) (f4:=f4) (n6:=n6) (f6:=f6) (i:=x8) (m:=n6) (fun _=>h6)
 have hz:ix1 (fv n0 (aa aB f0) n2 (aa aG f2) n4 (aa aH f4) n6 (aa aA f6)) x8 n6=0:=by rw[← hc];simpa using h
 obtain ⟨hx,hin⟩:=amy hz
 rw [P7]at h2
 have hq:=NO (Ea h2)
 exact c17 _ _ _ _ _ _ _ _ _ _ _ _ _ hx hn hin ⟨hq.1,hq.2.1,hq.2.2.1,hq.2.2.2.1⟩ 0 (acK _))))))))
theorem aqT (hp:ap n0 (aa aB f0)/\ap n6 (aa aA f6)):aX (Ev (VA n0 f0 n2 f2 n4 f4 n6 f6 x8 x9 x10 x11 x12)) (m17 n0 f0 n2 f2 n4 f4 n6 f6 x8 x9 x10 x11 x12) (.tup [vi (fU n0 (aa aB f0) n2 (aa aG f2) n4 (aa aH f4) n6 (aa aA f6) x8 x9 x10 x11 x12),vi (vQ n0 (aa aB f0) n2 (aa aG f2) n4 (aa aH f4) n6 (aa aA f6) x8 x9 x10 x11 x12)]):=afe n0 f0 n2 f2 n4 f4 n6 f6 x8 x9 x10 x11 x12 hp
def C17:av:=bL [.agg [.sl aB,.sl aG,.sl aH,.sl aA],tI,.agg gP] (fun
 |[.agg [.sl n0 f0,.sl n2 f2,.sl n4 f4,.sl n6 f6],.int _ x8,.agg [.int _ x9,.int _ x10,.int _ x11,.int _ x12]]=>ap n0 f0/\ap n6 f6
 |_=>False) fun
 |[.agg [.sl n0 f0,.sl n2 f2,.sl n4 f4,.sl n6 f6],.int _ x8,.agg [.int _ x9,.int _ x10,.int _ x11,.int _ x12]]=>.tup [vi (fU n0 f0 n2 f2 n4 f4 n6 f6 x8 x9 x10 x11 x12),vi (vQ n0 f0 n2 f2 n4 f4 n6 f6 x8 x9 x10 x11 x12)]
 |_=>.any
theorem agM:cr C17 68:=aY afH fun _ hp=>nd (ama ..) (aqT _ _ _ _ _ _ _ _ _ _ _ _ _ hp)
end
end Go.Dx
namespace Go.Dx
open Go.Sx
noncomputable section
end
end Go.Dx
namespace Go.Dx
open Go.IntKind (i64 u64 u8)
open Go.Sx Go.Proofs
variable (n0:Nat) (f0:aL) (x0 x1:Int) (n2:Nat) (f2:aL) (x2 x3 x4:Int) (n5:Nat) (f5:aL) (x5 x6:Int) (n7:Nat) (f7:aL) (x7:Int) (n9:Nat) (f9:aL) (n11:Nat) (f11:aL) (n13:Nat) (f13:aL) (n15:Nat) (f15:aL) (n17:Nat) (f17:aL) (x17 x18:Int) (s18:ByteArray) (n19:Nat) (f19:aL) (x19 x20 x21:Int) (n22:Nat) (f22:aL) (x22 x23:Int) (n24:Nat) (f24:aL) (x24 x25:Int) (n26:Nat) (f26:aL) (x26 x27:Int) (n28:Nat) (f28:aL) (x28:Int) (n29:Nat) (f29:aL) (x29:Int) (n30:Nat) (f30:aL) (n31:Nat) (f31:aL) (n32:Nat) (f32:aL) (n33:Nat) (f33:aL) (n35:Nat) (f35:aL) (n37:Nat) (f37:aL) (n39:Nat) (f39:aL)
noncomputable section
def IP:aZ:=(68,.con C17)::(37,.con yh)::Kv
theorem GD:aO Tryz.prog eqs its IP:=.con agM (.con w4 (FU))
def rD (how lo:Int):Int:=bif how==2 then 0 else bif how==1 then 0 else lo
def qR (how hi:Int):Int:=bif how==2 then 0 else hi
def aaq:RT Empty:=dm (n0,f0,n2,f2,x4,n13,f13,n15,f15,s18,x19,x20,x21,x22,x23) (.obp (ap n5 (aa aB f5)/\ap n11 (aa aA f11)) (.obt (.br (fU n5 (aa aB f5) n7 (aa aG f7) n9 (aa aH f9) n11 (aa aA f11) x17 x24 x25 x26 x27==2) (.ret (V.agg [vi 0,vi 0])) (.br (fU n5 (aa aB f5) n7 (aa aG f7) n9 (aa aH f9) n11 (aa aA f11) x17 x24 x25 x26 x27==1) (.ret (V.agg [vi 0,vi x29])) (.ret (V.agg [vi x28,vi x29]))))))
theorem YY:cW cX (aV JJ IP u0 Az [V.agg [V.sl n0 (aa af f0),V.sl n2 (aa ah f2),vi x4,V.sl n5 (aa aB f5),V.sl n7 (aa aG f7),V.sl n9 (aa aH f9),V.sl n11 (aa aA f11),V.sl n13 (aa ac f13),V.sl n15 (aa aU f15),vi x17,V.str s18,vi x19,vi x20,vi x21,vi x22,vi x23],V.agg [vi x24,vi x25,vi x26,vi x27],vi x28,vi x29]) (aaq n0 f0 n2 f2 x4 n5 f5 n7 f7 n9 f9 n11 f11 n13 f13 n15 f15 x17 s18 x19 x20 x21 x22 x23 x24 x25 x26 x27 x28 x29):=bF
theorem ajq (hp:ap n5 (aa aB f5)/\ap n11 (aa aA f11)):aX cL (aaq n0 f0 n2 f2 x4 n5 f5 n7 f7 n9 f9 n11 f11 n13 f13 n15 f15 x17 s18 x19 x20 x21 x22 x23 x24 x25 x26 x27 x28 x29) (.agg [vi (rD (fU n5 (aa aB f5) n7 (aa aG f7) n9 (aa aH f9) n11 (aa aA f11) x17 x24 x25 x26 x27) x28),vi (qR (fU n5 (aa aB f5) n7 (aa aG f7) n9 (aa aH f9) n11 (aa aA f11) x17 x24 x25 x26 x27) x29)]):=by
 refine evObp hp (evObt ?_)
 exact (evBr (fun h=>evRet (by unfold rD qR;rw[h];rfl)) (fun h=>evBr (fun h2=>evRet (by unfold rD qR;rw[h,h2];rfl)) (fun h2=>evRet (by unfold rD qR;rw[h,h2];rfl))))
def DC:av:=bL [.agg [.sl af,.sl ah,tI,.sl aB,.sl aG,.sl aH,.sl aA,.sl ac,.sl aU,tI,.str,tI,tI,tI,tI,tI],.agg gP,tI,tI] (fun
 |[.agg [.sl n0 f0,.sl n2 f2,.int _ x4,.sl n5 f5,.sl n7 f7,.sl n9 f9,.sl n11 f11,.sl n13 f13,.sl n15 f15,.int _ x17,.str s18,.int _ x19,.int _ x20,.int _ x21,.int _ x22,.int _ x23],.agg [.int _ x24,.int _ x25,.int _ x26,.int _ x27],.int _ x28,.int _ x29]=>ap n5 f5/\ap n11 f11
 |_=>False) fun
 |[.agg [.sl n0 f0,.sl n2 f2,.int _ x4,.sl n5 f5,.sl n7 f7,.sl n9 f9,.sl n11 f11,.sl n13 f13,.sl n15 f15,.int _ x17,.str s18,.int _ x19,.int _ x20,.int _ x21,.int _ x22,.int _ x23],.agg [.int _ x24,.int _ x25,.int _ x26,.int _ x27],.int _ x28,.int _ x29]=>.agg [vi (rD (fU n5 f5 n7 f7 n9 f9 n11 f11 x17 x24 x25 x26 x27) x28),vi (qR (fU n5 f5 n7 f7 n9 f9 n11 f11 x17 x24 x25 x26 x27) x29)]
 |_=>.any
theorem zO:cr DC 42:=aY GD fun _ hp=>c9 (YY ..) (ajq _ _ _ _ _ _ _ _ _ _ _ _ _ _ _ _ _ _ _ _ _ _ _ _ _ _ _ _ _ _ hp)
def pF (cx cy h a b c d:Int):Int:=wI (wI (ip (wI (a-cx)) (wI (c-cx))+ip (wI (b-cy)) (wI (d-cy)))+wI (wI (100*h)*wI (100*h)))
def pi (cx cy h a b c d:Int):Int:=wI (wI (mp (wI (a-cx)) (wI (c-cx))+mp (wI (b-cy)) (wI (d-cy)))+wI (wI (100*h)*wI (100*h)))
def asi (how tw q h:Int):Int:=rD how (dv (wI (1000*dv (wI (wI (1000*tw)*wI (100*h))) q)) (e7 q))
def aqa (how tw q h:Int):Int:=qR how (eh (wI (1000*eh (wI (wI (1000*tw)*wI (100*h))) q)) (fl q))
def nT (f11 f13 f15:aL) (i cx cy h cdx cdy a b c d:Int):Int:=asi (fU n5 f5 n7 f7 n9 f9 n11 f11 i a b c d) (oh n0 f0 n2 f2 f13 f15 i cx cy cdx cdy a b c d (wI (100*h))) (pi cx cy h a b c d) h
def nP (f11 f13 f15:aL) (i cx cy h cdx cdy a b c d:Int):Int:=aqa (fU n5 f5 n7 f7 n9 f9 n11 f11 i a b c d) (oy n0 f0 n2 f2 f13 f15 i cx cy cdx cdy a b c d (wI (100*h))) (pF cx cy h a b c d) h
def qn (cx cy h a b c d:Int):Prop:=((-100000<=cx/\cx<=100000)/\(-100000<=cy/\cy<=100000)/\(1<=h/\h<=200))/\cZ a/\cZ b/\cZ c/\cZ d
theorem qn.pl {cx cy h a b c d:Int} (o:qn cx cy h a b c d):cZ cx/\cZ cy/\cZ a/\cZ b/\cZ c/\cZ d:=by
 obtain ⟨⟨h1,h2,h3⟩,h4⟩:=o
 exact ⟨by unfold cZ;omega,by unfold cZ;omega,h4⟩
theorem sqP {x:Int} (h:x.natAbs<=400100000):wI (x*x)=x*x/\0<=x*x/\x*x<=160080010000000000:=by
 have k:=pf h h
 have z:=sq0 x
 exact ⟨wrapI (by omega) (by omega),z,by omega⟩
theorem anq {x y:Int} (h:x.natAbs<=400100000) (k:y.natAbs<=400100000):(0<=ip x y/\ip x y<=160080010000000000)/\0<=mp x y/\mp x y<=160080010000000000:=by
 have a:=sqP h
 have b:=sqP k
 unfold ip mp
 rw [a.1,b.1]
 refine ⟨?_,by omega⟩
 cases (bif decide (x<=0) then decide (0<=y) else false) with
 |true=>exact⟨Int.le_refl _,(by decide:(0:Int)<=160080010000000000)⟩
 |false=>show 0<=min _ _/\min _ _<=_;omega
theorem Y1 {a c:Int} (h:cZ a) (k:-100000<=c/\c<=100000):(wI (a-c)).natAbs<=400100000:=by
 unfold cZ at h
 rw [wrapI (by omega) (by omega)]
 omega
theorem arh {cx cy h a b c d:Int} (o:qn cx cy h a b c d):(1<=pF cx cy h a b c d/\pF cx cy h a b c d<=3999999999999999999)/\1<=pi cx cy h a b c d/\pi cx cy h a b c d<=3999999999999999999:=by
 obtain ⟨⟨hx,hy,hh⟩,pa,pb,pc,pd⟩:=o
 have s1:=anq (Y1 pa hx) (Y1 pc hx)
 have s2:=anq (Y1 pb hy) (Y1 pd hy)
 have e:wI (100*h)=100*h:=wrapI (by omega) (by omega)
 have m:(100*h*(100*h)).natAbs<=20000*20000:=pf (by omega) (by omega)
 have m2:1<=100*h*(100*h):=Int.mul_pos (by omega) (by omega)
 unfold pF pi
 rw [e,wrapI (x:=100*h*(100*h)) (by omega) (by omega)]
 revert s1 s2 m m2
 generalize ip (wI (a-cx)) (wI (c-cx))=p0
 generalize ip (wI (b-cy)) (wI (d-cy))=p1
 generalize mp (wI (a-cx)) (wI (c-cx))=q0
 generalize mp (wI (b-cy)) (wI (d-cy))=q1
 generalize 100*h*(100*h)=H
 intro s1 s2 m m2
 rw [wrapI (x:=p0+p1) (by omega) (by omega),wrapI (x:=q0+q1) (by omega) (by omega),wrapI (by omega) (by omega),wrapI (by omega) (by omega)]
 omega
def ab2 (x4 cx cy h a b c d dx dy:Int):Int:=Cl n0 f0 n2 f2 x4 (kw (wI (cx-c)) (wI (cx-a)) (wI (cy-d)) (wI (cy-b)) dx dy) (kN (wI (cx-c)) (wI (cx-a)) (wI (cy-d)) (wI (cy-b)) dx dy) (kx (wI (cx-c)) (wI (cx-a)) (wI (cy-d)) (wI (cy-b)) dx dy) (kJ (wI (cx-c)) (wI (cx-a)) (wI (cy-d)) (wI (cy-b)) dx dy) (wI (100*h))
def adc (x4 cx cy h a b c d dx dy:Int):Int:=BX n0 f0 n2 f2 x4 (kw (wI (cx-c)) (wI (cx-a)) (wI (cy-d)) (wI (cy-b)) dx dy) (kN (wI (cx-c)) (wI (cx-a)) (wI (cy-d)) (wI (cy-b)) dx dy) (kx (wI (cx-c)) (wI (cx-a)) (wI (cy-d)) (wI (cy-b)) dx dy) (kJ (wI (cx-c)) (wI (cx-a)) (wI (cy-d)) (wI (cy-b)) dx dy) (wI (100*h))
def ap8 (how tw r h:Int):Int:=rD how (wI (100*dv (wI (wI (1000*tw)*r)) (wI (wI (100*h)*wI (100*h)))))
def arB (how tw r h:Int):Int:=qR how (wI (100*eh (wI (wI (1000*tw)*r)) (wI (wI (100*h)*wI (100*h)))))
def nG (f11 f13 f15:aL) (i cx cy h cdx cdy a b c d dx dy:Int):Int:=ap8 (fU n5 f5 n7 f7 n9 f9 n11 f11 i a b c d) (oh n0 f0 n2 f2 f13 f15 i cx cy cdx cdy a b c d (wI (100*h))) (ab2 n0 f0 n2 f2 x4 cx cy h a b c d dx dy) h
def nO (f11 f13 f15:aL) (i cx cy h cdx cdy a b c d dx dy:Int):Int:=arB (fU n5 f5 n7 f7 n9 f9 n11 f11 i a b c d) (oy n0 f0 n2 f2 f13 f15 i cx cy cdx cdy a b c d (wI (100*h))) (adc n0 f0 n2 f2 x4 cx cy h a b c d dx dy) h
theorem asj {h:Int} (k:1<=h/\h<=200):wI (wI (100*h)*wI (100*h))=0->False:=by
 have m:(100*h*(100*h)).natAbs<=20000*20000:=pf (by omega) (by omega)
 have m2:1<=100*h*(100*h):=Int.mul_pos (by omega) (by omega)
 rw [wrapI (x:=100*h) (by omega) (by omega),wrapI (by omega) (by omega)]
 omega
def acs:aZ:=(44,.con HI)::(42,.con DC)::IP
theorem afW:aO Tryz.prog eqs its acs:=.con ES (.con zO (GD))
def Oj:RT Empty:=dm s18 (.cb (.cb (.obp (((0:Int)<=x17/\x17<(n13:Int))/\((0:Int)<=x17/\x17<(n15:Int))/\(ap n0 (aa af f0)/\ap n2 (aa ah f2))/\Hd x22 x23/\cZ x19/\cZ x20/\cZ x24/\cZ x25/\cZ x26/\cZ x27) (.obt (.obp (Hd x28 x29/\((-1000000000:Int)<=wI (x19-x26)/\wI (x19-x26)<=(1000000000:Int))/\((-1000000000:Int)<=wI (x19-x24)/\wI (x19-x24)<=(1000000000:Int))/\((-1000000000:Int)<=wI (x20-x27)/\wI (x20-x27)<=(1000000000:Int))/\(-1000000000:Int)<=wI (x20-x25)/\wI (x20-x25)<=(1000000000:Int)) (.obt (.obp (ap n0 (aa af f0)/\ap n2 (aa ah f2)) (.obt (.obp (nz (wI (dU x21*dU x21))) (.obt (.obp (nz (wI (dU x21*dU x21))) (.obt (.obp (ap n5 (aa aB f5)/\ap n11 (aa aA f11)) (.obt (.ret (V.agg [vi (rD (fU n5 (aa aB f5) n7 (aa aG f7) n9 (aa aH f9) n11 (aa aA f11) x17 x24 x25 x26 x27) (wI (100*b9 (wI (wI (1000*oh n0 (aa af f0) n2 (aa ah f2) (aa ac f13) (aa aU f15) x17 x19 x20 x22 x23 x24 x25 x26 x27 (dU x21))*ab2 n0 (aa af f0) n2 (aa ah f2) x4 x19 x20 x21 x24 x25 x26 x27 x28 x29)) (wI (dU x21*dU x21))))),vi (qR (fU n5 (aa aB f5) n7 (aa aG f7) n9 (aa aH f9) n11 (aa aA f11) x17 x24 x25 x26 x27) (wI (100*b5 (wI (wI (1000*oy n0 (aa af f0) n2 (aa ah f2) (aa ac f13) (aa aU f15) x17 x19 x20 x22 x23 x24 x25 x26 x27 (dU x21))*adc n0 (aa af f0) n2 (aa ah f2) x4 x19 x20 x21 x24 x25 x26 x27 x28 x29)) (wI (dU x21*dU x21)))))]))))))))))))))))
theorem XD:cW cX (aV JJ acs u0 Qx [V.agg [V.sl n0 (aa af f0),V.sl n2 (aa ah f2),vi x4,V.sl n5 (aa aB f5),V.sl n7 (aa aG f7),V.sl n9 (aa aH f9),V.sl n11 (aa aA f11),V.sl n13 (aa ac f13),V.sl n15 (aa aU f15),vi x17,V.str s18,vi x19,vi x20,vi x21,vi x22,vi x23],V.agg [vi x24,vi x25,vi x26,vi x27],V.agg [vi x28,vi x29]]) (Oj n0 f0 n2 f2 x4 n5 f5 n7 f7 n9 f9 n11 f11 n13 f13 n15 f15 x17 s18 x19 x20 x21 x22 x23 x24 x25 x26 x27 x28 x29):=bF
theorem ahM (n0:Nat) (f0:aL) (n2:Nat) (f2:aL) (x4:Int) (n5:Nat) (f5:aL) (n7:Nat) (f7:aL) (n9:Nat) (f9:aL) (n11:Nat) (f11:aL) (n13:Nat) (f13:aL) (n15:Nat) (f15:aL) (x17:Int) (s18:ByteArray) (x19 x20 x21 x22 x23 x24 x25 x26 x27 x28 x29:Int) (hp:(0<=x17/\x17<(n13:Int))/\(0<=x17/\x17<(n15:Int))/\(ap n0 (aa af f0)/\ap n2 (aa ah f2))/\(ap n5 (aa aB f5)/\ap n11 (aa aA f11))/\Hd x22 x23/\qn x19 x20 x21 x24 x25 x26 x27/\Hd x28 x29):aX cL (Oj n0 f0 n2 f2 x4 n5 f5 n7 f7 n9 f9 n11 f11 n13 f13 n15 f15 x17 s18 x19 x20 x21 x22 x23 x24 x25 x26 x27 x28 x29) (.agg [vi (nG n0 (aa af f0) n2 (aa ah f2) x4 n5 (aa aB f5) n7 (aa aG f7) n9 (aa aH f9) n11 (aa aA f11) (aa ac f13) (aa aU f15) x17 x19 x20 x21 x22 x23 x24 x25 x26 x27 x28 x29),vi (nO n0 (aa af f0) n2 (aa ah f2) x4 n5 (aa aB f5) n7 (aa aG f7) n9 (aa aH f9) n11 (aa aA f11) (aa ac f13) (aa aU f15) x17 x19 x20 x21 x22 x23 x24 x25 x26 x27 x28 x29)]):=by
 obtain ⟨h0,h1,hz,hr,hd,o,hv⟩:=hp
 have p:=o.pl
 have hn:=asj o.1.2.2
 unfold Oj
 rw [Db,y6]
 exact au (evObt (au (evObt (evObp ⟨h0,h1,hz,hd,o.pl⟩ (evObt (evObp ⟨hv,Dt p.1 p.2.2.2.2.1,Dt p.1 p.2.2.1,Dt p.2.1 p.2.2.2.2.2,Dt p.2.1 p.2.2.2.1⟩ (evObt (evObp hz (evObt (evObp hn (evObt (evObp hn (evObt (evObp hr (evObt (evRet rfl))))))))))))))))
def Qt:av:=bL [.agg [.sl af,.sl ah,tI,.sl aB,.sl aG,.sl aH,.sl aA,.sl ac,.sl aU,tI,.str,tI,tI,tI,tI,tI],.agg gP,.agg aJ] (fun
 |[.agg [.sl n0 f0,.sl n2 f2,.int _ x4,.sl n5 f5,.sl n7 f7,.sl n9 f9,.sl n11 f11,.sl n13 f13,.sl n15 f15,.int _ x17,.str s18,.int _ x19,.int _ x20,.int _ x21,.int _ x22,.int _ x23],.agg [.int _ x24,.int _ x25,.int _ x26,.int _ x27],.agg [.int _ x28,.int _ x29]]=>(0<=x17/\x17<(n13:Int))/\(0<=x17/\x17<(n15:Int))/\(ap n0 f0/\ap n2 f2)/\(ap n5 f5/\ap n11 f11)/\Hd x22 x23/\qn x19 x20 x21 x24 x25 x26 x27/\Hd x28 x29
 |_=>False) fun
 |[.agg [.sl n0 f0,.sl n2 f2,.int _ x4,.sl n5 f5,.sl n7 f7,.sl n9 f9,.sl n11 f11,.sl n13 f13,.sl n15 f15,.int _ x17,.str s18,.int _ x19,.int _ x20,.int _ x21,.int _ x22,.int _ x23],.agg [.int _ x24,.int _ x25,.int _ x26,.int _ x27],.agg [.int _ x28,.int _ x29]]=>.agg [vi (nG n0 f0 n2 f2 x4 n5 f5 n7 f7 n9 f9 n11 f11 f13 f15 x17 x19 x20 x21 x22 x23 x24 x25 x26 x27 x28 x29),vi (nO n0 f0 n2 f2 x4 n5 f5 n7 f7 n9 f9 n11 f11 f13 f15 x17 x19 x20 x21 x22 x23 x24 x25 x26 x27 x28 x29)]
 |_=>.any
theorem Q5:cr Qt 21:=aY afW fun _ hp=>c9 (XD ..) (ahM _ _ _ _ _ _ _ _ _ _ _ _ _ _ _ _ _ _ _ _ _ _ _ _ _ _ _ _ _ _ hp)
def IG:aZ:=(42,.con DC)::IP
theorem Ee:aO Tryz.prog eqs its IG:=.con zO (GD)
def Mn:RT Empty:=dm (x4,s18) (.cb (.cb (.obp (((0:Int)<=x17/\x17<(n13:Int))/\((0:Int)<=x17/\x17<(n15:Int))/\(ap n0 (aa af f0)/\ap n2 (aa ah f2))/\Hd x22 x23/\cZ x19/\cZ x20/\cZ x24/\cZ x25/\cZ x26/\cZ x27) (.obt (.cb (.obp (nz (pi x19 x20 x21 x24 x25 x26 x27)) (.obt (.cb (.obp (nz (pF x19 x20 x21 x24 x25 x26 x27)) (.obt (.cb (.obp (nz (cK (pi x19 x20 x21 x24 x25 x26 x27))) (.obt (.obp (nz (dq (pF x19 x20 x21 x24 x25 x26 x27))) (.obt (.obp (ap n5 (aa aB f5)/\ap n11 (aa aA f11)) (.obt (.ret (V.agg [vi (rD (fU n5 (aa aB f5) n7 (aa aG f7) n9 (aa aH f9) n11 (aa aA f11) x17 x24 x25 x26 x27) (b9 (wI (1000*b9 (wI (wI (1000*oh n0 (aa af f0) n2 (aa ah f2) (aa ac f13) (aa aU f15) x17 x19 x20 x22 x23 x24 x25 x26 x27 (dU x21))*dU x21)) (pi x19 x20 x21 x24 x25 x26 x27))) (cK (pi x19 x20 x21 x24 x25 x26 x27)))),vi (qR (fU n5 (aa aB f5) n7 (aa aG f7) n9 (aa aH f9) n11 (aa aA f11) x17 x24 x25 x26 x27) (b5 (wI (1000*b5 (wI (wI (1000*oy n0 (aa af f0) n2 (aa ah f2) (aa ac f13) (aa aU f15) x17 x19 x20 x22 x23 x24 x25 x26 x27 (dU x21))*dU x21)) (pF x19 x20 x21 x24 x25 x26 x27))) (dq (pF x19 x20 x21 x24 x25 x26 x27))))])))))))))))))))))))
theorem Va:cW cX (aV JJ IG u0 T8 [V.agg [V.sl n0 (aa af f0),V.sl n2 (aa ah f2),vi x4,V.sl n5 (aa aB f5),V.sl n7 (aa aG f7),V.sl n9 (aa aH f9),V.sl n11 (aa aA f11),V.sl n13 (aa ac f13),V.sl n15 (aa aU f15),vi x17,V.str s18,vi x19,vi x20,vi x21,vi x22,vi x23],V.agg [vi x24,vi x25,vi x26,vi x27]]) (Mn n0 f0 n2 f2 x4 n5 f5 n7 f7 n9 f9 n11 f11 n13 f13 n15 f15 x17 s18 x19 x20 x21 x22 x23 x24 x25 x26 x27):=bF
theorem aeF (n0:Nat) (f0:aL) (n2:Nat) (f2:aL) (x4:Int) (n5:Nat) (f5:aL) (n7:Nat) (f7:aL) (n9:Nat) (f9:aL) (n11:Nat) (f11:aL) (n13:Nat) (f13:aL) (n15:Nat) (f15:aL) (x17:Int) (s18:ByteArray) (x19 x20 x21 x22 x23 x24 x25 x26 x27:Int) (hp:(0<=x17/\x17<(n13:Int))/\(0<=x17/\x17<(n15:Int))/\(ap n0 (aa af f0)/\ap n2 (aa ah f2))/\(ap n5 (aa aB f5)/\ap n11 (aa aA f11))/\Hd x22 x23/\qn x19 x20 x21 x24 x25 x26 x27):aX cL (Mn n0 f0 n2 f2 x4 n5 f5 n7 f7 n9 f9 n11 f11 n13 f13 n15 f15 x17 s18 x19 x20 x21 x22 x23 x24 x25 x26 x27) (.agg [vi (nT n0 (aa af f0) n2 (aa ah f2) n5 (aa aB f5) n7 (aa aG f7) n9 (aa aH f9) n11 (aa aA f11) (aa ac f13) (aa aU f15) x17 x19 x20 x21 x22 x23 x24 x25 x26 x27),vi (nP n0 (aa af f0) n2 (aa ah f2) n5 (aa aB f5) n7 (aa aG f7) n9 (aa aH f9) n11 (aa aA f11) (aa ac f13) (aa aU f15) x17 x19 x20 x21 x22 x23 x24 x25 x26 x27)]):=by
 obtain ⟨h0,h1,hz,hr,hd,o⟩:=hp
 have q:=arh o
 unfold Mn
 rw [BM q.2.2,oU q.1.2,Db,y6]
 have q0:pF x19 x20 x21 x24 x25 x26 x27=0->False:=fun e=>by have:=q.1.1;omega
 have q1:pi x19 x20 x21 x24 x25 x26 x27=0->False:=fun e=>by have:=q.2.1;omega
 have d0:fl (pF x19 x20 x21 x24 x25 x26 x27)=0->False:=fun e=>by have:=(v8 q.1.1).1;omega
 have u1:e7 (pi x19 x20 x21 x24 x25 x26 x27)=0->False:=fun e=>by have:=OP q.2.1;omega
 exact au (evObt (au (evObt (evObp ⟨h0,h1,hz,hd,o.pl⟩ (evObt (au (evObt (evObp q1 (evObt (au (evObt (evObp q0 (evObt (au (evObt (evObp u1 (evObt (evObp d0 (evObt (evObp hr (evObt (evRet rfl))))))))))))))))))))))
def UB:av:=bL [.agg [.sl af,.sl ah,tI,.sl aB,.sl aG,.sl aH,.sl aA,.sl ac,.sl aU,tI,.str,tI,tI,tI,tI,tI],.agg gP] (fun
 |[.agg [.sl n0 f0,.sl n2 f2,.int _ x4,.sl n5 f5,.sl n7 f7,.sl n9 f9,.sl n11 f11,.sl n13 f13,.sl n15 f15,.int _ x17,.str s18,.int _ x19,.int _ x20,.int _ x21,.int _ x22,.int _ x23],.agg [.int _ x24,.int _ x25,.int _ x26,.int _ x27]]=>(0<=x17/\x17<(n13:Int))/\(0<=x17/\x17<(n15:Int))/\(ap n0 f0/\ap n2 f2)/\(ap n5 f5/\ap n11 f11)/\Hd x22 x23/\qn x19 x20 x21 x24 x25 x26 x27
 |_=>False) fun
 |[.agg [.sl n0 f0,.sl n2 f2,.int _ x4,.sl n5 f5,.sl n7 f7,.sl n9 f9,.sl n11 f11,.sl n13 f13,.sl n15 f15,.int _ x17,.str s18,.int _ x19,.int _ x20,.int _ x21,.int _ x22,.int _ x23],.agg [.int _ x24,.int _ x25,.int _ x26,.int _ x27]]=>.agg [vi (nT n0 f0 n2 f2 n5 f5 n7 f7 n9 f9 n11 f11 f13 f15 x17 x19 x20 x21 x22 x23 x24 x25 x26 x27),vi (nP n0 f0 n2 f2 n5 f5 n7 f7 n9 f9 n11 f11 f13 f15 x17 x19 x20 x21 x22 x23 x24 x25 x26 x27)]
 |_=>.any
theorem NI:cr UB 18:=aY Ee fun _ hp=>c9 (Va ..) (aeF _ _ _ _ _ _ _ _ _ _ _ _ _ _ _ _ _ _ _ _ _ _ _ _ _ _ _ _ hp)
def abJ:aZ:=(18,.con UB)::IG
theorem afA:aO Tryz.prog eqs its abJ:=.con NI (Ee)
def BO:Prop:=(n13=n11/\n15=n11)/\(ap n0 f0/\ap n2 f2)/\(ap n5 f5/\ap n11 f11)/\∀ i,i<n11->WO (f11 i)
def CY (a b c d:Int):Prop:=cZ a/\cZ b/\cZ c/\cZ d
def mW (f11 f13 f15:aL) (a b c d:Int):Nat->Int:=iP (jy f13) fun i=>nT n0 f0 n2 f2 n5 f5 n7 f7 n9 f9 n11 f11 f13 f15 (i:Int) (aW (f11 i)) (b7 (f11 i)) (bV (f11 i)) (dA (f11 i)) (bE (f11 i)) a b c d
def m4 (f11 f13 f15:aL) (a b c d:Int):Nat->Int:=iP (jy f13) fun i=>nP n0 f0 n2 f2 n5 f5 n7 f7 n9 f9 n11 f11 f13 f15 (i:Int) (aW (f11 i)) (b7 (f11 i)) (bV (f11 i)) (dA (f11 i)) (bE (f11 i)) a b c d
def acJ:RT Empty:=dm (x4,s18) (.obp (((0:Int)<=x17/\x17<(n13:Int))/\((0:Int)<=x17/\x17<(n15:Int))/\(ap n0 (aa af f0)/\ap n2 (aa ah f2))/\(ap n5 (aa aB f5)/\ap n11 (aa aA f11))/\Hd x22 x23/\qn x19 x20 x21 x24 x25 x26 x27) (.obt (.ret (V.agg [vi (nT n0 (aa af f0) n2 (aa ah f2) n5 (aa aB f5) n7 (aa aG f7) n9 (aa aH f9) n11 (aa aA f11) (aa ac f13) (aa aU f15) x17 x19 x20 x21 x22 x23 x24 x25 x26 x27),vi (nP n0 (aa af f0) n2 (aa ah f2) n5 (aa aB f5) n7 (aa aG f7) n9 (aa aH f9) n11 (aa aA f11) (aa ac f13) (aa aU f15) x17 x19 x20 x21 x22 x23 x24 x25 x26 x27)]))))
theorem YG:cW cX (aV JJ abJ u0 Nv [V.agg [V.sl n0 (aa af f0),V.sl n2 (aa ah f2),vi x4,V.sl n5 (aa aB f5),V.sl n7 (aa aG f7),V.sl n9 (aa aH f9),V.sl n11 (aa aA f11),V.sl n13 (aa ac f13),V.sl n15 (aa aU f15),vi x17,V.str s18,vi x19,vi x20,vi x21,vi x22,vi x23],V.pd [vi x24,vi x25,vi x26,vi x27]]) (acJ n0 f0 n2 f2 x4 n5 f5 n7 f7 n9 f9 n11 f11 n13 f13 n15 f15 x17 s18 x19 x20 x21 x22 x23 x24 x25 x26 x27):=bF
theorem ajy (n0:Nat) (f0:aL) (n2:Nat) (f2:aL) (x4:Int) (n5:Nat) (f5:aL) (n7:Nat) (f7:aL) (n9:Nat) (f9:aL) (n11:Nat) (f11:aL) (n13:Nat) (f13:aL) (n15:Nat) (f15:aL) (x17:Int) (s18:ByteArray) (x19 x20 x21 x22 x23 x24 x25 x26 x27:Int) (hp:(0<=x17/\x17<(n13:Int))/\(0<=x17/\x17<(n15:Int))/\(ap n0 (aa af f0)/\ap n2 (aa ah f2))/\(ap n5 (aa aB f5)/\ap n11 (aa aA f11))/\Hd x22 x23/\qn x19 x20 x21 x24 x25 x26 x27):aX cL (acJ n0 f0 n2 f2 x4 n5 f5 n7 f7 n9 f9 n11 f11 n13 f13 n15 f15 x17 s18 x19 x20 x21 x22 x23 x24 x25 x26 x27) (.agg [vi (nT n0 (aa af f0) n2 (aa ah f2) n5 (aa aB f5) n7 (aa aG f7) n9 (aa aH f9) n11 (aa aA f11) (aa ac f13) (aa aU f15) x17 x19 x20 x21 x22 x23 x24 x25 x26 x27),vi (nP n0 (aa af f0) n2 (aa ah f2) n5 (aa aB f5) n7 (aa aG f7) n9 (aa aH f9) n11 (aa aA f11) (aa ac f13) (aa aU f15) x17 x19 x20 x21 x22 x23 x24 x25 x26 x27)]):=evObp hp (evObt (evRet rfl))
def aaI:av:=bL [.agg [.sl af,.sl ah,tI,.sl aB,.sl aG,.sl aH,.sl aA,.sl ac,.sl aU,tI,.str,tI,tI,tI,tI,tI],.pd gP] (fun
 |[.agg [.sl n0 f0,.sl n2 f2,.int _ x4,.sl n5 f5,.sl n7 f7,.sl n9 f9,.sl n11 f11,.sl n13 f13,.sl n15 f15,.int _ x17,.str s18,.int _ x19,.int _ x20,.int _ x21,.int _ x22,.int _ x23],.pd [.int _ x24,.int _ x25,.int _ x26,.int _ x27]]=>(0<=x17/\x17<(n13:Int))/\(0<=x17/\x17<(n15:Int))/\(ap n0 f0/\ap n2 f2)/\(ap n5 f5/\ap n11 f11)/\Hd x22 x23/\qn x19 x20 x21 x24 x25 x26 x27
 |_=>False) fun
 |[.agg [.sl n0 f0,.sl n2 f2,.int _ x4,.sl n5 f5,.sl n7 f7,.sl n9 f9,.sl n11 f11,.sl n13 f13,.sl n15 f15,.int _ x17,.str s18,.int _ x19,.int _ x20,.int _ x21,.int _ x22,.int _ x23],.pd [.int _ x24,.int _ x25,.int _ x26,.int _ x27]]=>.agg [vi (nT n0 f0 n2 f2 n5 f5 n7 f7 n9 f9 n11 f11 f13 f15 x17 x19 x20 x21 x22 x23 x24 x25 x26 x27),vi (nP n0 f0 n2 f2 n5 f5 n7 f7 n9 f9 n11 f11 f13 f15 x17 x19 x20 x21 x22 x23 x24 x25 x26 x27)]
 |_=>.any
theorem af9:cr aaI 17:=aY afA fun _ hp=>c9 (YG ..) (ajy _ _ _ _ _ _ _ _ _ _ _ _ _ _ _ _ _ _ _ _ _ _ _ _ _ _ _ _ hp)
def I4:aZ:=(28,.inl xD u0)::(17,.con aaI)::(18,.con UB)::(42,.con DC)::(68,.con C17)::(37,.con yh)::(9,.con yK)::(16,.con Ab)::(23,.con Iv)::D9
theorem O8:aO Tryz.prog eqs its I4:=eT Tryz.func28 bb (.con af9 (.con NI (.con zO (.con agM (.con w4 (.con xr (.con AN (.con EF (Bv)))))))))
inductive l9 where
 |L0 (ia0:Int) (na1:Nat) (ia2 ia3:Int)
def UM:l9->bD×List O×Option Ex
 |.L0 ia0 na1 ia2 ia3=>([(8,vi ia0),(7,vi (n13:Int)),(6,V.sl n13 (aa ac f13)),(5,V.pl 4 7),(0,V.yl na1),(1,V.pl 4 0)],[O.cells [V.sl n0 (aa af f0),V.sl n2 (aa ah f2),vi x4,V.sl n5 (aa aB f5),V.sl n7 (aa aG f7),V.sl n9 (aa aH f9),V.sl n11 (aa aA f11),V.sl n13 (aa ac f13),V.sl n15 (aa aU f15)] 35,O.cells [V.fn 17 [] [V.pd [vi x17,vi x18,vi x19,vi x20]]] 70,O.cells [vi 0,vi 0] 44,O.cells [vi ia2,vi ia3] 44,O.cells [V.sl n0 (aa af f0),V.sl n2 (aa ah f2),vi x4,V.sl n5 (aa aB f5),V.sl n7 (aa aG f7),V.sl n9 (aa aH f9),V.sl n11 (aa aA f11),V.sl n13 (aa ac f13),V.sl n15 (aa aU f15)] 35],none)
def Xr:l9->JJ
 |.L0 ia0 na1 ia2 ia3=>(0,[Cx.n na1])
def Ir:T (ck JJ):=aV JJ I4 u0 vC [V.agg [V.sl n0 (aa af f0),V.sl n2 (aa ah f2),vi x4,V.sl n5 (aa aB f5),V.sl n7 (aa aG f7),V.sl n9 (aa aH f9),V.sl n11 (aa aA f11),V.sl n13 (aa ac f13),V.sl n15 (aa aU f15)],V.fn 17 [] [V.pd [vi x17,vi x18,vi x19,vi x20]]]
def yx (cx:List Cx):Lp JJ:=fQ (eZ (US (eZ (Ir n0 f0 n2 f2 x4 n5 f5 n7 f7 n9 f9 n11 f11 n13 f13 n15 f15 x17 x18 x19 x20) []) (eC cx 0)) [])
def ZT:JJ->Lp JJ
 |(0,cx)=>yx n0 f0 n2 f2 x4 n5 f5 n7 f7 n9 f9 n11 f11 n13 f13 n15 f15 x17 x18 x19 x20 cx
 |(_,cx)=>yx n0 f0 n2 f2 x4 n5 f5 n7 f7 n9 f9 n11 f11 n13 f13 n15 f15 x17 x18 x19 x20 cx
def afR:LD JJ l9:=⟨Xr,ZT n0 f0 n2 f2 x4 n5 f5 n7 f7 n9 f9 n11 f11 n13 f13 n15 f15 x17 x18 x19 x20,UM n0 f0 n2 f2 x4 n5 f5 n7 f7 n9 f9 n11 f11 n13 f13 n15 f15 x17 x18 x19 x20⟩
def z8 (n0:Nat) (f0:aL) (n2:Nat) (f2:aL) (x4:Int) (n5:Nat) (f5:aL) (n7:Nat) (f7:aL) (n9:Nat) (f9:aL) (n11:Nat) (f11:aL) (n13:Nat) (f13:aL) (n15:Nat) (f15:aL) (x17 x18 x19 x20:Int):l9->RT l9
 |.L0 ia0 na1 ia2 ia3=>.br (decide (ia0<(n13:Int))) (.ob (dI ia0 n13) (.iv (.obj (decide (0<=aw (f13 ia0.toNat))) (dI ia0 n11) (.iv (.br (decide (0<=aw (f13 ia0.toNat))) (.ob (decide (0<=aw (f13 ia0.toNat))) (.ob (decide (0<=aw (f13 ia0.toNat))) (.obp (((0:Int)<=ia0/\ia0<(n13:Int))/\((0:Int)<=ia0/\ia0<(n15:Int))/\(ap n0 (aa af f0)/\ap n2 (aa ah f2))/\(ap n5 (aa aB f5)/\ap n11 (aa aA f11))/\Hd (dA (f11 ia0.toNat)) (bE (f11 ia0.toNat))/\qn (aW (f11 ia0.toNat)) (b7 (f11 ia0.toNat)) (bV (f11 ia0.toNat)) x17 x18 x19 x20) (.obt (.next (iR 0 5 []) (l9.L0 (wI (ia0+1)) na1 (wI (ia2+nT n0 (aa af f0) n2 (aa ah f2) n5 (aa aB f5) n7 (aa aG f7) n9 (aa aH f9) n11 (aa aA f11) (aa ac f13) (aa aU f15) ia0 (aW (f11 ia0.toNat)) (b7 (f11 ia0.toNat)) (bV (f11 ia0.toNat)) (dA (f11 ia0.toNat)) (bE (f11 ia0.toNat)) x17 x18 x19 x20)) (wI (ia3+nP n0 (aa af f0) n2 (aa ah f2) n5 (aa aB f5) n7 (aa aG f7) n9 (aa aH f9) n11 (aa aA f11) (aa ac f13) (aa aU f15) ia0 (aW (f11 ia0.toNat)) (b7 (f11 ia0.toNat)) (bV (f11 ia0.toNat)) (dA (f11 ia0.toNat)) (bE (f11 ia0.toNat)) x17 x18 x19 x20))) []))))) (.next (iR 0 5 []) (l9.L0 (wI (ia0+1)) na1 ia2 ia3) [])))))) (.ret (V.agg [vi ia2,vi ia3]))
def OE:RT l9:=dm (n0,f0,n2,f2,x4,n5,f5,n7,f7,n9,f9,n11,f11,f13,n15,f15,x17,x18,x19,x20) (.all (fun l_8506=>.am n13 (.enter (iR 0 5 []) (l9.L0 0 (l_8506) 0 0) [])))
theorem Nn:eS I4 u0 (afR n0 f0 n2 f2 x4 n5 f5 n7 f7 n9 f9 n11 f11 n13 f13 n15 f15 x17 x18 x19 x20) (Ir n0 f0 n2 f2 x4 n5 f5 n7 f7 n9 f9 n11 f11 n13 f13 n15 f15 x17 x18 x19 x20) (OE n0 f0 n2 f2 x4 n5 f5 n7 f7 n9 f9 n11 f11 n13 f13 n15 f15 x17 x18 x19 x20) (z8 n0 f0 n2 f2 x4 n5 f5 n7 f7 n9 f9 n11 f11 n13 f13 n15 f15 x17 x18 x19 x20):=⟨bF,fun s=>by cases s<;>exact bF⟩
theorem ahY (hn:n13<=9223372036854775807) (l:Nat) (hp:BO n0 (aa af f0) n2 (aa ah f2) n5 (aa aB f5) n11 (aa aA f11) n13 n15/\CY x17 x18 x19 x20):∀ k,k<=n13->Ev (z8 n0 f0 n2 f2 x4 n5 f5 n7 f7 n9 f9 n11 f11 n13 f13 n15 f15 x17 x18 x19 x20) (.L0 (k:Int) l (mW n0 (aa af f0) n2 (aa ah f2) n5 (aa aB f5) n7 (aa aG f7) n9 (aa aH f9) n11 (aa aA f11) (aa ac f13) (aa aU f15) x17 x18 x19 x20 k) (m4 n0 (aa af f0) n2 (aa ah f2) n5 (aa aB f5) n7 (aa aG f7) n9 (aa aH f9) n11 (aa aA f11) (aa ac f13) (aa aU f15) x17 x18 x19 x20 k)) (.agg [vi (mW n0 (aa af f0) n2 (aa ah f2) n5 (aa aB f5) n7 (aa aG f7) n9 (aa aH f9) n11 (aa aA f11) (aa ac f13) (aa aU f15) x17 x18 x19 x20 n13),vi (m4 n0 (aa af f0) n2 (aa ah f2) n5 (aa aB f5) n7 (aa aG f7) n9 (aa aH f9) n11 (aa aA f11) (aa ac f13) (aa aU f15) x17 x18 x19 x20 n13)]):=by
 obtain ⟨⟨⟨h1,h2⟩,hz,hr,hc⟩,hv⟩:=hp
 refine dO fun k hk ih=>Ev.of rfl ?_
 skip
 by_cases hlt:k<n13
 ·have hw:wI ((k:Int)+1)=((k+1:Nat):Int):=by rw[wrapI (by omega) (by omega)];omega
  have ih:=ih hlt
  rw [← hw]at ih
  have c:=hc k (by omega)
  refine cI (dqt (by omega)) (aD (dqt (by omega)) (evObi (evObi (evObi (evObi (d5 (fun _=>dqt (by omega)) (evObi (evObi (evObi (evObi (evBr (fun h=>aD h (aD h (evObp ⟨by omega,by omega,hz,hr,c.hd,⟨⟨c.px,c.py,c.ph⟩,hv⟩⟩ (evObt (aS ?_))))) (fun h=>aS ?_))))))))))))
  ·have h:jy (aa ac f13) k=true:=h
   unfold mW m4 at ih
   rw [kT h,kT h]at ih
   exact ih
  ·have h:jy (aa ac f13) k=false:=h
   unfold mW m4 at ih
   rw [jY h,jY h]at ih
   exact ih
 ·have e:k=n13:=by omega
  refine cS (ef (by omega)) ?_
  rw [e]
  exact evRet rfl
theorem aaa (hp:BO n0 (aa af f0) n2 (aa ah f2) n5 (aa aB f5) n11 (aa aA f11) n13 n15/\CY x17 x18 x19 x20):aX (Ev (z8 n0 f0 n2 f2 x4 n5 f5 n7 f7 n9 f9 n11 f11 n13 f13 n15 f15 x17 x18 x19 x20)) (OE n0 f0 n2 f2 x4 n5 f5 n7 f7 n9 f9 n11 f11 n13 f13 n15 f15 x17 x18 x19 x20) (.agg [vi (mW n0 (aa af f0) n2 (aa ah f2) n5 (aa aB f5) n7 (aa aG f7) n9 (aa aH f9) n11 (aa aA f11) (aa ac f13) (aa aU f15) x17 x18 x19 x20 n13),vi (m4 n0 (aa af f0) n2 (aa ah f2) n5 (aa aB f5) n7 (aa aG f7) n9 (aa aH f9) n11 (aa aA f11) (aa ac f13) (aa aU f15) x17 x18 x19 x20 n13)]):=po fun l=>bw fun hn=>aM (ahY n0 f0 n2 f2 x4 n5 f5 n7 f7 n9 f9 n11 f11 n13 f13 n15 f15 x17 x18 x19 x20 hn l hp 0 (acK _))
def Qs:av:=bL [.agg [.sl af,.sl ah,tI,.sl aB,.sl aG,.sl aH,.sl aA,.sl ac,.sl aU],.fn 17 [] [.pd gP]] (fun
 |[.agg [.sl n0 f0,.sl n2 f2,.int _ x4,.sl n5 f5,.sl n7 f7,.sl n9 f9,.sl n11 f11,.sl n13 f13,.sl n15 f15],.fn _ [] [.pd [.int _ x17,.int _ x18,.int _ x19,.int _ x20]]]=>BO n0 f0 n2 f2 n5 f5 n11 f11 n13 n15/\CY x17 x18 x19 x20
 |_=>False) fun
 |[.agg [.sl n0 f0,.sl n2 f2,.int _ x4,.sl n5 f5,.sl n7 f7,.sl n9 f9,.sl n11 f11,.sl n13 f13,.sl n15 f15],.fn _ [] [.pd [.int _ x17,.int _ x18,.int _ x19,.int _ x20]]]=>.agg [vi (mW n0 f0 n2 f2 n5 f5 n7 f7 n9 f9 n11 f11 f13 f15 x17 x18 x19 x20 n13),vi (m4 n0 f0 n2 f2 n5 f5 n7 f7 n9 f9 n11 f11 f13 f15 x17 x18 x19 x20 n13)]
 |_=>.any
theorem X5:cr Qs 16:=aY O8 fun _ hp=>nd (Nn ..) (aaa _ _ _ _ _ _ _ _ _ _ _ _ _ _ _ _ _ _ _ _ _ hp)
theorem adh {e a b c d:Int} (h:eX e a b c d=0):e=0/\gb a b c d=true:=by
 unfold eX at h
 cases h1:e==0 with
 | false =>
   rw [h1]at h
   have h:e=0:=h
   rw [h]at h1;cases h1
 | true =>
   rw [h1]at h
   cases h2:gb a b c d with
   |false=>rw[h2]at h;cases h
   |true=>exact⟨ajV h1,rfl⟩
def aa3:aZ:=(21,.con Qt)::(44,.con HI)::IG
theorem agC:aO Tryz.prog eqs its aa3:=.con Q5 (.con ES (Ee))
def mZ (f11 f13 f15:aL) (a b c d dx dy:Int):Nat->Int:=iP (jy f13) fun i=>nG n0 f0 n2 f2 x4 n5 f5 n7 f7 n9 f9 n11 f11 f13 f15 (i:Int) (aW (f11 i)) (b7 (f11 i)) (bV (f11 i)) (dA (f11 i)) (bE (f11 i)) a b c d dx dy
def mY (f11 f13 f15:aL) (a b c d dx dy:Int):Nat->Int:=iP (jy f13) fun i=>nO n0 f0 n2 f2 x4 n5 f5 n7 f7 n9 f9 n11 f11 f13 f15 (i:Int) (aW (f11 i)) (b7 (f11 i)) (bV (f11 i)) (dA (f11 i)) (bE (f11 i)) a b c d dx dy
def acd:RT Empty:=dm s18 (.obp (((0:Int)<=x17/\x17<(n13:Int))/\((0:Int)<=x17/\x17<(n15:Int))/\(ap n0 (aa af f0)/\ap n2 (aa ah f2))/\(ap n5 (aa aB f5)/\ap n11 (aa aA f11))/\Hd x22 x23/\qn x19 x20 x21 x24 x25 x26 x27/\Hd x28 x29) (.obt (.ret (V.agg [vi (nG n0 (aa af f0) n2 (aa ah f2) x4 n5 (aa aB f5) n7 (aa aG f7) n9 (aa aH f9) n11 (aa aA f11) (aa ac f13) (aa aU f15) x17 x19 x20 x21 x22 x23 x24 x25 x26 x27 x28 x29),vi (nO n0 (aa af f0) n2 (aa ah f2) x4 n5 (aa aB f5) n7 (aa aG f7) n9 (aa aH f9) n11 (aa aA f11) (aa ac f13) (aa aU f15) x17 x19 x20 x21 x22 x23 x24 x25 x26 x27 x28 x29)]))))
theorem YJ:cW cX (aV JJ aa3 u0 Og [V.agg [V.sl n0 (aa af f0),V.sl n2 (aa ah f2),vi x4,V.sl n5 (aa aB f5),V.sl n7 (aa aG f7),V.sl n9 (aa aH f9),V.sl n11 (aa aA f11),V.sl n13 (aa ac f13),V.sl n15 (aa aU f15),vi x17,V.str s18,vi x19,vi x20,vi x21,vi x22,vi x23],V.pd [vi x24,vi x25,vi x26,vi x27],V.pd [vi x28,vi x29]]) (acd n0 f0 n2 f2 x4 n5 f5 n7 f7 n9 f9 n11 f11 n13 f13 n15 f15 x17 s18 x19 x20 x21 x22 x23 x24 x25 x26 x27 x28 x29):=bF
theorem ais (n0:Nat) (f0:aL) (n2:Nat) (f2:aL) (x4:Int) (n5:Nat) (f5:aL) (n7:Nat) (f7:aL) (n9:Nat) (f9:aL) (n11:Nat) (f11:aL) (n13:Nat) (f13:aL) (n15:Nat) (f15:aL) (x17:Int) (s18:ByteArray) (x19 x20 x21 x22 x23 x24 x25 x26 x27 x28 x29:Int) (hp:(0<=x17/\x17<(n13:Int))/\(0<=x17/\x17<(n15:Int))/\(ap n0 (aa af f0)/\ap n2 (aa ah f2))/\(ap n5 (aa aB f5)/\ap n11 (aa aA f11))/\Hd x22 x23/\qn x19 x20 x21 x24 x25 x26 x27/\Hd x28 x29):aX cL (acd n0 f0 n2 f2 x4 n5 f5 n7 f7 n9 f9 n11 f11 n13 f13 n15 f15 x17 s18 x19 x20 x21 x22 x23 x24 x25 x26 x27 x28 x29) (.agg [vi (nG n0 (aa af f0) n2 (aa ah f2) x4 n5 (aa aB f5) n7 (aa aG f7) n9 (aa aH f9) n11 (aa aA f11) (aa ac f13) (aa aU f15) x17 x19 x20 x21 x22 x23 x24 x25 x26 x27 x28 x29),vi (nO n0 (aa af f0) n2 (aa ah f2) x4 n5 (aa aB f5) n7 (aa aG f7) n9 (aa aH f9) n11 (aa aA f11) (aa ac f13) (aa aU f15) x17 x19 x20 x21 x22 x23 x24 x25 x26 x27 x28 x29)]):=evObp hp (evObt (evRet rfl))
def adp:av:=bL [.agg [.sl af,.sl ah,tI,.sl aB,.sl aG,.sl aH,.sl aA,.sl ac,.sl aU,tI,.str,tI,tI,tI,tI,tI],.pd gP,.pd aJ] (fun
 |[.agg [.sl n0 f0,.sl n2 f2,.int _ x4,.sl n5 f5,.sl n7 f7,.sl n9 f9,.sl n11 f11,.sl n13 f13,.sl n15 f15,.int _ x17,.str s18,.int _ x19,.int _ x20,.int _ x21,.int _ x22,.int _ x23],.pd [.int _ x24,.int _ x25,.int _ x26,.int _ x27],.pd [.int _ x28,.int _ x29]]=>(0<=x17/\x17<(n13:Int))/\(0<=x17/\x17<(n15:Int))/\(ap n0 f0/\ap n2 f2)/\(ap n5 f5/\ap n11 f11)/\Hd x22 x23/\qn x19 x20 x21 x24 x25 x26 x27/\Hd x28 x29
 |_=>False) fun
 |[.agg [.sl n0 f0,.sl n2 f2,.int _ x4,.sl n5 f5,.sl n7 f7,.sl n9 f9,.sl n11 f11,.sl n13 f13,.sl n15 f15,.int _ x17,.str s18,.int _ x19,.int _ x20,.int _ x21,.int _ x22,.int _ x23],.pd [.int _ x24,.int _ x25,.int _ x26,.int _ x27],.pd [.int _ x28,.int _ x29]]=>.agg [vi (nG n0 f0 n2 f2 x4 n5 f5 n7 f7 n9 f9 n11 f11 f13 f15 x17 x19 x20 x21 x22 x23 x24 x25 x26 x27 x28 x29),vi (nO n0 f0 n2 f2 x4 n5 f5 n7 f7 n9 f9 n11 f11 f13 f15 x17 x19 x20 x21 x22 x23 x24 x25 x26 x27 x28 x29)]
 |_=>.any
theorem agN:cr adp 20:=aY agC fun _ hp=>c9 (YJ ..) (ais _ _ _ _ _ _ _ _ _ _ _ _ _ _ _ _ _ _ _ _ _ _ _ _ _ _ _ _ _ _ hp)
def JL:aZ:=(28,.inl xD u0)::(20,.con adp)::(21,.con Qt)::(44,.con HI)::(42,.con DC)::(68,.con C17)::(37,.con yh)::(9,.con yK)::(16,.con Ab)::(23,.con Iv)::D9
theorem SC:aO Tryz.prog eqs its JL:=eT Tryz.func28 bb (.con agN (.con Q5 (.con ES (.con zO (.con agM (.con w4 (.con xr (.con AN (.con EF (Bv))))))))))
inductive mG where
 |L0 (ia0:Int) (na1:Nat) (ia2 ia3:Int)
def Ub:mG->bD×List O×Option Ex
 |.L0 ia0 na1 ia2 ia3=>([(8,vi ia0),(7,vi (n13:Int)),(6,V.sl n13 (aa ac f13)),(5,V.pl 4 7),(0,V.yl na1),(1,V.pl 4 0)],[O.cells [V.sl n0 (aa af f0),V.sl n2 (aa ah f2),vi x4,V.sl n5 (aa aB f5),V.sl n7 (aa aG f7),V.sl n9 (aa aH f9),V.sl n11 (aa aA f11),V.sl n13 (aa ac f13),V.sl n15 (aa aU f15)] 35,O.cells [V.fn 20 [] [V.pd [vi x17,vi x18,vi x19,vi x20],V.pd [vi x21,vi x22]]] 70,O.cells [vi 0,vi 0] 44,O.cells [vi ia2,vi ia3] 44,O.cells [V.sl n0 (aa af f0),V.sl n2 (aa ah f2),vi x4,V.sl n5 (aa aB f5),V.sl n7 (aa aG f7),V.sl n9 (aa aH f9),V.sl n11 (aa aA f11),V.sl n13 (aa ac f13),V.sl n15 (aa aU f15)] 35],none)
def Wp:mG->JJ
 |.L0 ia0 na1 ia2 ia3=>(0,[Cx.n na1])
def Je:T (ck JJ):=aV JJ JL u0 vC [V.agg [V.sl n0 (aa af f0),V.sl n2 (aa ah f2),vi x4,V.sl n5 (aa aB f5),V.sl n7 (aa aG f7),V.sl n9 (aa aH f9),V.sl n11 (aa aA f11),V.sl n13 (aa ac f13),V.sl n15 (aa aU f15)],V.fn 20 [] [V.pd [vi x17,vi x18,vi x19,vi x20],V.pd [vi x21,vi x22]]]
def y9 (cx:List Cx):Lp JJ:=fQ (eZ (US (eZ (Je n0 f0 n2 f2 x4 n5 f5 n7 f7 n9 f9 n11 f11 n13 f13 n15 f15 x17 x18 x19 x20 x21 x22) []) (eC cx 0)) [])
def Xc:JJ->Lp JJ
 |(0,cx)=>y9 n0 f0 n2 f2 x4 n5 f5 n7 f7 n9 f9 n11 f11 n13 f13 n15 f15 x17 x18 x19 x20 x21 x22 cx
 |(_,cx)=>y9 n0 f0 n2 f2 x4 n5 f5 n7 f7 n9 f9 n11 f11 n13 f13 n15 f15 x17 x18 x19 x20 x21 x22 cx
def aig:LD JJ mG:=⟨Wp,Xc n0 f0 n2 f2 x4 n5 f5 n7 f7 n9 f9 n11 f11 n13 f13 n15 f15 x17 x18 x19 x20 x21 x22,Ub n0 f0 n2 f2 x4 n5 f5 n7 f7 n9 f9 n11 f11 n13 f13 n15 f15 x17 x18 x19 x20 x21 x22⟩
def zK:mG->RT mG
 |.L0 ia0 na1 ia2 ia3=>.br (decide (ia0<(n13:Int))) (.ob (dI ia0 n13) (.iv (.obj (decide (0<=aw (f13 ia0.toNat))) (dI ia0 n11) (.iv (.br (decide (0<=aw (f13 ia0.toNat))) (.ob (decide (0<=aw (f13 ia0.toNat))) (.ob (decide (0<=aw (f13 ia0.toNat))) (.obp (((0:Int)<=ia0/\ia0<(n13:Int))/\((0:Int)<=ia0/\ia0<(n15:Int))/\(ap n0 (aa af f0)/\ap n2 (aa ah f2))/\(ap n5 (aa aB f5)/\ap n11 (aa aA f11))/\Hd (dA (f11 ia0.toNat)) (bE (f11 ia0.toNat))/\qn (aW (f11 ia0.toNat)) (b7 (f11 ia0.toNat)) (bV (f11 ia0.toNat)) x17 x18 x19 x20/\Hd x21 x22) (.obt (.next (iR 0 5 []) (mG.L0 (wI (ia0+1)) na1 (wI (ia2+nG n0 (aa af f0) n2 (aa ah f2) x4 n5 (aa aB f5) n7 (aa aG f7) n9 (aa aH f9) n11 (aa aA f11) (aa ac f13) (aa aU f15) ia0 (aW (f11 ia0.toNat)) (b7 (f11 ia0.toNat)) (bV (f11 ia0.toNat)) (dA (f11 ia0.toNat)) (bE (f11 ia0.toNat)) x17 x18 x19 x20 x21 x22)) (wI (ia3+nO n0 (aa af f0) n2 (aa ah f2) x4 n5 (aa aB f5) n7 (aa aG f7) n9 (aa aH f9) n11 (aa aA f11) (aa ac f13) (aa aU f15) ia0 (aW (f11 ia0.toNat)) (b7 (f11 ia0.toNat)) (bV (f11 ia0.toNat)) (dA (f11 ia0.toNat)) (bE (f11 ia0.toNat)) x17 x18 x19 x20 x21 x22))) []))))) (.next (iR 0 5 []) (mG.L0 (wI (ia0+1)) na1 ia2 ia3) [])))))) (.ret (V.agg [vi ia2,vi ia3]))
def NE:RT mG:=dm (n0,f0,n2,f2,x4,n5,f5,n7,f7,n9,f9,n11,f11,f13,n15,f15,x17,x18,x19,x20,x21,x22) (.all (fun l_8642=>.am n13 (.enter (iR 0 5 []) (mG.L0 0 (l_8642) 0 0) [])))
theorem yaU:eS JL u0 (aig n0 f0 n2 f2 x4 n5 f5 n7 f7 n9 f9 n11 f11 n13 f13 n15 f15 x17 x18 x19 x20 x21 x22) (Je n0 f0 n2 f2 x4 n5 f5 n7 f7 n9 f9 n11 f11 n13 f13 n15 f15 x17 x18 x19 x20 x21 x22) (NE n0 f0 n2 f2 x4 n5 f5 n7 f7 n9 f9 n11 f11 n13 f13 n15 f15 x17 x18 x19 x20 x21 x22) (zK n0 f0 n2 f2 x4 n5 f5 n7 f7 n9 f9 n11 f11 n13 f13 n15 f15 x17 x18 x19 x20 x21 x22):=⟨bF,fun s=>by cases s<;>exact bF⟩
theorem af4 (hn:n13<=9223372036854775807) (l:Nat) (hp:BO n0 (aa af f0) n2 (aa ah f2) n5 (aa aB f5) n11 (aa aA f11) n13 n15/\CY x17 x18 x19 x20/\Hd x21 x22):∀ k,k<=n13->Ev (zK n0 f0 n2 f2 x4 n5 f5 n7 f7 n9 f9 n11 f11 n13 f13 n15 f15 x17 x18 x19 x20 x21 x22) (.L0 (k:Int) l (mZ n0 (aa af f0) n2 (aa ah f2) x4 n5 (aa aB f5) n7 (aa aG f7) n9 (aa aH f9) n11 (aa aA f11) (aa ac f13) (aa aU f15) x17 x18 x19 x20 x21 x22 k) (mY n0 (aa af f0) n2 (aa ah f2) x4 n5 (aa aB f5) n7 (aa aG f7) n9 (aa aH f9) n11 (aa aA f11) (aa ac f13) (aa aU f15) x17 x18 x19 x20 x21 x22 k)) (.agg [vi (mZ n0 (aa af f0) n2 (aa ah f2) x4 n5 (aa aB f5) n7 (aa aG f7) n9 (aa aH f9) n11 (aa aA f11) (aa ac f13) (aa aU f15) x17 x18 x19 x20 x21 x22 n13),vi (mY n0 (aa af f0) n2 (aa ah f2) x4 n5 (aa aB f5) n7 (aa aG f7) n9 (aa aH f9) n11 (aa aA f11) (aa ac f13) (aa aU f15) x17 x18 x19 x20 x21 x22 n13)]):=by
 obtain ⟨⟨⟨h1,h2⟩,hz,hr,hc⟩,hv⟩:=hp
 refine dO fun k hk ih=>Ev.of rfl ?_
 skip
 by_cases hlt:k<n13
 ·have hw:wI ((k:Int)+1)=((k+1:Nat):Int):=by rw[wrapI (by omega) (by omega)];omega
  have ih:=ih hlt
  rw [← hw]at ih
  have c:=hc k (by omega)
  refine cI (dqt (by omega)) (aD (dqt (by omega)) (evObi (evObi (evObi (evObi (d5 (fun _=>dqt (by omega)) (evObi (evObi (evObi (evObi (evBr (fun h=>aD h (aD h (evObp ⟨by omega,by omega,hz,hr,c.hd,⟨⟨c.px,c.py,c.ph⟩,hv.1⟩,hv.2⟩ (evObt (aS ?_))))) (fun h=>aS ?_))))))))))))
  ·have h:jy (aa ac f13) k=true:=h
   unfold mZ mY at ih
   rw [kT h,kT h]at ih
   exact ih
  ·have h:jy (aa ac f13) k=false:=h
   unfold mZ mY at ih
   rw [jY h,jY h]at ih
   exact ih
 ·have e:k=n13:=by omega
  refine cS (ef (by omega)) ?_
  rw [e]
  exact evRet rfl
theorem Xl (hp:BO n0 (aa af f0) n2 (aa ah f2) n5 (aa aB f5) n11 (aa aA f11) n13 n15/\CY x17 x18 x19 x20/\Hd x21 x22):aX (Ev (zK n0 f0 n2 f2 x4 n5 f5 n7 f7 n9 f9 n11 f11 n13 f13 n15 f15 x17 x18 x19 x20 x21 x22)) (NE n0 f0 n2 f2 x4 n5 f5 n7 f7 n9 f9 n11 f11 n13 f13 n15 f15 x17 x18 x19 x20 x21 x22) (.agg [vi (mZ n0 (aa af f0) n2 (aa ah f2) x4 n5 (aa aB f5) n7 (aa aG f7) n9 (aa aH f9) n11 (aa aA f11) (aa ac f13) (aa aU f15) x17 x18 x19 x20 x21 x22 n13),vi (mY n0 (aa af f0) n2 (aa ah f2) x4 n5 (aa aB f5) n7 (aa aG f7) n9 (aa aH f9) n11 (aa aA f11) (aa ac f13) (aa aU f15) x17 x18 x19 x20 x21 x22 n13)]):=po fun l=>bw fun hn=>aM (af4 n0 f0 n2 f2 x4 n5 f5 n7 f7 n9 f9 n11 f11 n13 f13 n15 f15 x17 x18 x19 x20 x21 x22 hn l hp 0 (acK _))
def OZ:av:=bL [.agg [.sl af,.sl ah,tI,.sl aB,.sl aG,.sl aH,.sl aA,.sl ac,.sl aU],.fn 20 [] [.pd gP,.pd aJ]] (fun
 |[.agg [.sl n0 f0,.sl n2 f2,.int _ x4,.sl n5 f5,.sl n7 f7,.sl n9 f9,.sl n11 f11,.sl n13 f13,.sl n15 f15],.fn _ [] [.pd [.int _ x17,.int _ x18,.int _ x19,.int _ x20],.pd [.int _ x21,.int _ x22]]]=>BO n0 f0 n2 f2 n5 f5 n11 f11 n13 n15/\CY x17 x18 x19 x20/\Hd x21 x22
 |_=>False) fun
 |[.agg [.sl n0 f0,.sl n2 f2,.int _ x4,.sl n5 f5,.sl n7 f7,.sl n9 f9,.sl n11 f11,.sl n13 f13,.sl n15 f15],.fn _ [] [.pd [.int _ x17,.int _ x18,.int _ x19,.int _ x20],.pd [.int _ x21,.int _ x22]]]=>.agg [vi (mZ n0 f0 n2 f2 x4 n5 f5 n7 f7 n9 f9 n11 f11 f13 f15 x17 x18 x19 x20 x21 x22 n13),vi (mY n0 f0 n2 f2 x4 n5 f5 n7 f7 n9 f9 n11 f11 f13 f15 x17 x18 x19 x20 x21 x22 n13)]
 |_=>.any
theorem WP:cr OZ 16:=aY SC fun _ hp=>nd (yaU ..) (Xl _ _ _ _ _ _ _ _ _ _ _ _ _ _ _ _ _ _ _ _ _ _ _ hp)
def aa1:aZ:=(16,.con Qs)::I4
theorem ae3:aO Tryz.prog eqs its aa1:=.con X5 (O8)
theorem ady {e a b c d:Int} (h:e≠0):eX e a b c d=e:=by
 unfold eX
 rw [show(e==0)=false from by simpa using h];rfl
theorem aaE {a b c d:Int} (h:gb a b c d=false):eX 0 a b c d=7:=by unfold eX;rw[h];rfl
theorem abG {a b c d:Int} (h:gb a b c d=true):eX 0 a b c d=0:=by unfold eX;rw[h];rfl
def adj:RT Empty:=.obp (ap n0 (aa af f0)/\ap n2 (aa ah f2)/\ap n5 (aa aB f5)/\ap n11 (aa aA f11)) (.obt (.br (dX n0 (aa af f0) n2 (aa ah f2) x4 n5 (aa aB f5) n7 (aa aG f7) n9 (aa aH f9) n11 (aa aA f11) n13 (aa ac f13) n15 (aa aU f15)!=0) (.ret (V.tup [V.agg [vi 0,vi 0],vi (dX n0 (aa af f0) n2 (aa ah f2) x4 n5 (aa aB f5) n7 (aa aG f7) n9 (aa aH f9) n11 (aa aA f11) n13 (aa ac f13) n15 (aa aU f15))])) (.cb (.br (!gb x17 x18 x19 x20) (.ret (V.tup [V.agg [vi 0,vi 0],vi 7])) (.obp (BO n0 (aa af f0) n2 (aa ah f2) n5 (aa aB f5) n11 (aa aA f11) n13 n15/\CY x17 x18 x19 x20) (.obt (.ret (V.tup [V.agg [vi (mW n0 (aa af f0) n2 (aa ah f2) n5 (aa aB f5) n7 (aa aG f7) n9 (aa aH f9) n11 (aa aA f11) (aa ac f13) (aa aU f15) x17 x18 x19 x20 n13),vi (m4 n0 (aa af f0) n2 (aa ah f2) n5 (aa aB f5) n7 (aa aG f7) n9 (aa aH f9) n11 (aa aA f11) (aa ac f13) (aa aU f15) x17 x18 x19 x20 n13)],vi 0]))))))))
theorem aak:cW cX (aV JJ aa1 u0 Uc [V.agg [V.sl n0 (aa af f0),V.sl n2 (aa ah f2),vi x4,V.sl n5 (aa aB f5),V.sl n7 (aa aG f7),V.sl n9 (aa aH f9),V.sl n11 (aa aA f11),V.sl n13 (aa ac f13),V.sl n15 (aa aU f15)],V.agg [vi x17,vi x18,vi x19,vi x20]]) (adj n0 f0 n2 f2 x4 n5 f5 n7 f7 n9 f9 n11 f11 n13 f13 n15 f15 x17 x18 x19 x20):=bF
theorem ajw (hp:ap n0 (aa af f0)/\ap n2 (aa ah f2)/\ap n5 (aa aB f5)/\ap n11 (aa aA f11)):aX cL (adj n0 f0 n2 f2 x4 n5 f5 n7 f7 n9 f9 n11 f11 n13 f13 n15 f15 x17 x18 x19 x20) (.tup [.agg [vi (iA (eX (dX n0 (aa af f0) n2 (aa ah f2) x4 n5 (aa aB f5) n7 (aa aG f7) n9 (aa aH f9) n11 (aa aA f11) n13 (aa ac f13) n15 (aa aU f15)) x17 x18 x19 x20) (mW n0 (aa af f0) n2 (aa ah f2) n5 (aa aB f5) n7 (aa aG f7) n9 (aa aH f9) n11 (aa aA f11) (aa ac f13) (aa aU f15) x17 x18 x19 x20 n13)),vi (iA (eX (dX n0 (aa af f0) n2 (aa ah f2) x4 n5 (aa aB f5) n7 (aa aG f7) n9 (aa aH f9) n11 (aa aA f11) n13 (aa ac f13) n15 (aa aU f15)) x17 x18 x19 x20) (m4 n0 (aa af f0) n2 (aa ah f2) n5 (aa aB f5) n7 (aa aG f7) n9 (aa aH f9) n11 (aa aA f11) (aa ac f13) (aa aU f15) x17 x18 x19 x20 n13))],vi (eX (dX n0 (aa af f0) n2 (aa ah f2) x4 n5 (aa aB f5) n7 (aa aG f7) n9 (aa aH f9) n11 (aa aA f11) n13 (aa ac f13) n15 (aa aU f15)) x17 x18 x19 x20)]):=by
 refine evObp hp (evObt (evBr (fun h=>evRet (mu (ady (lC h)) (lC h))) (fun h=>?_)))
 have h0:(dX n0 (aa af f0) n2 (aa ah f2) x4 n5 (aa aB f5) n7 (aa aG f7) n9 (aa aH f9) n11 (aa aA f11) n13 (aa ac f13) n15 (aa aU f15))=0:=gM h
 have G:=vv h0
 rw [h0]
 exact au (evObt (evBr (fun h1=>evRet (mu (aaE (AY h1)) (by decide))) (fun h1=>evObp ⟨⟨⟨G.ll,G.lu⟩,⟨hp.1,hp.2.1⟩,⟨hp.2.2.1,hp.2.2.2⟩,G.cl⟩,aol (notf h1)⟩ (evObt (evRet (NR (abG (notf h1))))))))
def adq:av:=bL [.agg [.sl af,.sl ah,tI,.sl aB,.sl aG,.sl aH,.sl aA,.sl ac,.sl aU],.agg gP] (fun
 |[.agg [.sl n0 f0,.sl n2 f2,.int _ x4,.sl n5 f5,.sl n7 f7,.sl n9 f9,.sl n11 f11,.sl n13 f13,.sl n15 f15],.agg [.int _ x17,.int _ x18,.int _ x19,.int _ x20]]=>ap n0 f0/\ap n2 f2/\ap n5 f5/\ap n11 f11
 |_=>False) fun
 |[.agg [.sl n0 f0,.sl n2 f2,.int _ x4,.sl n5 f5,.sl n7 f7,.sl n9 f9,.sl n11 f11,.sl n13 f13,.sl n15 f15],.agg [.int _ x17,.int _ x18,.int _ x19,.int _ x20]]=>.tup [.agg [vi (iA (eX (dX n0 f0 n2 f2 x4 n5 f5 n7 f7 n9 f9 n11 f11 n13 f13 n15 f15) x17 x18 x19 x20) (mW n0 f0 n2 f2 n5 f5 n7 f7 n9 f9 n11 f11 f13 f15 x17 x18 x19 x20 n13)),vi (iA (eX (dX n0 f0 n2 f2 x4 n5 f5 n7 f7 n9 f9 n11 f11 n13 f13 n15 f15) x17 x18 x19 x20) (m4 n0 f0 n2 f2 n5 f5 n7 f7 n9 f9 n11 f11 f13 f15 x17 x18 x19 x20 n13))],vi (eX (dX n0 f0 n2 f2 x4 n5 f5 n7 f7 n9 f9 n11 f11 n13 f13 n15 f15) x17 x18 x19 x20)]
 |_=>.any
theorem afO:cr adq 7:=aY ae3 fun _ hp=>c9 (aak ..) (ajw _ _ _ _ _ _ _ _ _ _ _ _ _ _ _ _ _ _ _ _ _ hp)
def abD:aZ:=(16,.con OZ)::JL
theorem adP:aO Tryz.prog eqs its abD:=.con WP (SC)
def BG (p dx dy x4:Int):Int:=bif p==0 then bif !yaf dx dy then 2 else bif decide (x4<0) then 4 else 0 else p
theorem acq {p dx dy x4:Int} (h:p≠0):BG p dx dy x4=p:=by
 unfold BG
 rw [show(p==0)=false from by simpa using h];rfl
theorem aln {dx dy x4:Int} (h:yaf dx dy=false):BG 0 dx dy x4=2:=by unfold BG;rw[h];rfl
theorem aop {dx dy x4:Int} (h:yaf dx dy=true) (k:decide (x4<0)=true):BG 0 dx dy x4=4:=by unfold BG;rw[h,k];rfl
theorem alR {dx dy x4:Int} (h:yaf dx dy=true) (k:decide (x4<0)=false):BG 0 dx dy x4=0:=by unfold BG;rw[h,k];rfl
def abn:RT Empty:=.obp (ap n0 (aa af f0)/\ap n2 (aa ah f2)/\ap n5 (aa aB f5)/\ap n11 (aa aA f11)) (.obt (.br (dX n0 (aa af f0) n2 (aa ah f2) x4 n5 (aa aB f5) n7 (aa aG f7) n9 (aa aH f9) n11 (aa aA f11) n13 (aa ac f13) n15 (aa aU f15)!=0) (.ret (V.tup [V.agg [vi 0,vi 0],vi (dX n0 (aa af f0) n2 (aa ah f2) x4 n5 (aa aB f5) n7 (aa aG f7) n9 (aa aH f9) n11 (aa aA f11) n13 (aa ac f13) n15 (aa aU f15))])) (.cb (.br (!gb x17 x18 x19 x20) (.ret (V.tup [V.agg [vi 0,vi 0],vi 7])) (.cb (.br (!l7 x21 x22) (.ret (V.tup [V.agg [vi 0,vi 0],vi 2])) (.br (decide (x4<0)) (.ret (V.tup [V.agg [vi 0,vi 0],vi 4])) (.obp (BO n0 (aa af f0) n2 (aa ah f2) n5 (aa aB f5) n11 (aa aA f11) n13 n15/\CY x17 x18 x19 x20/\Hd x21 x22) (.obt (.ret (V.tup [V.agg [vi (mZ n0 (aa af f0) n2 (aa ah f2) x4 n5 (aa aB f5) n7 (aa aG f7) n9 (aa aH f9) n11 (aa aA f11) (aa ac f13) (aa aU f15) x17 x18 x19 x20 x21 x22 n13),vi (mY n0 (aa af f0) n2 (aa ah f2) x4 n5 (aa aB f5) n7 (aa aG f7) n9 (aa aH f9) n11 (aa aA f11) (aa ac f13) (aa aU f15) x17 x18 x19 x20 x21 x22 n13)],vi 0])))))))))))
theorem Yr:cW cX (aV JJ abD u0 ybf [V.agg [V.sl n0 (aa af f0),V.sl n2 (aa ah f2),vi x4,V.sl n5 (aa aB f5),V.sl n7 (aa aG f7),V.sl n9 (aa aH f9),V.sl n11 (aa aA f11),V.sl n13 (aa ac f13),V.sl n15 (aa aU f15)],V.agg [vi x17,vi x18,vi x19,vi x20],vi x21,vi x22]) (abn n0 f0 n2 f2 x4 n5 f5 n7 f7 n9 f9 n11 f11 n13 f13 n15 f15 x17 x18 x19 x20 x21 x22):=bF
theorem agT (hp:ap n0 (aa af f0)/\ap n2 (aa ah f2)/\ap n5 (aa aB f5)/\ap n11 (aa aA f11)):aX cL (abn n0 f0 n2 f2 x4 n5 f5 n7 f7 n9 f9 n11 f11 n13 f13 n15 f15 x17 x18 x19 x20 x21 x22) (.tup [.agg [vi (iA (BG (eX (dX n0 (aa af f0) n2 (aa ah f2) x4 n5 (aa aB f5) n7 (aa aG f7) n9 (aa aH f9) n11 (aa aA f11) n13 (aa ac f13) n15 (aa aU f15)) x17 x18 x19 x20) x21 x22 x4) (mZ n0 (aa af f0) n2 (aa ah f2) x4 n5 (aa aB f5) n7 (aa aG f7) n9 (aa aH f9) n11 (aa aA f11) (aa ac f13) (aa aU f15) x17 x18 x19 x20 x21 x22 n13)),vi (iA (BG (eX (dX n0 (aa af f0) n2 (aa ah f2) x4 n5 (aa aB f5) n7 (aa aG f7) n9 (aa aH f9) n11 (aa aA f11) n13 (aa ac f13) n15 (aa aU f15)) x17 x18 x19 x20) x21 x22 x4) (mY n0 (aa af f0) n2 (aa ah f2) x4 n5 (aa aB f5) n7 (aa aG f7) n9 (aa aH f9) n11 (aa aA f11) (aa ac f13) (aa aU f15) x17 x18 x19 x20 x21 x22 n13))],vi (BG (eX (dX n0 (aa af f0) n2 (aa ah f2) x4 n5 (aa aB f5) n7 (aa aG f7) n9 (aa aH f9) n11 (aa aA f11) n13 (aa ac f13) n15 (aa aU f15)) x17 x18 x19 x20) x21 x22 x4)]):=by
 refine evObp hp (evObt (evBr (fun h=>evRet (mu (by rw[ady (lC h)];exact acq (lC h)) (lC h))) (fun h=>?_)))
 have h0:(dX n0 (aa af f0) n2 (aa ah f2) x4 n5 (aa aB f5) n7 (aa aG f7) n9 (aa aH f9) n11 (aa aA f11) n13 (aa ac f13) n15 (aa aU f15))=0:=gM h
 have G:=vv h0
 rw [h0,Jt]
 refine au (evObt (evBr (fun h1=>evRet (mu (by rw[aaE (AY h1)];exact acq (by decide)) (by decide))) (fun h1=>?_)))
 rw [abG (notf h1)]
 exact au (evObt (evBr (fun h2=>evRet (mu (aln (AY h2)) (by decide))) (fun h2=>evBr (fun h3=>evRet (mu (aop (notf h2) h3) (by decide))) (fun h3=>evObp ⟨⟨⟨G.ll,G.lu⟩,⟨hp.1,hp.2.1⟩,⟨hp.2.2.1,hp.2.2.2⟩,G.cl⟩,aol (notf h1),akD (notf h2)⟩ (evObt (evRet (NR (alR (notf h2) h3))))))))
def acg:av:=bL [.agg [.sl af,.sl ah,tI,.sl aB,.sl aG,.sl aH,.sl aA,.sl ac,.sl aU],.agg gP,tI,tI] (fun
 |[.agg [.sl n0 f0,.sl n2 f2,.int _ x4,.sl n5 f5,.sl n7 f7,.sl n9 f9,.sl n11 f11,.sl n13 f13,.sl n15 f15],.agg [.int _ x17,.int _ x18,.int _ x19,.int _ x20],.int _ x21,.int _ x22]=>ap n0 f0/\ap n2 f2/\ap n5 f5/\ap n11 f11
 |_=>False) fun
 |[.agg [.sl n0 f0,.sl n2 f2,.int _ x4,.sl n5 f5,.sl n7 f7,.sl n9 f9,.sl n11 f11,.sl n13 f13,.sl n15 f15],.agg [.int _ x17,.int _ x18,.int _ x19,.int _ x20],.int _ x21,.int _ x22]=>.tup [.agg [vi (iA (BG (eX (dX n0 f0 n2 f2 x4 n5 f5 n7 f7 n9 f9 n11 f11 n13 f13 n15 f15) x17 x18 x19 x20) x21 x22 x4) (mZ n0 f0 n2 f2 x4 n5 f5 n7 f7 n9 f9 n11 f11 f13 f15 x17 x18 x19 x20 x21 x22 n13)),vi (iA (BG (eX (dX n0 f0 n2 f2 x4 n5 f5 n7 f7 n9 f9 n11 f11 n13 f13 n15 f15) x17 x18 x19 x20) x21 x22 x4) (mY n0 f0 n2 f2 x4 n5 f5 n7 f7 n9 f9 n11 f11 f13 f15 x17 x18 x19 x20 x21 x22 n13))],vi (BG (eX (dX n0 f0 n2 f2 x4 n5 f5 n7 f7 n9 f9 n11 f11 n13 f13 n15 f15) x17 x18 x19 x20) x21 x22 x4)]
 |_=>.any
theorem ah7:cr acg 8:=aY adP fun _ hp=>c9 (Yr ..) (agT _ _ _ _ _ _ _ _ _ _ _ _ _ _ _ _ _ _ _ _ _ _ _ hp)
def JQ:aZ:=(37,.con yh)::Kv
theorem yaH:aO Tryz.prog eqs its JQ:=.con w4 (FU)
def fxE:Int:=bif fe n0 f0 n2 f2 x4==0 then o5 x5 x6 x7 else fe n0 f0 n2 f2 x4
def ak0:Int:=bif fxE n0 f0 n2 f2 x4 x5 x6 x7==0 then Ak (bV (f2 x4.toNat)) (bE (ae (ae (ae (f2 x4.toNat))))) (bE (ae (ae (ae (ae (ae (f2 x4.toNat))))))) x5 x6 x7 else 0
def WG:Int:=bif fxE n0 f0 n2 f2 x4 x5 x6 x7==0 then A0 (bV (f2 x4.toNat)) (bE (ae (ae (f2 x4.toNat)))) (bE (ae (ae (ae (ae (f2 x4.toNat)))))) x5 x6 x7 else 0
def pwE:Int:=bif fe n0 f0 n2 f2 x4==0 then bif bf x5 0 1000 then 0 else 7 else fe n0 f0 n2 f2 x4
def pwT (l:List V) (x5 z:Int):Int:=wI (wI (wI (1000*bE l)+wI (wI (dA l-bE l)*x5))*z)
def uc:Int:=bif pwE n0 f0 n2 f2 x4 x5==0 then rx (pwT (f2 x4.toNat) x5 (wI (1000-(bE (ae (f2 x4.toNat)))))) 1000000 else 0
def uf:Int:=bif pwE n0 f0 n2 f2 x4 x5==0 then ut (pwT (f2 x4.toNat) x5 (wI (1000+(bE (ae (f2 x4.toNat)))))) 1000000 else 0
theorem akJ {n0:Nat} {f0:aL} {n2:Nat} {f2:aL} {x4:Int} (h:b6 n0 f0 n2 f2 x4=0) :
 gf n0 f0 n2 f2 x4=(bV (f2 x4.toNat))/\ks n0 f0 n2 f2 x4=(dA (f2 x4.toNat))/\ig n0 f0 n2 f2 x4=(bE (f2 x4.toNat))/\kt n0 f0 n2 f2 x4=(bE (ae (f2 x4.toNat)))/\jx n0 f0 n2 f2 x4=(bE (ae (ae (f2 x4.toNat))))/\jt n0 f0 n2 f2 x4=(bE (ae (ae (ae (f2 x4.toNat)))))/\jC n0 f0 n2 f2 x4=(bE (ae (ae (ae (ae (f2 x4.toNat))))))/\gI n0 f0 n2 f2 x4=(bE (ae (ae (ae (ae (ae (f2 x4.toNat))))))):=by
 have l0:=apS h
 unfold gf ks ig kt jx jt jC gI
 rw [l0.1,l0.2]
 exact ⟨rfl,rfl,rfl,rfl,rfl,rfl,rfl,rfl⟩
theorem uJ {e z a b:Int} (h:e=z) (h0:z≠0):cz (V.tup [V.agg [vi 0,vi 0],vi z])=cz (V.tup [V.agg [vi (bif e==0 then a else 0),vi (bif e==0 then b else 0)],vi e]):=by
 subst h
 rw [show(e==0)=false from by simpa using h0];rfl
theorem T6 {e a b:Int} (h:e=0):cz (V.tup [V.agg [vi a,vi b],vi 0])=cz (V.tup [V.agg [vi (bif e==0 then a else 0),vi (bif e==0 then b else 0)],vi e]):=by
 subst h;rfl
theorem aoj {n0:Nat} {f0:aL} {n2:Nat} {f2:aL} {x4 x5 x6 x7:Int} (h:fe n0 f0 n2 f2 x4≠0):fxE n0 f0 n2 f2 x4 x5 x6 x7=fe n0 f0 n2 f2 x4:=by
 unfold fxE;rw[show(fe n0 f0 n2 f2 x4==0)=false from by simpa using h];rfl
theorem abZ {n0:Nat} {f0:aL} {n2:Nat} {f2:aL} {x4 x5 x6 x7:Int} (h:fe n0 f0 n2 f2 x4=0):fxE n0 f0 n2 f2 x4 x5 x6 x7=o5 x5 x6 x7:=by
 unfold fxE;rw[h];rfl
theorem aoc {n0:Nat} {f0:aL} {n2:Nat} {f2:aL} {x4 x5:Int} (h:fe n0 f0 n2 f2 x4≠0):pwE n0 f0 n2 f2 x4 x5=fe n0 f0 n2 f2 x4:=by
 unfold pwE;rw[show(fe n0 f0 n2 f2 x4==0)=false from by simpa using h];rfl
theorem abO {n0:Nat} {f0:aL} {n2:Nat} {f2:aL} {x4 x5:Int} (h:fe n0 f0 n2 f2 x4=0):pwE n0 f0 n2 f2 x4 x5=bif bf x5 0 1000 then 0 else 7:=by
 unfold pwE;rw[h];rfl
theorem asr {a b c:Int} (h:gg a b c=true):o5 a b c=7:=by rw[← Il,h];rfl
theorem apV {a b c:Int} (h:gg a b c=false):o5 a b c=0:=by rw[← Il,h];rfl
def aa7:RT Empty:=.obp (ap n0 (aa af f0)/\ap n2 (aa ah f2)) (.obt (.br (b6 n0 (aa af f0) n2 (aa ah f2) x4 != 0) (.ret (V.tup [V.agg [vi 0,vi 0],vi (b6 n0 (aa af f0) n2 (aa ah f2) x4)])) (.cb (.br (gg x5 x6 x7) (.ret (V.tup [V.agg [vi 0,vi 0],vi 7])) (.cb (.ret (V.tup [V.agg [vi (mM (gf n0 (aa af f0) n2 (aa ah f2) x4) (jt n0 (aa af f0) n2 (aa ah f2) x4) (gI n0 (aa af f0) n2 (aa ah f2) x4) x5 x6 x7),vi (mL (gf n0 (aa af f0) n2 (aa ah f2) x4) (jx n0 (aa af f0) n2 (aa ah f2) x4) (jC n0 (aa af f0) n2 (aa ah f2) x4) x5 x6 x7)],vi 0])))))))
theorem aaj:cW cX (aV JJ JQ u0 aeJ [V.agg [V.sl n0 (aa af f0),V.sl n2 (aa ah f2)],vi x4,V.agg [vi x5,vi x6,vi x7]]) (aa7 n0 f0 n2 f2 x4 x5 x6 x7):=bF
theorem ahr (hp:ap n0 (aa af f0)/\ap n2 (aa ah f2)):aX cL (aa7 n0 f0 n2 f2 x4 x5 x6 x7) (.tup [.agg [vi (ak0 n0 (aa af f0) n2 (aa ah f2) x4 x5 x6 x7),vi (WG n0 (aa af f0) n2 (aa ah f2) x4 x5 x6 x7)],vi (fxE n0 (aa af f0) n2 (aa ah f2) x4 x5 x6 x7)]):=by
 refine evObp hp (evObt ?_)
 rw [uw]
 refine evBr (fun h=>evRet (uJ (aoj (lC h)) (lC h))) (fun h=>?_)
 have h0:=gM h
 have k:=akJ ((uw ..).trans h0)
 rw [k.1,k.2.2.2.2.1,k.2.2.2.2.2.1,k.2.2.2.2.2.2.1,k.2.2.2.2.2.2.2,TV,MO]
 exact au (evObt (evBr (fun h1=>evRet (uJ ((abZ h0).trans (asr h1)) (by decide))) (fun h1=>au (evObt (evRet (T6 ((abZ h0).trans (apV h1))))))))
def Mh:av:=bL [.agg [.sl af,.sl ah],tI,.agg aU] (fun
 |[.agg [.sl n0 f0,.sl n2 f2],.int _ x4,.agg [.int _ x5,.int _ x6,.int _ x7]]=>ap n0 f0/\ap n2 f2
 |_=>False) fun
 |[.agg [.sl n0 f0,.sl n2 f2],.int _ x4,.agg [.int _ x5,.int _ x6,.int _ x7]]=>.tup [.agg [vi (ak0 n0 f0 n2 f2 x4 x5 x6 x7),vi (WG n0 f0 n2 f2 x4 x5 x6 x7)],vi (fxE n0 f0 n2 f2 x4 x5 x6 x7)]
 |_=>.any
theorem Uw:cr Mh 65:=aY yaH fun _ hp=>c9 (aaj ..) (ahr _ _ _ _ _ _ _ _ hp)
def abf:RT Empty:=.obp (ap n0 (aa af f0)/\ap n2 (aa ah f2)) (.obt (.br (b6 n0 (aa af f0) n2 (aa ah f2) x4 != 0) (.ret (V.tup [V.agg [vi 0,vi 0],vi (b6 n0 (aa af f0) n2 (aa ah f2) x4)])) (.cb (.br (!yaa x5 0 1000) (.ret (V.tup [V.agg [vi 0,vi 0],vi 7])) (.obp (nz 1000000) (.obt (.obp (nz 1000000) (.obt (.ret (V.tup [V.agg [vi (em (wI (wI (wI (ig n0 (aa af f0) n2 (aa ah f2) x4*1000)+wI (wI (ks n0 (aa af f0) n2 (aa ah f2) x4-ig n0 (aa af f0) n2 (aa ah f2) x4)*x5))*wI (1000-kt n0 (aa af f0) n2 (aa ah f2) x4))) 1000000),vi (fC (wI (wI (wI (ig n0 (aa af f0) n2 (aa ah f2) x4*1000)+wI (wI (ks n0 (aa af f0) n2 (aa ah f2) x4-ig n0 (aa af f0) n2 (aa ah f2) x4)*x5))*wI (1000+kt n0 (aa af f0) n2 (aa ah f2) x4))) 1000000)],vi 0]))))))))))
theorem Z0:cW cX (aV JJ JQ u0 ahd [V.agg [V.sl n0 (aa af f0),V.sl n2 (aa ah f2)],vi x4,vi x5]) (abf n0 f0 n2 f2 x4 x5):=bF
theorem aeh (hp:ap n0 (aa af f0)/\ap n2 (aa ah f2)):aX cL (abf n0 f0 n2 f2 x4 x5) (.tup [.agg [vi (uc n0 (aa af f0) n2 (aa ah f2) x4 x5),vi (uf n0 (aa af f0) n2 (aa ah f2) x4 x5)],vi (pwE n0 (aa af f0) n2 (aa ah f2) x4 x5)]):=by
 refine evObp hp (evObt ?_)
 rw [uw]
 refine evBr (fun h=>evRet (uJ (aoc (lC h)) (lC h))) (fun h=>?_)
 have h0:=gM h
 have k:=akJ ((uw ..).trans h0)
 rw [k.2.1,k.2.2.1,k.2.2.2.1,Int.mul_comm _ 1000]
 exact au (evObt (evBr (fun h1=>evRet (uJ ((abO h0).trans (by rw[show bf x5 0 1000=false from AY h1];rfl)) (by decide))) (fun h1=>evObp (by decide) (evObt (evObp (by decide) (evObt (evRet (T6 ((abO h0).trans (by rw[show bf x5 0 1000=true from notf h1];rfl))))))))))
def OC:av:=bL [.agg [.sl af,.sl ah],tI,tI] (fun
 |[.agg [.sl n0 f0,.sl n2 f2],.int _ x4,.int _ x5]=>ap n0 f0/\ap n2 f2
 |_=>False) fun
 |[.agg [.sl n0 f0,.sl n2 f2],.int _ x4,.int _ x5]=>.tup [.agg [vi (uc n0 f0 n2 f2 x4 x5),vi (uf n0 f0 n2 f2 x4 x5)],vi (pwE n0 f0 n2 f2 x4 x5)]
 |_=>.any
theorem NH:cr OC 26:=aY yaH fun _ hp=>c9 (Z0 ..) (aeh _ _ _ _ _ _ hp)
def IK:aZ:=(65,.con Mh)::(26,.con OC)::JQ
theorem ET:aO Tryz.prog eqs its IK:=.con Uw (.con NH (yaH))
def Ko (f2 f13 f15:aL) (i n:Int):Int:=eh (wI (n*WG n0 f0 n2 f2 (aw (f13 i.toNat)) (aw (f15 i.toNat)) (aW (f15 i.toNat)) (b7 (f15 i.toNat)))) 1000
def adt:RT Empty:=dm (x4,n5,f5,n7,f7,n9,f9,n11,f11,s18,x19,x20,x21,x22,x23) (.ob (dI x17 n13) (.ob (dI x17 n15) (.obp (ap n0 (aa af f0)/\ap n2 (aa ah f2)) (.obt (.obp (nz 1000) (.obt (.ret (vi (b5 (wI (x24*WG n0 (aa af f0) n2 (aa ah f2) (aw (f13 x17.toNat)) (aw (f15 x17.toNat)) (aW (f15 x17.toNat)) (b7 (f15 x17.toNat)))) 1000)))))))))
theorem Ya:cW cX (aV JJ IK u0 afQ [V.agg [V.sl n0 (aa af f0),V.sl n2 (aa ah f2),vi x4,V.sl n5 (aa aB f5),V.sl n7 (aa aG f7),V.sl n9 (aa aH f9),V.sl n11 (aa aA f11),V.sl n13 (aa ac f13),V.sl n15 (aa aU f15),vi x17,V.str s18,vi x19,vi x20,vi x21,vi x22,vi x23],vi x24]) (adt n0 f0 n2 f2 x4 n5 f5 n7 f7 n9 f9 n11 f11 n13 f13 n15 f15 x17 s18 x19 x20 x21 x22 x23 x24):=bF
theorem aiS (n0:Nat) (f0:aL) (n2:Nat) (f2:aL) (x4:Int) (n5:Nat) (f5:aL) (n7:Nat) (f7:aL) (n9:Nat) (f9:aL) (n11:Nat) (f11:aL) (n13:Nat) (f13:aL) (n15:Nat) (f15:aL) (x17:Int) (s18:ByteArray) (x19 x20 x21 x22 x23 x24:Int) (hp:(0<=x17/\x17<(n13:Int))/\(0<=x17/\x17<(n15:Int))/\(ap n0 (aa af f0)/\ap n2 (aa ah f2))):aX cL (adt n0 f0 n2 f2 x4 n5 f5 n7 f7 n9 f9 n11 f11 n13 f13 n15 f15 x17 s18 x19 x20 x21 x22 x23 x24) (vi (Ko n0 (aa af f0) n2 (aa ah f2) (aa ac f13) (aa aU f15) x17 x24)):=by
 obtain ⟨h0,h1,hz⟩:=hp
 exact aD (dqt h0) (aD (dqt h1) (evObp hz (evObt (evObp (by decide) (evObt (evRet rfl))))))
def S0:av:=bL [.agg [.sl af,.sl ah,tI,.sl aB,.sl aG,.sl aH,.sl aA,.sl ac,.sl aU,tI,.str,tI,tI,tI,tI,tI],tI] (fun
 |[.agg [.sl n0 f0,.sl n2 f2,.int _ x4,.sl n5 f5,.sl n7 f7,.sl n9 f9,.sl n11 f11,.sl n13 f13,.sl n15 f15,.int _ x17,.str s18,.int _ x19,.int _ x20,.int _ x21,.int _ x22,.int _ x23],.int _ x24]=>(0<=x17/\x17<(n13:Int))/\(0<=x17/\x17<(n15:Int))/\(ap n0 f0/\ap n2 f2)
 |_=>False) fun
 |[.agg [.sl n0 f0,.sl n2 f2,.int _ x4,.sl n5 f5,.sl n7 f7,.sl n9 f9,.sl n11 f11,.sl n13 f13,.sl n15 f15,.int _ x17,.str s18,.int _ x19,.int _ x20,.int _ x21,.int _ x22,.int _ x23],.int _ x24]=>vi (Ko n0 f0 n2 f2 f13 f15 x17 x24)
 |_=>.any
theorem yaT:cr S0 31:=aY ET fun _ hp=>c9 (Ya ..) (aiS _ _ _ _ _ _ _ _ _ _ _ _ _ _ _ _ _ _ _ _ _ _ _ _ _ hp)
def ma:Int:=bif decide (0<x0) then dv (wI (x0*x2)) x3 else x0
def lY:Int:=bif decide (x1<0) then eh (wI (x1*x2)) x3 else x1
def Qe:RT Empty:=.br (decide (0<x0)) (.obp (nz x3) (.obt (.br (decide (x1<0)) (.obp (nz x3) (.obt (.ret (V.tup [vi (b9 (wI (x0*x2)) x3),vi (b5 (wI (x1*x2)) x3)])))) (.ret (V.tup [vi (b9 (wI (x0*x2)) x3),vi x1]))))) (.br (decide (x1<0)) (.obp (nz x3) (.obt (.ret (V.tup [vi x0,vi (b5 (wI (x1*x2)) x3)])))) (.ret (V.tup [vi x0,vi x1])))
theorem WX:cW cX (aV JJ IK u0 aiD [vi x0,vi x1,V.pd [vi x2],V.pd [vi x3]]) (Qe x0 x1 x2 x3):=bF
theorem agl (hp:x3=0->False):aX cL (Qe x0 x1 x2 x3) (.tup [vi (ma x0 x2 x3),vi (lY x1 x2 x3)]):=by
 unfold Qe
 rw [Db,y6]
 refine evBr (fun h=>evObp hp (evObt (evBr (fun k=>evObp hp (evObt (evRet ?_))) (fun k=>evRet ?_)))) (fun h=>evBr (fun k=>evObp hp (evObt (evRet ?_))) (fun k=>evRet ?_))
 all_goals
  unfold ma lY
  rw [h,k]
  rfl
def Us:av:=bL [tI,tI,.pd ac,.pd ac] (fun
 |[.int _ x0,.int _ x1,.pd [.int _ x2],.pd [.int _ x3]]=>x3=0->False
 |_=>False) fun
 |[.int _ x0,.int _ x1,.pd [.int _ x2],.pd [.int _ x3]]=>.tup [vi (ma x0 x2 x3),vi (lY x1 x2 x3)]
 |_=>.any
theorem Rk:cr Us 62:=aY ET fun _ hp=>c9 (WX ..) (agl _ _ _ _ hp)
def E4:aZ:=(31,.con S0)::(62,.con Us)::IK
theorem Kc:aO Tryz.prog eqs its E4:=.con yaT (.con Rk (ET))
def aca:RT Empty:=dm (x4,n5,f5,n7,f7,n9,f9,n11,f11,n15,f15,s18,x19,x20,x21,x22,x23) (.ob (dI x17 n13) (.ob (dI (aw (f13 x17.toNat)) n2) (.ob (dI (aW (f2 (aw (f13 x17.toNat)).toNat)) n0) (.ret (V.agg [V.str (sv (aE (f0 (aW (f2 (aw (f13 x17.toNat)).toNat)).toNat))),V.sl (aN (aE (ae (f0 (aW (f2 (aw (f13 x17.toNat)).toNat)).toNat)))) fun i=>al ac (bO (aE (ae (f0 (aW (f2 (aw (f13 x17.toNat)).toNat)).toNat))) i),V.sl (aN (aE (ae (ae (f0 (aW (f2 (aw (f13 x17.toNat)).toNat)).toNat))))) fun i=>al ac (bO (aE (ae (ae (f0 (aW (f2 (aw (f13 x17.toNat)).toNat)).toNat)))) i),V.sl (aN (aE (ae (ae (ae (f0 (aW (f2 (aw (f13 x17.toNat)).toNat)).toNat)))))) fun i=>al [Ty.sl ac] (bO (aE (ae (ae (ae (f0 (aW (f2 (aw (f13 x17.toNat)).toNat)).toNat))))) i),vi (dA (f0 (aW (f2 (aw (f13 x17.toNat)).toNat)).toNat)),vi (bE (f0 (aW (f2 (aw (f13 x17.toNat)).toNat)).toNat))])))))
theorem aam:cW cX (NK JJ E4 u0 agf [V.agg [V.sl n0 (aa af f0),V.sl n2 (aa ah f2),vi x4,V.sl n5 (aa aB f5),V.sl n7 (aa aG f7),V.sl n9 (aa aH f9),V.sl n11 (aa aA f11),V.sl n13 (aa ac f13),V.sl n15 (aa aU f15),vi x17,V.str s18,vi x19,vi x20,vi x21,vi x22,vi x23]]) (aca n0 f0 n2 f2 x4 n5 f5 n7 f7 n9 f9 n11 f11 n13 f13 n15 f15 x17 s18 x19 x20 x21 x22 x23):=bF
def IC:List Ty:=[.agg [.sl af,.sl ah,tI,.sl aB,.sl aG,.sl aH,.sl aA,.sl ac,.sl aU,tI,.str,tI,tI,tI,tI,tI]]
def xR (n0 n2:Nat) (f2:aL) (n13:Nat) (f13:aL) (x17:Int):Prop:=(0<=x17/\x17<(n13:Int))/\(0<=(aw (f13 x17.toNat))/\(aw (f13 x17.toNat))<(n2:Int))/\(0<=(aW (f2 (aw (f13 x17.toNat)).toNat))/\(aW (f2 (aw (f13 x17.toNat)).toNat))<(n0:Int))
def an1:List V->Prop
 |[.agg [.sl n0 f0,.sl n2 f2,.int _ x4,.sl n5 f5,.sl n7 f7,.sl n9 f9,.sl n11 f11,.sl n13 f13,.sl n15 f15,.int _ x17,.str s18,.int _ x19,.int _ x20,.int _ x21,.int _ x22,.int _ x23]]=>xR n0 n2 f2 n13 f13 x17
 |_=>False
def aau:List V->V
 |[.agg [.sl n0 f0,.sl n2 f2,.int _ x4,.sl n5 f5,.sl n7 f7,.sl n9 f9,.sl n11 f11,.sl n13 f13,.sl n15 f15,.int _ x17,.str s18,.int _ x19,.int _ x20,.int _ x21,.int _ x22,.int _ x23]]=>.agg (f0 (aW (f2 (aw (f13 x17.toNat)).toNat)).toNat)
 |_=>.any
def JF:av:=bL IC an1 aau
theorem aeK (hp:xR n0 n2 (aa ah f2) n13 (aa ac f13) x17):aX cL (aca n0 f0 n2 f2 x4 n5 f5 n7 f7 n9 f9 n11 f11 n13 f13 n15 f15 x17 s18 x19 x20 x21 x22 x23) (.agg (aa af f0 (aW (aa ah f2 (aw (aa ac f13 x17.toNat)).toNat)).toNat)):=aD (dqt hp.1) (aD (dqt hp.2.1) (aD (dqt hp.2.2) (evRet rfl)))
theorem Rl (ds:List V):cD (aau (al IC ds)):=by
 show cD (.agg [V.str _,V.sl _ (aa ac _),V.sl _ (aa ac _),V.sl _ (aa [Ty.sl ac] _),V.int _ _,V.int _ _])
 simp only [cD,bM,agn,aoW]
 exact ⟨fun i hi=>fV _,fun i hi=>fV _,fun i hi=>sE _⟩
theorem G0:∀ ds d p r,JF ds=some (d,p,r)->d.1=d.2->p->∀ w0 lh args,bg w0 lh Nu.nil ds args->∃ x new,vr w0 (lh++new) Nu.nil r x:=Ao (fun ds hty hp w0 lh args ha=>by
 change xR _ _ _ _ _ _ at hp
 change bg w0 lh Nu.nil [V.agg (V.sl _ (aa af _)::_)] args at ha
 simp only [bg]at ha
 obtain ⟨a,as1,rfl,h1,rfl⟩:=ha
 rw [vr.eq_5]at h1
 obtain ⟨cs,rfl,h1⟩:=h1
 rw [bg.eq_2]at h1
 obtain ⟨c0,_,rfl,g0,_⟩:=h1
 rw [vr.eq_8]at g0
 obtain ⟨p,c,esz,_,_,_,_,hall⟩:=g0
 obtain ⟨q,as2,_,_,hv,_⟩:=hall _ ((Int.toNat_lt hp.2.2.1).2 hp.2.2.2)
 refine ⟨.agg as2,[],?_⟩
 rw [apz]
 show vr w0 lh Nu.nil (.agg _) _
 rw [vr.eq_5]
 exact ⟨as2,rfl,hv⟩) rfl
theorem Uh:(vZ JF).Ok Tryz.prog 32:=afg Kc Tryz.func32 bb (fun ds _=>Rl ds) fun ds hp=>c9 (aam ..) (aeK _ _ _ _ _ _ _ _ _ _ _ _ _ _ _ _ _ _ _ _ _ _ _ _ hp)
def Rz:aZ:=(32,.conZ JF G0)::E4
theorem S8:aO Tryz.prog eqs its Rz:=.conZ Uh (Kc)
def AG (h w:Int):Int:=wI (wI (100*h)-wI (100*w))
def UW (cx cy h a c d e lo hi:Int):Int:=max (wI (wI (ip (wI (a-cx)) (wI (d-cx))+ip (wI (c-cy)) (wI (e-cy)))+ip (AG h hi) (AG h lo))) 1
def wnW (f2 f13 f15:aL) (x17 cx cy dx dy a c d e flat deep:Int):Int:=e8 n0 f0 n2 f2 (aw (f13 x17.toNat)) (aw (f15 x17.toNat)) (aW (f15 x17.toNat)) (b7 (f15 x17.toNat)) (ma (kr cx cy dx dy a c d e) flat deep) (lY (ky cx cy dx dy a c d e) flat deep) (ma (kF cx cy dx dy a c d e) flat deep) (lY (kH cx cy dx dy a c d e) flat deep) flat
def wnI (f2 f13 f15:aL) (x17 cx cy h dx dy a c d e lo hi:Int):Int:=bif decide (AG h lo<=0) then Ko n0 f0 n2 f2 f13 f15 x17 (bE (f0 (aW (f2 (aw (f13 x17.toNat)).toNat)).toNat)) else bif decide (AG h hi<=0) then Ko n0 f0 n2 f2 f13 f15 x17 (max (IU (KQ (f0 (aW (f2 (aw (f13 x17.toNat)).toNat)).toNat)) (BE (f0 (aW (f2 (aw (f13 x17.toNat)).toNat)).toNat)) (dA (f0 (aW (f2 (aw (f13 x17.toNat)).toNat)).toNat))) (bE (f0 (aW (f2 (aw (f13 x17.toNat)).toNat)).toNat))) else wnW n0 f0 n2 f2 f13 f15 x17 cx cy dx dy a c d e (AG h hi) (AG h lo)
def wnS (f2 f13 f15:aL) (x17 cx cy h dx dy a c d e lo hi:Int):Int:=eh (wI (1000000*wnI n0 f0 n2 f2 f13 f15 x17 cx cy h dx dy a c d e lo hi)) (UW cx cy h a c d e lo hi)
def Wy (f0 f2 f13:aL) (x17:Int):Prop:=∀ i,i<KQ (f0 (aW (f2 (aw (f13 x17.toNat)).toNat)).toNat)->1<=aN (aE (BE (f0 (aW (f2 (aw (f13 x17.toNat)).toNat)).toNat) i))
theorem aof (cx cy h a c d e lo hi:Int):UW cx cy h a c d e lo hi=0->False:=by unfold UW;omega
def Tt:RT Empty:=dm (x4,n5,f5,n7,f7,n9,f9,n11,f11,s18) (.cb (.cb (.cb (.cb (.br (decide (AG x21 x28<=0)) (.obp (((0:Int)<=x17/\x17<(n13:Int))/\((0:Int)<=aw (f13 x17.toNat)/\aw (f13 x17.toNat)<(n2:Int))/\(0:Int)<=aW (f2 (aw (f13 x17.toNat)).toNat)/\aW (f2 (aw (f13 x17.toNat)).toNat)<(n0:Int)) (.obt (.obp (((0:Int)<=x17/\x17<(n13:Int))/\((0:Int)<=x17/\x17<(n15:Int))/\ap n0 (aa af f0)/\ap n2 (aa ah f2)) (.obt (.obp (nz (UW x19 x20 x21 x24 x25 x26 x27 x28 x29)) (.obt (.ret (vi (b5 (wI (1000000*Ko n0 (aa af f0) n2 (aa ah f2) (aa ac f13) (aa aU f15) x17 (bE (f0 (aW (f2 (aw (f13 x17.toNat)).toNat)).toNat)))) (UW x19 x20 x21 x24 x25 x26 x27 x28 x29)))))))))) (.br (decide (AG x21 x29<=0)) (.obp (((0:Int)<=x17/\x17<(n13:Int))/\((0:Int)<=aw (f13 x17.toNat)/\aw (f13 x17.toNat)<(n2:Int))/\(0:Int)<=aW (f2 (aw (f13 x17.toNat)).toNat)/\aW (f2 (aw (f13 x17.toNat)).toNat)<(n0:Int)) (.obt (.obp (∀ (i:Nat),i<aN (aE (ae (ae (ae (f0 (aW (f2 (aw (f13 x17.toNat)).toNat)).toNat)))))->(1:Nat)<=aN (aE (bO (aE (ae (ae (ae (f0 (aW (f2 (aw (f13 x17.toNat)).toNat)).toNat))))) i))) (.obt (.obp (((0:Int)<=x17/\x17<(n13:Int))/\((0:Int)<=aw (f13 x17.toNat)/\aw (f13 x17.toNat)<(n2:Int))/\(0:Int)<=aW (f2 (aw (f13 x17.toNat)).toNat)/\aW (f2 (aw (f13 x17.toNat)).toNat)<(n0:Int)) (.obt (.obp (((0:Int)<=x17/\x17<(n13:Int))/\((0:Int)<=x17/\x17<(n15:Int))/\ap n0 (aa af f0)/\ap n2 (aa ah f2)) (.obt (.obp (nz (UW x19 x20 x21 x24 x25 x26 x27 x28 x29)) (.obt (.ret (vi (b5 (wI (1000000*Ko n0 (aa af f0) n2 (aa ah f2) (aa ac f13) (aa aU f15) x17 (max (pj (aN (aE (ae (ae (ae (f0 (aW (f2 (aw (f13 x17.toNat)).toNat)).toNat)))))) (fun i=>al [Ty.sl ac] (bO (aE (ae (ae (ae (f0 (aW (aa ah f2 (aw (aa ac f13 x17.toNat)).toNat)).toNat))))) i)) (dA (f0 (aW (f2 (aw (f13 x17.toNat)).toNat)).toNat))) (bE (f0 (aW (f2 (aw (f13 x17.toNat)).toNat)).toNat))))) (UW x19 x20 x21 x24 x25 x26 x27 x28 x29)))))))))))))) (.obp (Hd x22 x23/\cZ x19/\cZ x20/\cZ x24/\cZ x25/\cZ x26/\cZ x27) (.obt (.obp (nz (AG x21 x28)) (.obt (.obp (nz (AG x21 x28)) (.obt (.ob (dI x17 n13) (.ob (dI x17 n15) (.obp (ap n0 (aa af f0)/\ap n2 (aa ah f2)) (.obt (.obp (nz (UW x19 x20 x21 x24 x25 x26 x27 x28 x29)) (.obt (.ret (vi (b5 (wI (1000000*e8 n0 (aa af f0) n2 (aa ah f2) (aw (f13 x17.toNat)) (aw (f15 x17.toNat)) (aW (f15 x17.toNat)) (b7 (f15 x17.toNat)) (ma (kr x19 x20 x22 x23 x24 x25 x26 x27) (AG x21 x29) (AG x21 x28)) (lY (ky x19 x20 x22 x23 x24 x25 x26 x27) (AG x21 x29) (AG x21 x28)) (ma (kF x19 x20 x22 x23 x24 x25 x26 x27) (AG x21 x29) (AG x21 x28)) (lY (kH x19 x20 x22 x23 x24 x25 x26 x27) (AG x21 x29) (AG x21 x28)) (AG x21 x29))) (UW x19 x20 x21 x24 x25 x26 x27 x28 x29))))))))))))))))))))))
theorem YI:cW cX (aV JJ Rz u0 aer [V.agg [V.sl n0 (aa af f0),V.sl n2 (aa ah f2),vi x4,V.sl n5 (aa aB f5),V.sl n7 (aa aG f7),V.sl n9 (aa aH f9),V.sl n11 (aa aA f11),V.sl n13 (aa ac f13),V.sl n15 (aa aU f15),vi x17,V.str s18,vi x19,vi x20,vi x21,vi x22,vi x23],V.agg [vi x24,vi x25,vi x26,vi x27,vi x28,vi x29]]) (Tt n0 f0 n2 f2 x4 n5 f5 n7 f7 n9 f9 n11 f11 n13 f13 n15 f15 x17 s18 x19 x20 x21 x22 x23 x24 x25 x26 x27 x28 x29):=bF
theorem aeL (n0:Nat) (f0:aL) (n2:Nat) (f2:aL) (x4:Int) (n5:Nat) (f5:aL) (n7:Nat) (f7:aL) (n9:Nat) (f9:aL) (n11:Nat) (f11:aL) (n13:Nat) (f13:aL) (n15:Nat) (f15:aL) (x17:Int) (s18:ByteArray) (x19 x20 x21 x22 x23 x24 x25 x26 x27 x28 x29:Int) (hp:(0<=x17/\x17<(n13:Int))/\(0<=x17/\x17<(n15:Int))/\(ap n0 (aa af f0)/\ap n2 (aa ah f2))/\xR n0 n2 (aa ah f2) n13 (aa ac f13) x17/\Wy (aa af f0) (aa ah f2) (aa ac f13) x17/\Hd x22 x23/\cZ x19/\cZ x20/\cZ x24/\cZ x25/\cZ x26/\cZ x27):aX cL (Tt n0 f0 n2 f2 x4 n5 f5 n7 f7 n9 f9 n11 f11 n13 f13 n15 f15 x17 s18 x19 x20 x21 x22 x23 x24 x25 x26 x27 x28 x29) (vi (wnS n0 (aa af f0) n2 (aa ah f2) (aa ac f13) (aa aU f15) x17 x19 x20 x21 x22 x23 x24 x25 x26 x27 x28 x29)):=by
 obtain ⟨h0,h1,hz,hx,hr,hd,hp⟩:=hp
 unfold Tt
 rw [y6]
 have hk:=aof x19 x20 x21 x24 x25 x26 x27 x28 x29
 refine au (evObt (au (evObt (au (evObt (au (evObt (evBr (fun h=>(evObp hx (evObt (evObp ⟨h0,h1,hz⟩ (evObt (evObp hk (evObt (evRet ?_)))))))) (fun h=>evBr (fun h2=>(evObp hx (evObt (evObp hr (evObt (evObp hx (evObt (evObp ⟨h0,h1,hz⟩ (evObt (evObp hk (evObt (evRet ?_)))))))))))) (fun h2=>(evObp ⟨hd,hp⟩ (evObt (evObp ?_ (evObt (evObp ?_ (evObt (aD (dqt h0) (aD (dqt h1) (evObp hz (evObt (evObp hk (evObt (evRet ?_)))))))))))))))))))))))
 ·unfold wnS wnI
  rw [h];rfl
 ·unfold wnS wnI
  rw [h,h2]
  exact congrArg (fun z=>cz (vi (eh (wI (1000000*Ko n0 (aa af f0) n2 (aa ah f2) (aa ac f13) (aa aU f15) x17 (max z _))) (UW x19 x20 x21 x24 x25 x26 x27 x28 x29)))) (uO hr)
 ·exact fun e=>abu h (Int.le_of_eq e)
 ·exact fun e=>abu h (Int.le_of_eq e)
 ·unfold wnS wnI
  rw [h,h2];rfl
def Pk:av:=bL [.agg [.sl af,.sl ah,tI,.sl aB,.sl aG,.sl aH,.sl aA,.sl ac,.sl aU,tI,.str,tI,tI,tI,tI,tI],.agg [tI,tI,tI,tI,tI,tI]] (fun
 |[.agg [.sl n0 f0,.sl n2 f2,.int _ x4,.sl n5 f5,.sl n7 f7,.sl n9 f9,.sl n11 f11,.sl n13 f13,.sl n15 f15,.int _ x17,.str s18,.int _ x19,.int _ x20,.int _ x21,.int _ x22,.int _ x23],.agg [.int _ x24,.int _ x25,.int _ x26,.int _ x27,.int _ x28,.int _ x29]]=>(0<=x17/\x17<(n13:Int))/\(0<=x17/\x17<(n15:Int))/\(ap n0 f0/\ap n2 f2)/\xR n0 n2 f2 n13 f13 x17/\Wy f0 f2 f13 x17/\Hd x22 x23/\cZ x19/\cZ x20/\cZ x24/\cZ x25/\cZ x26/\cZ x27
 |_=>False) fun
 |[.agg [.sl n0 f0,.sl n2 f2,.int _ x4,.sl n5 f5,.sl n7 f7,.sl n9 f9,.sl n11 f11,.sl n13 f13,.sl n15 f15,.int _ x17,.str s18,.int _ x19,.int _ x20,.int _ x21,.int _ x22,.int _ x23],.agg [.int _ x24,.int _ x25,.int _ x26,.int _ x27,.int _ x28,.int _ x29]]=>vi (wnS n0 f0 n2 f2 f13 f15 x17 x19 x20 x21 x22 x23 x24 x25 x26 x27 x28 x29)
 |_=>.any
theorem Sj:cr Pk 30:=aY S8 fun _ hp=>c9 (YI ..) (aeL _ _ _ _ _ _ _ _ _ _ _ _ _ _ _ _ _ _ _ _ _ _ _ _ _ _ _ _ _ _ hp)
theorem aoA {n0 n2 n13:Nat} {f0 f2 f13 f15:aL} {i:Nat} (l2:n2<=20) (lm:∀ i,i<n2->ahy n0 (f2 i)) (co:rO f0 n2 f2 f13 f15 i=0) (hi:i<n13) (h:jy f13 i=true):xR n0 n2 f2 n13 f13 (i:Int):=by
 have h:0<=aw (f13 i):=abg h
 have a:bP (aw (f13 i)) (-1) (wI ((n2:Int)-1))=true:=by
  cases hb:bP (aw (f13 i)) (-1) (wI ((n2:Int)-1)) with
  |true=>rfl
  |false=>unfold rO at co;rw[aa6 hb]at co;cases co
 have r:=tR (x:=aw (f13 i)) a
 rw [wrapI (by omega) (by omega)]at r
 have t:=(lm (aw (f13 i)).toNat (by omega)).t
 exact ⟨⟨by omega,by omega⟩,⟨h,by show aw (f13 i)<_;omega⟩,t⟩
theorem apX {n0 n2 n13:Nat} {f0 f2 f13:aL} {i:Int} (x:xR n0 n2 f2 n13 f13 i) (tb:∀ i,i<n0->uk (f0 i)):Wy f0 f2 f13 i:=fun k hk=>by
 have t:=tb (aW (f2 (aw (f13 i.toNat)).toNat)).toNat ((Int.toNat_lt x.2.2.1).2 x.2.2.2)
 have:=t.row k hk
 have:=t.v.1
 omega
theorem pl0:cZ 0:=by unfold cZ;omega
theorem Kj {a b p q:Int} (ha:-100000<=a/\a<=100000) (hb:-100000<=b/\b<=100000) (hp:0<=p/\p<=1000) (hq:0<=q/\q<=1000):cZ (ze a b p q)/\cZ (zh a b p q):=by
 have m1:=HQ (x:=b-a) (p:=p) (A:=200000) (B:=1000) (by omega) (by omega) hp.1 hp.2
 have m2:=HQ (x:=b-a) (p:=q) (A:=200000) (B:=1000) (by omega) (by omega) hq.1 hq.2
 unfold cZ ze zh
 rw [wrapI (x:=b-a) (by omega) (by omega),wrapI (x:=(b-a)*p) (by omega) (by omega),wrapI (x:=(b-a)*q) (by omega) (by omega),wrapI (x:=1000*a) (by omega) (by omega),wrapI (x:=1000*a+(b-a)*p) (by omega) (by omega),wrapI (x:=1000*a+(b-a)*q) (by omega) (by omega),wrapI (x:=0-max (1000*a+(b-a)*p) (1000*a+(b-a)*q)) (by omega) (by omega),
  AU (by omega) (by omega) (by omega) (by omega),AU (by omega) (by omega) (by omega) (by omega)]
 have d1:=rI (n:=min (1000*a+(b-a)*p) (1000*a+(b-a)*q)) (d:=1000) (B:=300000000) (by omega) (by omega) (by omega)
 have d2:=rI (n:=0-max (1000*a+(b-a)*p) (1000*a+(b-a)*q)) (d:=1000) (B:=300000000) (by omega) (by omega) (by omega)
 rw [wrapI (by omega) (by omega)]
 omega
section
variable {n0:Nat} {f0:aL} {n2:Nat} {f2:aL} {n4:Nat} {f4:aL} {n6:Nat} {f6:aL} {x8 x9:Int}
theorem wsp {c1 c2:Bool} {z:Int} (h:c1=false->c2=false->cZ z):cZ (bif c1 then 0 else bif c2 then 0 else z):=by
 cases h1:c1 with
 |true=>exact pl0
 | false =>
   cases h2:c2 with
   |true=>exact pl0
   |false=>exact h h1 h2
theorem ad8:cZ (tW n0 f0 n2 f2 n4 f4 n6 f6 x8 x9)/\cZ (to n0 f0 n2 f2 n4 f4 n6 f6 x8 x9)/\cZ (te n0 f0 n2 f2 n4 f4 n6 f6 x8 x9)/\cZ (tQ n0 f0 n2 f2 n4 f4 n6 f6 x8 x9):=by
 have hd:=Ul (n0:=n0) (f0:=f0) (n2:=n2) (f2:=f2) (n4:=n4) (f4:=f4) (n6:=n6) (f6:=f6) (i:=x8) (m:=n4)
 have hv:∀ {c2:Bool},(bif ix1 (fv n0 (aa aB f0) n2 (aa aG f2) n4 (aa aH f4) n6 (aa aA f6)) x8 n4==0 then oc x9 (aN (aE (ae (ae (ae (ae (f4 x8.toNat))))))) else false)=false->(ix1 (fv n0 (aa aB f0) n2 (aa aG f2) n4 (aa aH f4) n6 (aa aA f6)) x8 n4 != 0)=false ->
  (∀ x,x∈[aw (f4 x8.toNat),aW (f4 x8.toNat),b7 (f4 x8.toNat),bV (f4 x8.toNat)]->-100000<=x/\x<=100000)/\z6 (bO (aE (ae (ae (ae (ae (f4 x8.toNat)))))) x9.toNat)=false:=fun {c2} h h2=>by
  have h2:=gM h2
  rw [h2]at h
  obtain ⟨k1,k2⟩:=xx (show oc x9 (aN (aE (ae (ae (ae (ae (f4 x8.toNat)))))))=false from h)
  obtain ⟨h3,h4,h5⟩:=ww h2
  have h6:cF f4 x8.toNat=0:=(tX h3).fr x8.toNat (by omega)
  obtain ⟨g1,g2,g3⟩:=vk h6
  exact ⟨g1,g3 x9.toNat (by omega)⟩
 unfold tW to te tQ
 rw [hd]
 refine ⟨wsp fun a b=>?_,wsp fun a b=>?_,wsp fun a b=>?_,wsp fun a b=>?_⟩ <;>
 ·obtain⟨g1,g2⟩:=hv (c2:=true) a b
  have w:=GY g2
  have s1:=Kj (g1 (aw (f4 x8.toNat)) (by simp)) (g1 (b7 (f4 x8.toNat)) (by simp)) (p:=aw (bO (aE (ae (ae (ae (ae (f4 x8.toNat)))))) x9.toNat)) (q:=aW (bO (aE (ae (ae (ae (ae (f4 x8.toNat)))))) x9.toNat)) (by omega) (by omega)
  have s2:=Kj (g1 (aW (f4 x8.toNat)) (by simp)) (g1 (bV (f4 x8.toNat)) (by simp)) (p:=aw (bO (aE (ae (ae (ae (ae (f4 x8.toNat)))))) x9.toNat)) (q:=aW (bO (aE (ae (ae (ae (ae (f4 x8.toNat)))))) x9.toNat)) (by omega) (by omega)
  first|with_reducible exact s1.1|with_reducible exact s2.1|with_reducible exact s1.2|with_reducible exact s2.2
end
def yZ:aZ:=(30,.con Pk)::Rz
theorem Gk:aO Tryz.prog eqs its yZ:=.con Sj (S8)
def skS (f2 f13 f15:aL):Nat->Int:=iP (jy f13) fun i=>Ko n0 f0 n2 f2 f13 f15 (i:Int) (bE (f0 (aW (f2 (aw (f13 i)).toNat)).toNat))
def D1 (f2 f13 f15:aL):Nat->Int:=iP (jy f13) fun i=>uc n0 f0 n2 f2 (aw (f13 i)) (b7 (f15 i))
def DZ (f2 f13 f15:aL):Nat->Int:=iP (jy f13) fun i=>uf n0 f0 n2 f2 (aw (f13 i)) (b7 (f15 i))
def KN (n5:Nat) (f5:aL) (n7:Nat) (f7:aL) (n9:Nat) (f9:aL) (n11:Nat) (f11:aL) (x17:Int) (i:Nat):Bool:=bif jy f13 i then O1 n5 f5 n7 f7 n9 f9 n11 f11 (i:Int) x17 else false
def Xy (f2 f13 f15:aL) (n5:Nat) (f5:aL) (n7:Nat) (f7:aL) (n9:Nat) (f9:aL) (n11:Nat) (f11:aL) (x17 x18:Int):Nat->Int:=iP (KN f13 n5 f5 n7 f7 n9 f9 n11 f11 x17) fun i=>wnS n0 f0 n2 f2 f13 f15 (i:Int) (aW (f11 i)) (b7 (f11 i)) (bV (f11 i)) (dA (f11 i)) (bE (f11 i)) (tW n5 f5 n7 f7 n9 f9 n11 f11 x17 x18) (to n5 f5 n7 f7 n9 f9 n11 f11 x17 x18) (te n5 f5 n7 f7 n9 f9 n11 f11 x17 x18) (tQ n5 f5 n7 f7 n9 f9 n11 f11 x17 x18) (yL n5 f5 n7 f7 n9 f9 n11 f11 x17 x18) (yX n5 f5 n7 f7 n9 f9 n11 f11 x17 x18)
def UQ (e:Int) (n5:Nat) (f5:aL) (n7:Nat) (f7:aL) (n9:Nat) (f9:aL) (n11:Nat) (f11:aL) (x17 x18:Int):Int:=bif e==0 then G8 n5 f5 n7 f7 n9 f9 n11 f11 x17 x18 else e
def skV (f2 f13 f15:aL):Nat->Int:=skS n0 (aa af f0) n2 (aa ah f2) (aa ac f13) (aa aU f15)
def wdV (f2 f13 f15:aL) (n5:Nat) (f5:aL) (n7:Nat) (f7:aL) (n9:Nat) (f9:aL) (n11:Nat) (f11:aL) (x17 x18:Int):Nat->Int:=Xy n0 (aa af f0) n2 (aa ah f2) (aa ac f13) (aa aU f15) n5 (aa aB f5) n7 (aa aG f7) n9 (aa aH f9) n11 (aa aA f11) x17 x18
def wpV (n5:Nat) (f5:aL) (n7:Nat) (f7:aL) (n9:Nat) (f9:aL) (n11:Nat) (f11:aL) (x17:Int) (i:Nat):Bool:=KN (aa ac f13) n5 (aa aB f5) n7 (aa aG f7) n9 (aa aH f9) n11 (aa aA f11) x17 i
def GdV:Prop:=aaV n0 (aa af f0) n2 (aa ah f2) x4 n5 (aa aB f5) n7 (aa aG f7) n9 (aa aH f9) n11 (aa aA f11) n13 (aa ac f13) n15 (aa aU f15)
theorem Et {e z a:Int} (h:e=z) (h0:z≠0):cz (V.tup [vi 0,vi z])=cz (V.tup [vi (iA e a),vi e]):=by
 subst h
 unfold iA
 rw [show(e==0)=false from by simpa using h0];rfl
theorem Mv {e a b:Int} (h:¬ e=0):cz (V.tup [V.agg [vi 0,vi 0],vi e])=cz (V.tup [V.agg [vi (iA e a),vi (iA e b)],vi e]):=by
 unfold iA
 rw [show(e==0)=false from by simpa using h];rfl
theorem aoB {e:Int} {n5:Nat} {f5:aL} {n7:Nat} {f7:aL} {n9:Nat} {f9:aL} {n11:Nat} {f11:aL} {x17 x18:Int} (h:e≠0):UQ e n5 f5 n7 f7 n9 f9 n11 f11 x17 x18=e:=by
 unfold UQ;rw[show(e==0)=false from by simpa using h];rfl
theorem ab5 {e:Int} {n5:Nat} {f5:aL} {n7:Nat} {f7:aL} {n9:Nat} {f9:aL} {n11:Nat} {f11:aL} {x17 x18:Int} (h:e=0):UQ e n5 f5 n7 f7 n9 f9 n11 f11 x17 x18=G8 n5 f5 n7 f7 n9 f9 n11 f11 x17 x18:=by
 subst h;rfl
inductive rB where
 |L0 (ia0:Int) (na1:Nat) (ia2:Int)
def ZA:rB->bD×List O×Option Ex
 |.L0 ia0 na1 ia2=>([(8,vi ia0),(7,vi (n13:Int)),(6,V.sl n13 (aa ac f13)),(5,V.pl 2 7),(0,V.yl na1),(1,V.pl 2 0)],[O.cells [V.sl n0 (aa af f0),V.sl n2 (aa ah f2),vi x4,V.sl n5 (aa aB f5),V.sl n7 (aa aG f7),V.sl n9 (aa aH f9),V.sl n11 (aa aA f11),V.sl n13 (aa ac f13),V.sl n15 (aa aU f15)] 35,O.cells [vi ia2] 3,O.cells [V.sl n0 (aa af f0),V.sl n2 (aa ah f2),vi x4,V.sl n5 (aa aB f5),V.sl n7 (aa aG f7),V.sl n9 (aa aH f9),V.sl n11 (aa aA f11),V.sl n13 (aa ac f13),V.sl n15 (aa aU f15)] 35],none)
def aew:rB->JJ
 |.L0 ia0 na1 ia2=>(0,[Cx.n na1])
def TW:T (ck JJ):=aV JJ yZ u0 ah1 [V.agg [V.sl n0 (aa af f0),V.sl n2 (aa ah f2),vi x4,V.sl n5 (aa aB f5),V.sl n7 (aa aG f7),V.sl n9 (aa aH f9),V.sl n11 (aa aA f11),V.sl n13 (aa ac f13),V.sl n15 (aa aU f15)]]
def C9 (cx:List Cx):Lp JJ:=fQ (eZ (US (eZ (TW n0 f0 n2 f2 x4 n5 f5 n7 f7 n9 f9 n11 f11 n13 f13 n15 f15) [false]) (eC cx 0)) [])
def aio:JJ->Lp JJ
 |(0,cx)=>C9 n0 f0 n2 f2 x4 n5 f5 n7 f7 n9 f9 n11 f11 n13 f13 n15 f15 cx
 |(_,cx)=>C9 n0 f0 n2 f2 x4 n5 f5 n7 f7 n9 f9 n11 f11 n13 f13 n15 f15 cx
def akT:LD JJ rB:=⟨aew,aio n0 f0 n2 f2 x4 n5 f5 n7 f7 n9 f9 n11 f11 n13 f13 n15 f15,ZA n0 f0 n2 f2 x4 n5 f5 n7 f7 n9 f9 n11 f11 n13 f13 n15 f15⟩
def Fe (n0:Nat) (f0:aL) (n2:Nat) (f2:aL) (x4:Int) (n5:Nat) (f5:aL) (n7:Nat) (f7:aL) (n9:Nat) (f9:aL) (n11:Nat) (f11:aL) (n13:Nat) (f13:aL) (n15:Nat) (f15:aL):rB->RT rB
 |.L0 ia0 na1 ia2=>.br (decide (ia0<(n13:Int))) (.ob (dI ia0 n13) (.iv (.obj (decide (0<=aw (f13 ia0.toNat))) (dI ia0 n11) (.iv (.br (decide (0<=aw (f13 ia0.toNat))) (.ob (decide (0<=aw (f13 ia0.toNat))) (.ob (decide (0<=aw (f13 ia0.toNat))) (.obp (((0:Int)<=ia0/\ia0<(n13:Int))/\((0:Int)<=aw (f13 ia0.toNat)/\aw (f13 ia0.toNat)<(n2:Int))/\(0:Int)<=aW (f2 (aw (f13 ia0.toNat)).toNat)/\aW (f2 (aw (f13 ia0.toNat)).toNat)<(n0:Int)) (.obt (.obp (((0:Int)<=ia0/\ia0<(n13:Int))/\((0:Int)<=ia0/\ia0<(n15:Int))/\ap n0 (aa af f0)/\ap n2 (aa ah f2)) (.obt (.next (iR 0 3 []) (rB.L0 (wI (ia0+1)) na1 (wI (ia2+Ko n0 (aa af f0) n2 (aa ah f2) (aa ac f13) (aa aU f15) ia0 (bE (f0 (aW (f2 (aw (f13 ia0.toNat)).toNat)).toNat))))) []))))))) (.next (iR 0 3 []) (rB.L0 (wI (ia0+1)) na1 ia2) [])))))) (.ret (V.tup [vi ia2,vi 0]))
def ac1:RT rB:=.obp (ap n0 (aa af f0)/\ap n2 (aa ah f2)/\ap n5 (aa aB f5)/\ap n11 (aa aA f11)) (.obt (.br (ckV n0 f0 n2 f2 x4 n5 f5 n7 f7 n9 f9 n11 f11 n13 f13 n15 f15 != 0) (.ret (V.tup [vi 0,vi (ckV n0 f0 n2 f2 x4 n5 f5 n7 f7 n9 f9 n11 f11 n13 f13 n15 f15)])) (.all (fun l_14768=>.am n13 (.enter (iR 0 3 []) (rB.L0 0 (l_14768) 0) [])))))
theorem Zx:eS yZ u0 (akT n0 f0 n2 f2 x4 n5 f5 n7 f7 n9 f9 n11 f11 n13 f13 n15 f15) (TW n0 f0 n2 f2 x4 n5 f5 n7 f7 n9 f9 n11 f11 n13 f13 n15 f15) (ac1 n0 f0 n2 f2 x4 n5 f5 n7 f7 n9 f9 n11 f11 n13 f13 n15 f15) (Fe n0 f0 n2 f2 x4 n5 f5 n7 f7 n9 f9 n11 f11 n13 f13 n15 f15):=⟨bF,fun s=>by cases s<;>exact bF⟩
theorem al0 (hz:ap n0 (aa af f0)/\ap n2 (aa ah f2)) (G:GdV n0 f0 n2 f2 x4 n5 f5 n7 f7 n9 f9 n11 f11 n13 f13 n15 f15) (hn:n13<=9223372036854775807) (l:Nat):∀ k,k<=n13->Ev (Fe n0 f0 n2 f2 x4 n5 f5 n7 f7 n9 f9 n11 f11 n13 f13 n15 f15) (.L0 (k:Int) l (skV n0 f0 n2 f2 f13 f15 k)) (.tup [vi (skV n0 f0 n2 f2 f13 f15 n13),vi 0]):=by
 refine dO fun k hk ih=>Ev.of rfl ?_
 have ll:=G.ll
 have lu:=G.lu
 by_cases hlt:k<n13
 ·have hw:wI ((k:Int)+1)=((k+1:Nat):Int):=by rw[wrapI (by omega) (by omega)];omega
  have ih:=ih hlt
  rw [← hw]at ih
  have c:=G.cl k (by omega)
  have ix:jy (aa ac f13) k=true->xR n0 n2 (aa ah f2) n13 (aa ac f13) (k:Int):=fun h=>aoA (f0:=aa af f0) (f15:=aa aU f15) G.v2.l2 G.lm (G.co k (by omega)) hlt h
  refine cI (dqt (by omega)) (aD (dqt (by omega)) (evObi (evObi (evObi (evObi (d5 (fun _=>(dqt (by omega))) (evObi (evObi (evObi (evObi (evBr (fun h=>aD h (aD h (evObp (ix h) (evObt (evObp ⟨by omega,by omega,hz⟩ (evObt (aS ?_))))))) (fun h=>aS ?_))))))))))))
  ·have h:jy (aa ac f13) k=true:=h
   unfold skV skS at ih
   rw [kT h]at ih
   exact ih
  ·have h:jy (aa ac f13) k=false:=h
   unfold skV skS at ih
   rw [jY h]at ih
   exact ih
 ·have e:k=n13:=by omega
  refine cS (ef (by omega)) ?_
  rw [e]
  exact evRet rfl
theorem ajC (hp:ap n0 (aa af f0)/\ap n2 (aa ah f2)/\ap n5 (aa aB f5)/\ap n11 (aa aA f11)):aX (Ev (Fe n0 f0 n2 f2 x4 n5 f5 n7 f7 n9 f9 n11 f11 n13 f13 n15 f15)) (ac1 n0 f0 n2 f2 x4 n5 f5 n7 f7 n9 f9 n11 f11 n13 f13 n15 f15) (.tup [vi (iA (dX n0 (aa af f0) n2 (aa ah f2) x4 n5 (aa aB f5) n7 (aa aG f7) n9 (aa aH f9) n11 (aa aA f11) n13 (aa ac f13) n15 (aa aU f15)) (skS n0 (aa af f0) n2 (aa ah f2) (aa ac f13) (aa aU f15) n13)),vi (dX n0 (aa af f0) n2 (aa ah f2) x4 n5 (aa aB f5) n7 (aa aG f7) n9 (aa aH f9) n11 (aa aA f11) n13 (aa ac f13) n15 (aa aU f15))]):=by
 refine evObp hp (evObt (evBr (fun h=>evRet (Et rfl (lC h))) (fun h=>po fun l=>bw fun hn=>aM ?_)))
 have h0:(dX n0 (aa af f0) n2 (aa ah f2) x4 n5 (aa aB f5) n7 (aa aG f7) n9 (aa aH f9) n11 (aa aA f11) n13 (aa ac f13) n15 (aa aU f15))=0:=gM h
 rw [h0]
 exact al0 n0 f0 n2 f2 x4 n5 f5 n7 f7 n9 f9 n11 f11 n13 f13 n15 f15 ⟨hp.1,hp.2.1⟩ (vv h0) hn l 0 (acK _)
def O6:av:=bL [.agg [.sl af,.sl ah,tI,.sl aB,.sl aG,.sl aH,.sl aA,.sl ac,.sl aU]] (fun
 |[.agg [.sl n0 f0,.sl n2 f2,.int _ x4,.sl n5 f5,.sl n7 f7,.sl n9 f9,.sl n11 f11,.sl n13 f13,.sl n15 f15]]=>ap n0 f0/\ap n2 f2/\ap n5 f5/\ap n11 f11
 |_=>False) fun
 |[.agg [.sl n0 f0,.sl n2 f2,.int _ x4,.sl n5 f5,.sl n7 f7,.sl n9 f9,.sl n11 f11,.sl n13 f13,.sl n15 f15]]=>.tup [vi (iA (dX n0 f0 n2 f2 x4 n5 f5 n7 f7 n9 f9 n11 f11 n13 f13 n15 f15) (skS n0 f0 n2 f2 f13 f15 n13)),vi (dX n0 f0 n2 f2 x4 n5 f5 n7 f7 n9 f9 n11 f11 n13 f13 n15 f15)]
 |_=>.any
theorem RQ:cr O6 12:=aY Gk fun _ hp=>nd (Zx ..) (ajC _ _ _ _ _ _ _ _ _ _ _ _ _ _ _ _ _ hp)
inductive pH where
 |L0 (ia0:Int) (na1:Nat) (ia2:Int)
def ZP:pH->bD×List O×Option Ex
 |.L0 ia0 na1 ia2=>([(8,vi ia0),(7,vi (n13:Int)),(6,V.sl n13 (aa ac f13)),(5,V.pl 4 7),(0,V.yl na1),(1,V.pl 4 0)],[O.cells [V.sl n0 (aa af f0),V.sl n2 (aa ah f2),vi x4,V.sl n5 (aa aB f5),V.sl n7 (aa aG f7),V.sl n9 (aa aH f9),V.sl n11 (aa aA f11),V.sl n13 (aa ac f13),V.sl n15 (aa aU f15)] 35,O.cells [vi x17] 3,O.cells [vi (pg n5 (aa aB f5) n7 (aa aG f7) n9 (aa aH f9) n11 (aa aA f11) x17 x18),vi (pI n5 (aa aB f5) n7 (aa aG f7) n9 (aa aH f9) n11 (aa aA f11) x17 x18),vi (pn n5 (aa aB f5) n7 (aa aG f7) n9 (aa aH f9) n11 (aa aA f11) x17 x18),vi (pA n5 (aa aB f5) n7 (aa aG f7) n9 (aa aH f9) n11 (aa aA f11) x17 x18),vi (qH n5 (aa aB f5) n7 (aa aG f7) n9 (aa aH f9) n11 (aa aA f11) x17 x18),vi (ri n5 (aa aB f5) n7 (aa aG f7) n9 (aa aH f9) n11 (aa aA f11) x17 x18)] 80,O.cells [vi ia2] 3,O.cells [V.sl n0 (aa af f0),V.sl n2 (aa ah f2),vi x4,V.sl n5 (aa aB f5),V.sl n7 (aa aG f7),V.sl n9 (aa aH f9),V.sl n11 (aa aA f11),V.sl n13 (aa ac f13),V.sl n15 (aa aU f15)] 35],none)
def ag1:pH->JJ
 |.L0 ia0 na1 ia2=>(0,[Cx.n na1])
def Mw:T (ck JJ):=aV JJ yZ u0 af0 [V.agg [V.sl n0 (aa af f0),V.sl n2 (aa ah f2),vi x4,V.sl n5 (aa aB f5),V.sl n7 (aa aG f7),V.sl n9 (aa aH f9),V.sl n11 (aa aA f11),V.sl n13 (aa ac f13),V.sl n15 (aa aU f15)],vi x17,vi x18]
def yaA (cx:List Cx):Lp JJ:=fQ (eZ (US (eZ (Mw n0 f0 n2 f2 x4 n5 f5 n7 f7 n9 f9 n11 f11 n13 f13 n15 f15 x17 x18) [false,false]) (eC cx 0)) [])
def af5:JJ->Lp JJ
 |(0,cx)=>yaA n0 f0 n2 f2 x4 n5 f5 n7 f7 n9 f9 n11 f11 n13 f13 n15 f15 x17 x18 cx
 |(_,cx)=>yaA n0 f0 n2 f2 x4 n5 f5 n7 f7 n9 f9 n11 f11 n13 f13 n15 f15 x17 x18 cx
def al3:LD JJ pH:=⟨ag1,af5 n0 f0 n2 f2 x4 n5 f5 n7 f7 n9 f9 n11 f11 n13 f13 n15 f15 x17 x18,ZP n0 f0 n2 f2 x4 n5 f5 n7 f7 n9 f9 n11 f11 n13 f13 n15 f15 x17 x18⟩
def Fq (n0:Nat) (f0:aL) (n2:Nat) (f2:aL) (x4:Int) (n5:Nat) (f5:aL) (n7:Nat) (f7:aL) (n9:Nat) (f9:aL) (n11:Nat) (f11:aL) (n13:Nat) (f13:aL) (n15:Nat) (f15:aL) (x17 x18:Int):pH->RT pH
 |.L0 ia0 na1 ia2=>.br (decide (ia0<(n13:Int))) (.ob (dI ia0 n13) (.iv (.obj (decide (0<=aw (f13 ia0.toNat))) (dI ia0 n11) (.iv (.br (decide (0<=aw (f13 ia0.toNat))) (.ob (decide (0<=aw (f13 ia0.toNat))) (.ob (decide (0<=aw (f13 ia0.toNat))) (.obp (ap n5 (aa aB f5)/\ap n11 (aa aA f11)) (.obt (.br (yY n5 (aa aB f5) n7 (aa aG f7) n9 (aa aH f9) n11 (aa aA f11) ia0 x17) (.obp (((0:Int)<=ia0/\ia0<(n13:Int))/\((0:Int)<=ia0/\ia0<(n15:Int))/\(ap n0 (aa af f0)/\ap n2 (aa ah f2))/\xR n0 n2 (aa ah f2) n13 (aa ac f13) ia0/\Wy (aa af f0) (aa ah f2) (aa ac f13) ia0/\Hd (dA (f11 ia0.toNat)) (bE (f11 ia0.toNat))/\cZ (aW (f11 ia0.toNat))/\cZ (b7 (f11 ia0.toNat))/\cZ (pg n5 (aa aB f5) n7 (aa aG f7) n9 (aa aH f9) n11 (aa aA f11) x17 x18)/\cZ (pI n5 (aa aB f5) n7 (aa aG f7) n9 (aa aH f9) n11 (aa aA f11) x17 x18)/\cZ (pn n5 (aa aB f5) n7 (aa aG f7) n9 (aa aH f9) n11 (aa aA f11) x17 x18)/\cZ (pA n5 (aa aB f5) n7 (aa aG f7) n9 (aa aH f9) n11 (aa aA f11) x17 x18)) (.obt (.next (iR 0 5 []) (pH.L0 (wI (ia0+1)) na1 (wI (ia2+wnS n0 (aa af f0) n2 (aa ah f2) (aa ac f13) (aa aU f15) ia0 (aW (f11 ia0.toNat)) (b7 (f11 ia0.toNat)) (bV (f11 ia0.toNat)) (dA (f11 ia0.toNat)) (bE (f11 ia0.toNat)) (pg n5 (aa aB f5) n7 (aa aG f7) n9 (aa aH f9) n11 (aa aA f11) x17 x18) (pI n5 (aa aB f5) n7 (aa aG f7) n9 (aa aH f9) n11 (aa aA f11) x17 x18) (pn n5 (aa aB f5) n7 (aa aG f7) n9 (aa aH f9) n11 (aa aA f11) x17 x18) (pA n5 (aa aB f5) n7 (aa aG f7) n9 (aa aH f9) n11 (aa aA f11) x17 x18) (qH n5 (aa aB f5) n7 (aa aG f7) n9 (aa aH f9) n11 (aa aA f11) x17 x18) (ri n5 (aa aB f5) n7 (aa aG f7) n9 (aa aH f9) n11 (aa aA f11) x17 x18)))) []))) (.next (iR 0 5 []) (pH.L0 (wI (ia0+1)) na1 ia2) [])))))) (.next (iR 0 5 []) (pH.L0 (wI (ia0+1)) na1 ia2) [])))))) (.ret (V.tup [vi ia2,vi 0]))
def acN:RT pH:=.obp (ap n0 (aa af f0)/\ap n2 (aa ah f2)/\ap n5 (aa aB f5)/\ap n11 (aa aA f11)) (.obt (.br (ckV n0 f0 n2 f2 x4 n5 f5 n7 f7 n9 f9 n11 f11 n13 f13 n15 f15 != 0) (.ret (V.tup [vi 0,vi (ckV n0 f0 n2 f2 x4 n5 f5 n7 f7 n9 f9 n11 f11 n13 f13 n15 f15)])) (.obp (ap n5 (aa aB f5)/\ap n11 (aa aA f11)) (.obt (.br (ru n5 (aa aB f5) n7 (aa aG f7) n9 (aa aH f9) n11 (aa aA f11) x17 x18 != 0) (.ret (V.tup [vi 0,vi (ru n5 (aa aB f5) n7 (aa aG f7) n9 (aa aH f9) n11 (aa aA f11) x17 x18)])) (.all (fun l_15061=>.am n13 (.enter (iR 0 5 []) (pH.L0 0 (l_15061) 0) []))))))))
theorem aal:eS yZ u0 (al3 n0 f0 n2 f2 x4 n5 f5 n7 f7 n9 f9 n11 f11 n13 f13 n15 f15 x17 x18) (Mw n0 f0 n2 f2 x4 n5 f5 n7 f7 n9 f9 n11 f11 n13 f13 n15 f15 x17 x18) (acN n0 f0 n2 f2 x4 n5 f5 n7 f7 n9 f9 n11 f11 n13 f13 n15 f15 x17 x18) (Fq n0 f0 n2 f2 x4 n5 f5 n7 f7 n9 f9 n11 f11 n13 f13 n15 f15 x17 x18):=⟨bF,fun s=>by cases s<;>exact bF⟩
theorem ak7 (hz:ap n0 (aa af f0)/\ap n2 (aa ah f2)) (G:GdV n0 f0 n2 f2 x4 n5 f5 n7 f7 n9 f9 n11 f11 n13 f13 n15 f15) (hn:n13<=9223372036854775807) (hr:ap n5 (aa aB f5)/\ap n11 (aa aA f11)) (l:Nat):∀ k,k<=n13->Ev (Fq n0 f0 n2 f2 x4 n5 f5 n7 f7 n9 f9 n11 f11 n13 f13 n15 f15 x17 x18) (.L0 (k:Int) l (wdV n0 f0 n2 f2 f13 f15 n5 f5 n7 f7 n9 f9 n11 f11 x17 x18 k)) (.tup [vi (wdV n0 f0 n2 f2 f13 f15 n5 f5 n7 f7 n9 f9 n11 f11 x17 x18 n13),vi 0]):=by
 refine dO fun k hk ih=>Ev.of rfl ?_
 have ll:=G.ll
 have lu:=G.lu
 by_cases hlt:k<n13
 ·have hw:wI ((k:Int)+1)=((k+1:Nat):Int):=by rw[wrapI (by omega) (by omega)];omega
  have ih:=ih hlt
  rw [← hw]at ih
  have c:=G.cl k (by omega)
  have ix:jy (aa ac f13) k=true->xR n0 n2 (aa ah f2) n13 (aa ac f13) (k:Int):=fun h=>aoA (f0:=aa af f0) (f15:=aa aU f15) G.v2.l2 G.lm (G.co k (by omega)) hlt h
  have bx:=ad8 (n0:=n5) (f0:=aa aB f5) (n2:=n7) (f2:=aa aG f7) (n4:=n9) (f4:=aa aH f9) (n6:=n11) (f6:=aa aA f11) (x8:=x17) (x9:=x18)
  have pc:cZ (aW (aa aA f11 k))/\cZ (b7 (aa aA f11 k)):=by
   have h1:=c.px
   have h2:=c.py
   exact ⟨⟨by omega,by omega⟩,⟨by omega,by omega⟩⟩
  refine cI (dqt (by omega)) (aD (dqt (by omega)) (evObi (evObi (evObi (evObi (d5 (fun _=>(dqt (by omega))) (evObi (evObi (evObi (evObi (evBr (fun h=>aD h (aD h (evObp hr (evObt (evBr (fun h2=>?_) (fun h2=>aS ?_)))))) (fun h=>aS ?_))))))))))))
  ·rw[(hJ x17 x18).1,(hJ x17 x18).2.1,(hJ x17 x18).2.2.1,(hJ x17 x18).2.2.2.1,(hJ x17 x18).2.2.2.2.1,(hJ x17 x18).2.2.2.2.2.1]
   refine evObp ⟨by omega,by omega,hz,ix h,apX (ix h) G.tb,c.hd,pc.1,pc.2,bx.1,bx.2.1,bx.2.2.1,bx.2.2.2⟩ (evObt (aS ?_))
   have h:wpV f13 n5 f5 n7 f7 n9 f9 n11 f11 x17 k=true:=by unfold wpV KN;rw[show jy (aa ac f13) k=true from h];exact(Cj _ _).1.symm.trans h2
   unfold wdV Xy at ih
   rw [kT (show KN (aa ac f13) n5 (aa aB f5) n7 (aa aG f7) n9 (aa aH f9) n11 (aa aA f11) x17 k=true from h)]at ih
   exact ih
  ·have h:wpV f13 n5 f5 n7 f7 n9 f9 n11 f11 x17 k=false:=by unfold wpV KN;rw[show jy (aa ac f13) k=true from h];exact(Cj _ _).1.symm.trans h2
   unfold wdV Xy at ih
   rw [jY (show KN (aa ac f13) n5 (aa aB f5) n7 (aa aG f7) n9 (aa aH f9) n11 (aa aA f11) x17 k=false from h)]at ih
   exact ih
  ·have h:wpV f13 n5 f5 n7 f7 n9 f9 n11 f11 x17 k=false:=by unfold wpV KN;rw[show jy (aa ac f13) k=false from h];rfl
   unfold wdV Xy at ih
   rw [jY (show KN (aa ac f13) n5 (aa aB f5) n7 (aa aG f7) n9 (aa aH f9) n11 (aa aA f11) x17 k=false from h)]at ih
   exact ih
 ·have e:k=n13:=by omega
  refine cS (ef (by omega)) ?_
  rw [e]
  exact evRet rfl
theorem aeW (hp:ap n0 (aa af f0)/\ap n2 (aa ah f2)/\ap n5 (aa aB f5)/\ap n11 (aa aA f11)):aX (Ev (Fq n0 f0 n2 f2 x4 n5 f5 n7 f7 n9 f9 n11 f11 n13 f13 n15 f15 x17 x18)) (acN n0 f0 n2 f2 x4 n5 f5 n7 f7 n9 f9 n11 f11 n13 f13 n15 f15 x17 x18) (.tup [vi (iA (UQ (dX n0 (aa af f0) n2 (aa ah f2) x4 n5 (aa aB f5) n7 (aa aG f7) n9 (aa aH f9) n11 (aa aA f11) n13 (aa ac f13) n15 (aa aU f15)) n5 (aa aB f5) n7 (aa aG f7) n9 (aa aH f9) n11 (aa aA f11) x17 x18) (Xy n0 (aa af f0) n2 (aa ah f2) (aa ac f13) (aa aU f15) n5 (aa aB f5) n7 (aa aG f7) n9 (aa aH f9) n11 (aa aA f11) x17 x18 n13)),vi (UQ (dX n0 (aa af f0) n2 (aa ah f2) x4 n5 (aa aB f5) n7 (aa aG f7) n9 (aa aH f9) n11 (aa aA f11) n13 (aa ac f13) n15 (aa aU f15)) n5 (aa aB f5) n7 (aa aG f7) n9 (aa aH f9) n11 (aa aA f11) x17 x18)]):=by
 refine evObp hp (evObt (evBr (fun h=>evRet (Et (aoB (lC h)) (lC h))) (fun h=>evObp ⟨hp.2.2.1,hp.2.2.2⟩ (evObt ?_))))
 have h0:(dX n0 (aa af f0) n2 (aa ah f2) x4 n5 (aa aB f5) n7 (aa aG f7) n9 (aa aH f9) n11 (aa aA f11) n13 (aa ac f13) n15 (aa aU f15))=0:=gM h
 rw [(hJ x17 x18).2.2.2.2.2.2]
 refine evBr (fun h1=>evRet (Et (ab5 h0) (lC h1))) (fun h1=>po fun l=>bw fun hn=>aM ?_)
 have e:(UQ (dX n0 (aa af f0) n2 (aa ah f2) x4 n5 (aa aB f5) n7 (aa aG f7) n9 (aa aH f9) n11 (aa aA f11) n13 (aa ac f13) n15 (aa aU f15)) n5 (aa aB f5) n7 (aa aG f7) n9 (aa aH f9) n11 (aa aA f11) x17 x18)=0:=(ab5 h0).trans (gM h1)
 rw [e]
 exact ak7 n0 f0 n2 f2 x4 n5 f5 n7 f7 n9 f9 n11 f11 n13 f13 n15 f15 x17 x18 ⟨hp.1,hp.2.1⟩ (vv h0) hn ⟨hp.2.2.1,hp.2.2.2⟩ l 0 (acK _)
def QF:av:=bL [.agg [.sl af,.sl ah,tI,.sl aB,.sl aG,.sl aH,.sl aA,.sl ac,.sl aU],tI,tI] (fun
 |[.agg [.sl n0 f0,.sl n2 f2,.int _ x4,.sl n5 f5,.sl n7 f7,.sl n9 f9,.sl n11 f11,.sl n13 f13,.sl n15 f15],.int _ x17,.int _ x18]=>ap n0 f0/\ap n2 f2/\ap n5 f5/\ap n11 f11
 |_=>False) fun
 |[.agg [.sl n0 f0,.sl n2 f2,.int _ x4,.sl n5 f5,.sl n7 f7,.sl n9 f9,.sl n11 f11,.sl n13 f13,.sl n15 f15],.int _ x17,.int _ x18]=>.tup [vi (iA (UQ (dX n0 f0 n2 f2 x4 n5 f5 n7 f7 n9 f9 n11 f11 n13 f13 n15 f15) n5 f5 n7 f7 n9 f9 n11 f11 x17 x18) (Xy n0 f0 n2 f2 f13 f15 n5 f5 n7 f7 n9 f9 n11 f11 x17 x18 n13)),vi (UQ (dX n0 f0 n2 f2 x4 n5 f5 n7 f7 n9 f9 n11 f11 n13 f13 n15 f15) n5 f5 n7 f7 n9 f9 n11 f11 x17 x18)]
 |_=>.any
theorem MV:cr QF 11:=aY Gk fun _ hp=>nd (aal ..) (aeW _ _ _ _ _ _ _ _ _ _ _ _ _ _ _ _ _ _ _ hp)
def abQ:RT Empty:=dm (n0,f0,n2,f2,x4,n5,f5,n7,f7,n9,f9,n11,f11,n13,f13,n15,f15,s18,x19,x20,x21,x22,x23,x28,n29,f29,n31,f31,n33,f33,n35,f35) (.ob (dI x17 n37) (.ob (dI x17 n39) (.obp (ap n24 (aa af f24)/\ap n26 (aa ah f26)) (.obt (.ret (V.agg [vi (uc n24 (aa af f24) n26 (aa ah f26) (aw (f37 x17.toNat)) (b7 (f39 x17.toNat))),vi (uf n24 (aa af f24) n26 (aa ah f26) (aw (f37 x17.toNat)) (b7 (f39 x17.toNat)))]))))))
theorem Z4:cW cX (aV JJ yZ u0 ah4 [V.agg [V.sl n0 (aa af f0),V.sl n2 (aa ah f2),vi x4,V.sl n5 (aa aB f5),V.sl n7 (aa aG f7),V.sl n9 (aa aH f9),V.sl n11 (aa aA f11),V.sl n13 (aa ac f13),V.sl n15 (aa aU f15),vi x17,V.str s18,vi x19,vi x20,vi x21,vi x22,vi x23],V.pd [V.sl n24 (aa af f24),V.sl n26 (aa ah f26),vi x28,V.sl n29 (aa aB f29),V.sl n31 (aa aG f31),V.sl n33 (aa aH f33),V.sl n35 (aa aA f35),V.sl n37 (aa ac f37),V.sl n39 (aa aU f39)]]) (abQ n0 f0 n2 f2 x4 n5 f5 n7 f7 n9 f9 n11 f11 n13 f13 n15 f15 x17 s18 x19 x20 x21 x22 x23 n24 f24 n26 f26 x28 n29 f29 n31 f31 n33 f33 n35 f35 n37 f37 n39 f39):=bF
theorem aeG (n0:Nat) (f0:aL) (n2:Nat) (f2:aL) (x4:Int) (n5:Nat) (f5:aL) (n7:Nat) (f7:aL) (n9:Nat) (f9:aL) (n11:Nat) (f11:aL) (n13:Nat) (f13:aL) (n15:Nat) (f15:aL) (x17:Int) (s18:ByteArray) (x19 x20 x21 x22 x23:Int) (n24:Nat) (f24:aL) (n26:Nat) (f26:aL) (x28:Int) (n29:Nat) (f29:aL) (n31:Nat) (f31:aL) (n33:Nat) (f33:aL) (n35:Nat) (f35:aL) (n37:Nat) (f37:aL) (n39:Nat) (f39:aL) (hp:(0<=x17/\x17<(n37:Int))/\(0<=x17/\x17<(n39:Int))/\(ap n24 (aa af f24)/\ap n26 (aa ah f26))):aX cL (abQ n0 f0 n2 f2 x4 n5 f5 n7 f7 n9 f9 n11 f11 n13 f13 n15 f15 x17 s18 x19 x20 x21 x22 x23 n24 f24 n26 f26 x28 n29 f29 n31 f31 n33 f33 n35 f35 n37 f37 n39 f39) (.agg [vi (uc n24 (aa af f24) n26 (aa ah f26) (aw ((aa ac f37) x17.toNat)) (b7 ((aa aU f39) x17.toNat))),vi (uf n24 (aa af f24) n26 (aa ah f26) (aw ((aa ac f37) x17.toNat)) (b7 ((aa aU f39) x17.toNat)))]):=by
 obtain ⟨h0,h1,hz⟩:=hp
 exact aD (dqt h0) (aD (dqt h1) (evObp hz (evObt (evRet rfl))))
def abd:av:=bL [.agg [.sl af,.sl ah,tI,.sl aB,.sl aG,.sl aH,.sl aA,.sl ac,.sl aU,tI,.str,tI,tI,tI,tI,tI],.pd [.sl af,.sl ah,tI,.sl aB,.sl aG,.sl aH,.sl aA,.sl ac,.sl aU]] (fun
 |[.agg [.sl n0 f0,.sl n2 f2,.int _ x4,.sl n5 f5,.sl n7 f7,.sl n9 f9,.sl n11 f11,.sl n13 f13,.sl n15 f15,.int _ x17,.str s18,.int _ x19,.int _ x20,.int _ x21,.int _ x22,.int _ x23],.pd [.sl n24 f24,.sl n26 f26,.int _ x28,.sl n29 f29,.sl n31 f31,.sl n33 f33,.sl n35 f35,.sl n37 f37,.sl n39 f39]]=>(0<=x17/\x17<(n37:Int))/\(0<=x17/\x17<(n39:Int))/\(ap n24 f24/\ap n26 f26)
 |_=>False) fun
 |[.agg [.sl n0 f0,.sl n2 f2,.int _ x4,.sl n5 f5,.sl n7 f7,.sl n9 f9,.sl n11 f11,.sl n13 f13,.sl n15 f15,.int _ x17,.str s18,.int _ x19,.int _ x20,.int _ x21,.int _ x22,.int _ x23],.pd [.sl n24 f24,.sl n26 f26,.int _ x28,.sl n29 f29,.sl n31 f31,.sl n33 f33,.sl n35 f35,.sl n37 f37,.sl n39 f39]]=>.agg [vi (uc n24 f24 n26 f26 (aw (f37 x17.toNat)) (b7 (f39 x17.toNat))),vi (uf n24 f24 n26 f26 (aw (f37 x17.toNat)) (b7 (f39 x17.toNat)))]
 |_=>.any
theorem ahq:cr abd 25:=aY Gk fun _ hp=>c9 (Z4 ..) (aeG _ _ _ _ _ _ _ _ _ _ _ _ _ _ _ _ _ _ _ _ _ _ _ _ _ _ _ _ _ _ _ _ _ _ _ _ _ _ _ _ _ hp)
def He:aZ:=(28,.inl xD u0)::(12,.con O6)::(11,.con QF)::(25,.con abd)::(30,.con Pk)::(32,.conZ JF G0)::(31,.con S0)::(62,.con Us)::(65,.con Mh)::(26,.con OC)::(37,.con yh)::(9,.con yK)::DY
theorem NS:aO Tryz.prog eqs its He:=eT Tryz.func28 bb (.con RQ (.con MV (.con ahq (.con Sj (.conZ Uh (.con yaT (.con Rk (.con Uw (.con NH (.con w4 (.con xr (yaE))))))))))))
def xu (f19 f30 f32:aL):Nat->Int:=iP (jy f13) fun i=>uc n17 f17 n19 f19 (aw (f30 i)) (b7 (f32 i))
def xw (f19 f30 f32:aL):Nat->Int:=iP (jy f13) fun i=>uf n17 f17 n19 f19 (aw (f30 i)) (b7 (f32 i))
inductive lZ where
 |L0 (ia0:Int) (na1:Nat) (ia2 ia3:Int)
def Tc:lZ->bD×List O×Option Ex
 |.L0 ia0 na1 ia2 ia3=>([(8,vi ia0),(7,vi (n13:Int)),(6,V.sl n13 (aa ac f13)),(5,V.pl 4 7),(0,V.yl na1),(1,V.pl 4 0)],[O.cells [V.sl n0 (aa af f0),V.sl n2 (aa ah f2),vi x4,V.sl n5 (aa aB f5),V.sl n7 (aa aG f7),V.sl n9 (aa aH f9),V.sl n11 (aa aA f11),V.sl n13 (aa ac f13),V.sl n15 (aa aU f15)] 35,O.cells [V.fn 25 [] [V.pd [V.sl n17 (aa af f17),V.sl n19 (aa ah f19),vi x21,V.sl n22 (aa aB f22),V.sl n24 (aa aG f24),V.sl n26 (aa aH f26),V.sl n28 (aa aA f28),V.sl n30 (aa ac f30),V.sl n32 (aa aU f32)]]] 70,O.cells [vi 0,vi 0] 44,O.cells [vi ia2,vi ia3] 44,O.cells [V.sl n0 (aa af f0),V.sl n2 (aa ah f2),vi x4,V.sl n5 (aa aB f5),V.sl n7 (aa aG f7),V.sl n9 (aa aH f9),V.sl n11 (aa aA f11),V.sl n13 (aa ac f13),V.sl n15 (aa aU f15)] 35],none)
def Y8:lZ->JJ
 |.L0 ia0 na1 ia2 ia3=>(0,[Cx.n na1])
def J8:T (ck JJ):=aV JJ He u0 vC [V.agg [V.sl n0 (aa af f0),V.sl n2 (aa ah f2),vi x4,V.sl n5 (aa aB f5),V.sl n7 (aa aG f7),V.sl n9 (aa aH f9),V.sl n11 (aa aA f11),V.sl n13 (aa ac f13),V.sl n15 (aa aU f15)],V.fn 25 [] [V.pd [V.sl n17 (aa af f17),V.sl n19 (aa ah f19),vi x21,V.sl n22 (aa aB f22),V.sl n24 (aa aG f24),V.sl n26 (aa aH f26),V.sl n28 (aa aA f28),V.sl n30 (aa ac f30),V.sl n32 (aa aU f32)]]]
def zA (cx:List Cx):Lp JJ:=fQ (eZ (US (eZ (J8 n0 f0 n2 f2 x4 n5 f5 n7 f7 n9 f9 n11 f11 n13 f13 n15 f15 n17 f17 n19 f19 x21 n22 f22 n24 f24 n26 f26 n28 f28 n30 f30 n32 f32) []) (eC cx 0)) [])
def ZE:JJ->Lp JJ
 |(0,cx)=>zA n0 f0 n2 f2 x4 n5 f5 n7 f7 n9 f9 n11 f11 n13 f13 n15 f15 n17 f17 n19 f19 x21 n22 f22 n24 f24 n26 f26 n28 f28 n30 f30 n32 f32 cx
 |(_,cx)=>zA n0 f0 n2 f2 x4 n5 f5 n7 f7 n9 f9 n11 f11 n13 f13 n15 f15 n17 f17 n19 f19 x21 n22 f22 n24 f24 n26 f26 n28 f28 n30 f30 n32 f32 cx
def adN:LD JJ lZ:=⟨Y8,ZE n0 f0 n2 f2 x4 n5 f5 n7 f7 n9 f9 n11 f11 n13 f13 n15 f15 n17 f17 n19 f19 x21 n22 f22 n24 f24 n26 f26 n28 f28 n30 f30 n32 f32,Tc n0 f0 n2 f2 x4 n5 f5 n7 f7 n9 f9 n11 f11 n13 f13 n15 f15 n17 f17 n19 f19 x21 n22 f22 n24 f24 n26 f26 n28 f28 n30 f30 n32 f32⟩
def Ah (n0:Nat) (f0:aL) (n2:Nat) (f2:aL) (x4:Int) (n5:Nat) (f5:aL) (n7:Nat) (f7:aL) (n9:Nat) (f9:aL) (n11:Nat) (f11:aL) (n13:Nat) (f13:aL) (n15:Nat) (f15:aL) (n17:Nat) (f17:aL) (n19:Nat) (f19:aL) (x21:Int) (n22:Nat) (f22:aL) (n24:Nat) (f24:aL) (n26:Nat) (f26:aL) (n28:Nat) (f28:aL) (n30:Nat) (f30:aL) (n32:Nat) (f32:aL):lZ->RT lZ
 |.L0 ia0 na1 ia2 ia3=>.br (decide (ia0<(n13:Int))) (.ob (dI ia0 n13) (.iv (.obj (decide (0<=aw (f13 ia0.toNat))) (dI ia0 n11) (.iv (.br (decide (0<=aw (f13 ia0.toNat))) (.ob (decide (0<=aw (f13 ia0.toNat))) (.ob (decide (0<=aw (f13 ia0.toNat))) (.obp (((0:Int)<=ia0/\ia0<(n30:Int))/\((0:Int)<=ia0/\ia0<(n32:Int))/\ap n17 (aa af f17)/\ap n19 (aa ah f19)) (.obt (.next (iR 0 5 []) (lZ.L0 (wI (ia0+1)) na1 (wI (ia2+uc n17 (aa af f17) n19 (aa ah f19) (aw (f30 ia0.toNat)) (b7 (f32 ia0.toNat)))) (wI (ia3+uf n17 (aa af f17) n19 (aa ah f19) (aw (f30 ia0.toNat)) (b7 (f32 ia0.toNat))))) []))))) (.next (iR 0 5 []) (lZ.L0 (wI (ia0+1)) na1 ia2 ia3) [])))))) (.ret (V.agg [vi ia2,vi ia3]))
def Q3:RT lZ:=dm (n0,f0,n2,f2,x4,n5,f5,n7,f7,n9,f9,n11,f11,f13,n15,f15,n17,f17,n19,f19,x21,n22,f22,n24,f24,n26,f26,n28,f28,n30,f30,n32,f32) (.all (fun l_14388=>.am n13 (.enter (iR 0 5 []) (lZ.L0 0 (l_14388) 0 0) [])))
theorem Pz:eS He u0 (adN n0 f0 n2 f2 x4 n5 f5 n7 f7 n9 f9 n11 f11 n13 f13 n15 f15 n17 f17 n19 f19 x21 n22 f22 n24 f24 n26 f26 n28 f28 n30 f30 n32 f32) (J8 n0 f0 n2 f2 x4 n5 f5 n7 f7 n9 f9 n11 f11 n13 f13 n15 f15 n17 f17 n19 f19 x21 n22 f22 n24 f24 n26 f26 n28 f28 n30 f30 n32 f32) (Q3 n0 f0 n2 f2 x4 n5 f5 n7 f7 n9 f9 n11 f11 n13 f13 n15 f15 n17 f17 n19 f19 x21 n22 f22 n24 f24 n26 f26 n28 f28 n30 f30 n32 f32) (Ah n0 f0 n2 f2 x4 n5 f5 n7 f7 n9 f9 n11 f11 n13 f13 n15 f15 n17 f17 n19 f19 x21 n22 f22 n24 f24 n26 f26 n28 f28 n30 f30 n32 f32):=⟨bF,fun s=>by cases s<;>exact bF⟩
theorem ai1 (h1:n13<=n11) (h2:n13<=n30) (h3:n13<=n32) (hz:ap n17 (aa af f17)/\ap n19 (aa ah f19)) (hn:n13<=9223372036854775807) (l:Nat):∀ k,k<=n13->Ev (Ah n0 f0 n2 f2 x4 n5 f5 n7 f7 n9 f9 n11 f11 n13 f13 n15 f15 n17 f17 n19 f19 x21 n22 f22 n24 f24 n26 f26 n28 f28 n30 f30 n32 f32) (.L0 (k:Int) l (xu (aa ac f13) n17 (aa af f17) n19 (aa ah f19) (aa ac f30) (aa aU f32) k) (xw (aa ac f13) n17 (aa af f17) n19 (aa ah f19) (aa ac f30) (aa aU f32) k)) (.agg [vi (xu (aa ac f13) n17 (aa af f17) n19 (aa ah f19) (aa ac f30) (aa aU f32) n13),vi (xw (aa ac f13) n17 (aa af f17) n19 (aa ah f19) (aa ac f30) (aa aU f32) n13)]):=by
 refine dO fun k hk ih=>Ev.of rfl ?_
 by_cases hlt:k<n13
 ·have hw:wI ((k:Int)+1)=((k+1:Nat):Int):=by rw[wrapI (by omega) (by omega)];omega
  have ih:=ih hlt
  rw [← hw]at ih
  refine cI (dqt (by omega)) (aD (dqt (by omega)) (evObi (evObi (evObi (evObi (d5 (fun _=>(dqt (by omega))) (evObi (evObi (evObi (evObi (evBr (fun h=>aD h (aD h (evObp ⟨by omega,by omega,hz⟩ (evObt (aS ?_))))) (fun h=>aS ?_))))))))))))
  ·have h:jy (aa ac f13) k=true:=h
   unfold xu xw at ih
   rw [kT h,kT h]at ih
   exact ih
  ·have h:jy (aa ac f13) k=false:=h
   unfold xu xw at ih
   rw [jY h,jY h]at ih
   exact ih
 ·have e:k=n13:=by omega
  refine cS (ef (by omega)) ?_
  rw [e]
  exact evRet rfl
theorem XL (hp:(n13<=n11/\n13<=n30/\n13<=n32)/\(ap n17 (aa af f17)/\ap n19 (aa ah f19))):aX (Ev (Ah n0 f0 n2 f2 x4 n5 f5 n7 f7 n9 f9 n11 f11 n13 f13 n15 f15 n17 f17 n19 f19 x21 n22 f22 n24 f24 n26 f26 n28 f28 n30 f30 n32 f32)) (Q3 n0 f0 n2 f2 x4 n5 f5 n7 f7 n9 f9 n11 f11 n13 f13 n15 f15 n17 f17 n19 f19 x21 n22 f22 n24 f24 n26 f26 n28 f28 n30 f30 n32 f32) (.agg [vi (xu (aa ac f13) n17 (aa af f17) n19 (aa ah f19) (aa ac f30) (aa aU f32) n13),vi (xw (aa ac f13) n17 (aa af f17) n19 (aa ah f19) (aa ac f30) (aa aU f32) n13)]):=by
 obtain ⟨⟨h1,h2,h3⟩,hz⟩:=hp
 exact po fun l=>bw fun hn=>aM (ai1 n0 f0 n2 f2 x4 n5 f5 n7 f7 n9 f9 n11 f11 n13 f13 n15 f15 n17 f17 n19 f19 x21 n22 f22 n24 f24 n26 f26 n28 f28 n30 f30 n32 f32 h1 h2 h3 hz hn l 0 (acK _))
def Qo:av:=bL [.agg [.sl af,.sl ah,tI,.sl aB,.sl aG,.sl aH,.sl aA,.sl ac,.sl aU],.fn 25 [] [.pd [.sl af,.sl ah,tI,.sl aB,.sl aG,.sl aH,.sl aA,.sl ac,.sl aU]]] (fun
 |[.agg [.sl n0 f0,.sl n2 f2,.int _ x4,.sl n5 f5,.sl n7 f7,.sl n9 f9,.sl n11 f11,.sl n13 f13,.sl n15 f15],.fn _ [] [.pd [.sl n17 f17,.sl n19 f19,.int _ x21,.sl n22 f22,.sl n24 f24,.sl n26 f26,.sl n28 f28,.sl n30 f30,.sl n32 f32]]]=>(n13<=n11/\n13<=n30/\n13<=n32)/\(ap n17 f17/\ap n19 f19)
 |_=>False) fun
 |[.agg [.sl n0 f0,.sl n2 f2,.int _ x4,.sl n5 f5,.sl n7 f7,.sl n9 f9,.sl n11 f11,.sl n13 f13,.sl n15 f15],.fn _ [] [.pd [.sl n17 f17,.sl n19 f19,.int _ x21,.sl n22 f22,.sl n24 f24,.sl n26 f26,.sl n28 f28,.sl n30 f30,.sl n32 f32]]]=>.agg [vi (xu f13 n17 f17 n19 f19 f30 f32 n13),vi (xw f13 n17 f17 n19 f19 f30 f32 n13)]
 |_=>.any
theorem ZL:cr Qo 16:=aY NS fun _ hp=>nd (Pz ..) (XL _ _ _ _ _ _ _ _ _ _ _ _ _ _ _ _ _ _ _ _ _ _ _ _ _ _ _ _ _ _ _ _ _ _ hp)
def abI:aZ:=(16,.con Qo)::He
theorem aiV:aO Tryz.prog eqs its abI:=.con ZL (NS)
def abo:RT Empty:=.obp (ap n0 (aa af f0)/\ap n2 (aa ah f2)/\ap n5 (aa aB f5)/\ap n11 (aa aA f11)) (.obt (.br (dX n0 (aa af f0) n2 (aa ah f2) x4 n5 (aa aB f5) n7 (aa aG f7) n9 (aa aH f9) n11 (aa aA f11) n13 (aa ac f13) n15 (aa aU f15)!=0) (.ret (V.tup [V.agg [vi 0,vi 0],vi (dX n0 (aa af f0) n2 (aa ah f2) x4 n5 (aa aB f5) n7 (aa aG f7) n9 (aa aH f9) n11 (aa aA f11) n13 (aa ac f13) n15 (aa aU f15))])) (.obp ((n13<=n11/\n13<=n13/\n13<=n15)/\ap n0 (aa af f0)/\ap n2 (aa ah f2)) (.obt (.ret (V.tup [V.agg [vi (xu (aa ac f13) n0 (aa af f0) n2 (aa ah f2) (aa ac f13) (aa aU f15) n13),vi (xw (aa ac f13) n0 (aa af f0) n2 (aa ah f2) (aa ac f13) (aa aU f15) n13)],vi 0]))))))
theorem X9:cW cX (aV JJ abI u0 agR [V.agg [V.sl n0 (aa af f0),V.sl n2 (aa ah f2),vi x4,V.sl n5 (aa aB f5),V.sl n7 (aa aG f7),V.sl n9 (aa aH f9),V.sl n11 (aa aA f11),V.sl n13 (aa ac f13),V.sl n15 (aa aU f15)]]) (abo n0 f0 n2 f2 x4 n5 f5 n7 f7 n9 f9 n11 f11 n13 f13 n15 f15):=bF
theorem ajr (hp:ap n0 (aa af f0)/\ap n2 (aa ah f2)/\ap n5 (aa aB f5)/\ap n11 (aa aA f11)):aX cL (abo n0 f0 n2 f2 x4 n5 f5 n7 f7 n9 f9 n11 f11 n13 f13 n15 f15) (.tup [.agg [vi (iA (dX n0 (aa af f0) n2 (aa ah f2) x4 n5 (aa aB f5) n7 (aa aG f7) n9 (aa aH f9) n11 (aa aA f11) n13 (aa ac f13) n15 (aa aU f15)) (D1 n0 (aa af f0) n2 (aa ah f2) (aa ac f13) (aa aU f15) n13)),vi (iA (dX n0 (aa af f0) n2 (aa ah f2) x4 n5 (aa aB f5) n7 (aa aG f7) n9 (aa aH f9) n11 (aa aA f11) n13 (aa ac f13) n15 (aa aU f15)) (DZ n0 (aa af f0) n2 (aa ah f2) (aa ac f13) (aa aU f15) n13))],vi (dX n0 (aa af f0) n2 (aa ah f2) x4 n5 (aa aB f5) n7 (aa aG f7) n9 (aa aH f9) n11 (aa aA f11) n13 (aa ac f13) n15 (aa aU f15))]):=by
 refine evObp hp (evObt (evBr (fun h=>evRet (Mv (lC h))) (fun h=>?_)))
 have h0:(dX n0 (aa af f0) n2 (aa ah f2) x4 n5 (aa aB f5) n7 (aa aG f7) n9 (aa aH f9) n11 (aa aA f11) n13 (aa ac f13) n15 (aa aU f15))=0:=gM h
 have G:=vv h0
 have h1:=G.ll
 have h2:=G.lu
 refine evObp ⟨⟨by omega,by omega,by omega⟩,hp.1,hp.2.1⟩ (evObt (evRet ?_))
 rw [h0];rfl
def ab3:av:=bL [.agg [.sl af,.sl ah,tI,.sl aB,.sl aG,.sl aH,.sl aA,.sl ac,.sl aU]] (fun
 |[.agg [.sl n0 f0,.sl n2 f2,.int _ x4,.sl n5 f5,.sl n7 f7,.sl n9 f9,.sl n11 f11,.sl n13 f13,.sl n15 f15]]=>ap n0 f0/\ap n2 f2/\ap n5 f5/\ap n11 f11
 |_=>False) fun
 |[.agg [.sl n0 f0,.sl n2 f2,.int _ x4,.sl n5 f5,.sl n7 f7,.sl n9 f9,.sl n11 f11,.sl n13 f13,.sl n15 f15]]=>.tup [.agg [vi (iA (dX n0 f0 n2 f2 x4 n5 f5 n7 f7 n9 f9 n11 f11 n13 f13 n15 f15) (D1 n0 f0 n2 f2 f13 f15 n13)),vi (iA (dX n0 f0 n2 f2 x4 n5 f5 n7 f7 n9 f9 n11 f11 n13 f13 n15 f15) (DZ n0 f0 n2 f2 f13 f15 n13))],vi (dX n0 f0 n2 f2 x4 n5 f5 n7 f7 n9 f9 n11 f11 n13 f13 n15 f15)]
 |_=>.any
theorem ad4:cr ab3 10:=aY aiV fun _ hp=>c9 (X9 ..) (ajr _ _ _ _ _ _ _ _ _ _ _ _ _ _ _ _ _ hp)
end
end Go.Dx
