/- Part 7 of a proof. No conditions. -/
import Derived.Test.YtibmdlbnkaihjaaGreatDoorLk6
set_option maxRecDepth 100000
set_option linter.unusedVariables false
set_option linter.unusedSimpArgs false
namespace Go.Dx
open Go.IntKind (i64 u64 u8)
open Go.Sx Go.Proofs
noncomputable section
def Qg:aY:=[]
theorem XD:aQ Tryz.prog eqs its Qg:=.nil
def Tb:V:=.sl 2 fun | 0=>[vi (0)] | _=>[vi (100)]
def UQ:V:=.sl 2 fun | 0=>[vi (100)] | _=>[vi (300)]
def TO:V:=.sl 2 fun | 0=>[vi (200)] | _=>[vi (600)]
def Mj:V:=.sl 2 fun | 0=>[vi (700)] | _=>[vi (700)]
def Dn:V:=.str ⟨#[97,115,112,104,97,108,116]⟩
def FK:V:=.sl 2 fun | 0=>[vi (-1000)] | _=>[vi (1000)]
def r4:V:=.sl 2 fun | 0=>[vi (-5000)] | _=>[vi (5000)]
def y4:V:=.sl 2 fun | 0=>[vi (-8000000)] | _=>[vi (8000000)]
def Xl:V:=.sl 1 fun _=>[vi (0),vi (0),vi (1000)]
def tY:V:=.sl 2 fun | 0=>[vi (-40000000)] | _=>[vi (40000000)]
def w7:V:=.sl 3 fun | 0=>[vi (-1000)] | 1=>[vi (0)] | _=>[vi (2000)]
def qR:V:=.sl 3 fun | 0=>[vi (-8000000)] | 1=>[vi (0)] | _=>[vi (16000000)]
def sS:V:=.agg [vi (-4000),vi (-4000),vi (0),vi (0)]
def sL:V:=.agg [vi (-4000),vi (0),vi (-4000),vi (0)]
def sw:V:=.agg [vi (-4000),vi (4000),vi (0),vi (8000)]
def tq:V:=.agg [vi (-4000),vi (0),vi (4000),vi (8000)]
def wI:V:=.agg [.str ⟨#[99]⟩,vi (0),vi (0),vi (80),vi (0),vi (1)]
def FH:V:=.sl 1 fun _=>[.str ⟨#[99]⟩,vi (0),vi (0),vi (80),vi (0),vi (1)]
def wk:V:=.sl 2 fun | 0=>[Mj] | _=>[Mj]
def QZ:V:=.sl 3 fun | 0=>[vi (0),vi (0)] | 1=>[vi (10000),vi (0)] | _=>[vi (10000),vi (10000)]
def w5:V:=.sl 3 fun | 0=>[UQ] | 1=>[TO] | _=>[Tb]
def E8:V:=.sl 1 fun _=>[.str ⟨#[104,105,103,104]⟩,vi (0),QZ,vi (4000)]
def pn:V:=.sl 1 fun _=>[.str ⟨#[104,101,97,100]⟩,vi (0),vi (1),vi (8000),vi (60000),vi (500),vi (50),vi (2),vi (4),vi (3),vi (5),vi (100000),vi (200),vi (0)]
def wW:V:=.agg [E8,.sl 0 fun _=>[],.sl 0 fun _=>[],FH]
def Cm:V:=.pd [Dn,r4,r4,wk,vi (0),vi (0),tY,tY,vi (8000)]
def Fy:V:=.agg [Dn,r4,r4,wk,vi (0),vi (0),tY,tY,vi (8000)]
def nj:V:=.pd [.str ⟨#[119,105,100,101]⟩,w7,FK,w5,vi (50),vi (5),qR,y4,vi (8000)]
def jn:V:=.agg [.str ⟨#[119,105,100,101]⟩,w7,FK,w5,vi (50),vi (5),qR,y4,vi (8000)]
def pU:V:=.sl 2 fun | 0=>[.str ⟨#[119,105,100,101]⟩,w7,FK,w5,vi (50),vi (5)] | _=>[Dn,r4,r4,wk,vi (0),vi (0)]
def lL:V:=.agg [pU,pn,vi (1),E8,.sl 0 fun _=>[],.sl 0 fun _=>[],FH,.sl 1 fun _=>[vi (0)],Xl,vi (0),.str ⟨#[99]⟩,vi (0),vi (0),vi (80),vi (0),vi (1)]
def S7:List Ty:=[.agg [.str,.int .i64,.int .i64,.int .i64,.int .i64,.int .i64,.int .i64,.int .i64,.int .i64,.int .i64,.int .i64,.int .i64,.int .i64,.int .i64],.agg [.int .i64,.int .i64,.int .i64]]
def Um:List Ty:=[.agg [.sl [.str,.sl tp1,.sl tp1,.sl [.sl tp1],.int .i64,.int .i64],.sl [.str,.int .i64,.int .i64,.int .i64,.int .i64,.int .i64,.int .i64,.int .i64,.int .i64,.int .i64,.int .i64,.int .i64,.int .i64,.int .i64],.int .i64,.sl tyR,.sl tp1,.sl tp1,.sl tyC,.sl tp1,.sl [.int .i64,.int .i64,.int .i64],.int .i64,.str,.int .i64,.int .i64,.int .i64,.int .i64,.int .i64]]
def FD:List Ty:=[.agg tp2,.int .i64,.int .i64,.int .i64,.int .i64]
def iH:List Ty:=[.agg tp2,.sl tp2]
def rH:List Ty:=[.sl tp1,.int .i64]
def om:List Ty:=[.int .i64,.pd [.str,.sl tp1,.sl tp1,.sl [.sl tp1],.int .i64,.int .i64,.sl tp1,.sl tp1,.int .i64],.pd tp1,.pd tp1]
def yay:List Ty:=[.agg [.sl tyR,.sl tp1,.sl tp1,.sl tyC],.int .i64,.agg tp4]
def BF:List Ty:=[.agg tyC,.agg tp4]
def FU:List Ty:=[.agg [.sl [.str,.sl tp1,.sl tp1,.sl [.sl tp1],.int .i64,.int .i64],.sl [.str,.int .i64,.int .i64,.int .i64,.int .i64,.int .i64,.int .i64,.int .i64,.int .i64,.int .i64,.int .i64,.int .i64,.int .i64,.int .i64],.int .i64,.sl tyR,.sl tp1,.sl tp1,.sl tyC,.sl tp1,.sl [.int .i64,.int .i64,.int .i64],.int .i64,.str,.int .i64,.int .i64,.int .i64,.int .i64,.int .i64],.agg tp4,.int .i64,.int .i64]
def qC:List Ty:=[.agg [.str,.sl tp1,.sl tp1,.sl [.sl tp1],.int .i64,.int .i64,.sl tp1,.sl tp1,.int .i64],.int .i64,.int .i64]
def tz:List Ty:=[.agg [.str,.sl tp1,.sl tp1,.sl [.sl tp1],.int .i64,.int .i64,.sl tp1,.sl tp1,.int .i64],.agg tp4]
def QQ:List Ty:=[.agg [.sl [.str,.sl tp1,.sl tp1,.sl [.sl tp1],.int .i64,.int .i64],.sl [.str,.int .i64,.int .i64,.int .i64,.int .i64,.int .i64,.int .i64,.int .i64,.int .i64,.int .i64,.int .i64,.int .i64,.int .i64,.int .i64]],.int .i64,.agg tp4,.int .i64]
def xg:List Ty:=[.agg [.sl [.str,.sl tp1,.sl tp1,.sl [.sl tp1],.int .i64,.int .i64],.sl [.str,.int .i64,.int .i64,.int .i64,.int .i64,.int .i64,.int .i64,.int .i64,.int .i64,.int .i64,.int .i64,.int .i64,.int .i64,.int .i64]],.int .i64,.agg [.int .i64,.int .i64,.int .i64],.agg tp4,.int .i64]
def v6:List Ty:=[.agg [.sl [.str,.sl tp1,.sl tp1,.sl [.sl tp1],.int .i64,.int .i64],.sl [.str,.int .i64,.int .i64,.int .i64,.int .i64,.int .i64,.int .i64,.int .i64,.int .i64,.int .i64,.int .i64,.int .i64,.int .i64,.int .i64],.int .i64,.sl tyR,.sl tp1,.sl tp1,.sl tyC,.sl tp1,.sl [.int .i64,.int .i64,.int .i64],.int .i64,.str,.int .i64,.int .i64,.int .i64,.int .i64,.int .i64],.agg tp4,.int .i64]
def ctK:aY:=[(22,.con BX),(59,.con Ej),(60,.con V4),(161,.con C86),(133,.con B9),(226,.con Bl),(165,.con EZ),(91,.con CO),(92,.con Gi),(106,.con Ea),(108,.con Cd),(143,.con DY),(192,.con DX),(225,.con Cw),(89,.conZ xd Du),(81,.inl s44 uB),(206,.inl s45 uB),(235,.inl s53 uB),(152,.inl s99 uB),(250,.inl ybl uB),(309,.inl Yu uB),(221,.inl AJ uB),(15,.inl TG uB),(18,.inl VP uB),(46,.inl Nk uB),(47,.inl M3 uB),(48,.inl Tg uB),(49,.inl Xd uB),(50,.inl UG uB),(53,.inl To uB),(54,.inl VL uB),(55,.inl V8 uB),(56,.inl TM uB),(61,.inl My uB),(71,.inl NV uB),(79,.inl Tv uB),(85,.inl Wy uB),(86,.inl TB uB),(87,.inl Tr uB),(113,.inl Xa uB),(114,.inl K6 uB),(115,.inl ES uB),(123,.inl Wr uB),(153,.inl LO uB),(154,.inl LQ uB),(155,.inl NN uB),(156,.inl Ns uB),(159,.inl Vp uB),(164,.inl Mr uB),(169,.inl WG uB),(170,.inl Wp uB),(190,.inl We uB),(191,.inl Gr uB),(193,.inl Nn uB),(222,.inl LJ uB),(257,.inl Tc uB),(283,.inl Ur uB),(284,.inl WK uB)]
theorem Vz:aQ Tryz.prog eqs its ctK:=.con GU (.con KQ (.con WE (.con JW (.con F8 (.con Eh (.con yaH (.con KU (.con Ht (.con I2 (.con Ix (.con Ik (.con Js (.con HM (.conZ HV (.inl Tryz.func81 (by kernel_rfl) (by kernel_rfl) (by kernel_rfl) (.inl Tryz.func206 (by kernel_rfl) (by kernel_rfl) (by kernel_rfl) (.inl Tryz.func235 (by kernel_rfl) (by kernel_rfl) (by kernel_rfl) (.inl Tryz.func152 (by kernel_rfl) (by kernel_rfl) (by kernel_rfl) (.inl Tryz.func250 (by kernel_rfl) (by kernel_rfl) (by kernel_rfl) (.inl Tryz.func309 (by kernel_rfl) (by kernel_rfl) (by kernel_rfl) (.inl Tryz.func221 (by kernel_rfl) (by kernel_rfl) (by kernel_rfl) (.inl Tryz.func15 (by kernel_rfl) (by kernel_rfl) (by kernel_rfl) (.inl Tryz.func18 (by kernel_rfl) (by kernel_rfl) (by kernel_rfl) (.inl Tryz.func46 (by kernel_rfl) (by kernel_rfl) (by kernel_rfl) (.inl Tryz.func47 (by kernel_rfl) (by kernel_rfl) (by kernel_rfl) (.inl Tryz.func48 (by kernel_rfl) (by kernel_rfl) (by kernel_rfl) (.inl Tryz.func49 (by kernel_rfl) (by kernel_rfl) (by kernel_rfl) (.inl Tryz.func50 (by kernel_rfl) (by kernel_rfl) (by kernel_rfl) (.inl Tryz.func53 (by kernel_rfl) (by kernel_rfl) (by kernel_rfl) (.inl Tryz.func54 (by kernel_rfl) (by kernel_rfl) (by kernel_rfl) (.inl Tryz.func55 (by kernel_rfl) (by kernel_rfl) (by kernel_rfl) (.inl Tryz.func56 (by kernel_rfl) (by kernel_rfl) (by kernel_rfl) (.inl Tryz.func61 (by kernel_rfl) (by kernel_rfl) (by kernel_rfl) (.inl Tryz.func71 (by kernel_rfl) (by kernel_rfl) (by kernel_rfl) (.inl Tryz.func79 (by kernel_rfl) (by kernel_rfl) (by kernel_rfl) (.inl Tryz.func85 (by kernel_rfl) (by kernel_rfl) (by kernel_rfl) (.inl Tryz.func86 (by kernel_rfl) (by kernel_rfl) (by kernel_rfl) (.inl Tryz.func87 (by kernel_rfl) (by kernel_rfl) (by kernel_rfl) (.inl Tryz.func113 (by kernel_rfl) (by kernel_rfl) (by kernel_rfl) (.inl Tryz.func114 (by kernel_rfl) (by kernel_rfl) (by kernel_rfl) (.inl Tryz.func115 (by kernel_rfl) (by kernel_rfl) (by kernel_rfl) (.inl Tryz.func123 (by kernel_rfl) (by kernel_rfl) (by kernel_rfl) (.inl Tryz.func153 (by kernel_rfl) (by kernel_rfl) (by kernel_rfl) (.inl Tryz.func154 (by kernel_rfl) (by kernel_rfl) (by kernel_rfl) (.inl Tryz.func155 (by kernel_rfl) (by kernel_rfl) (by kernel_rfl) (.inl Tryz.func156 (by kernel_rfl) (by kernel_rfl) (by kernel_rfl) (.inl Tryz.func159 (by kernel_rfl) (by kernel_rfl) (by kernel_rfl) (.inl Tryz.func164 (by kernel_rfl) (by kernel_rfl) (by kernel_rfl) (.inl Tryz.func169 (by kernel_rfl) (by kernel_rfl) (by kernel_rfl) (.inl Tryz.func170 (by kernel_rfl) (by kernel_rfl) (by kernel_rfl) (.inl Tryz.func190 (by kernel_rfl) (by kernel_rfl) (by kernel_rfl) (.inl Tryz.func191 (by kernel_rfl) (by kernel_rfl) (by kernel_rfl) (.inl Tryz.func193 (by kernel_rfl) (by kernel_rfl) (by kernel_rfl) (.inl Tryz.func222 (by kernel_rfl) (by kernel_rfl) (by kernel_rfl) (.inl Tryz.func257 (by kernel_rfl) (by kernel_rfl) (by kernel_rfl) (.inl Tryz.func283 (by kernel_rfl) (by kernel_rfl) (by kernel_rfl) (.inl Tryz.func284 (by kernel_rfl) (by kernel_rfl) (by kernel_rfl) (.nil))))))))))))))))))))))))))))))))))))))))))))))))))))))))))
def zh:ap:=atC [(ae S7 [.agg [.str ⟨#[104,101,97,100]⟩,vi (0),vi (1),vi (8000),vi (60000),vi (500),vi (50),vi (2),vi (4),vi (3),vi (5),vi (100000),vi (200),vi (0)],.agg [vi (0),vi (0),vi (1000)]],.agg [vi (8000),vi (8000)])]
theorem KR:(vP zh).Ok Tryz.prog 88:=aG (un:=uB) (sf:=Tx) Vz hE hI Tryz.func88 (by kernel_rfl) (by kernel_rfl) (by kernel_rfl) rfl (by kernel_rfl)
def LN:ap:=zh
theorem Uh:(vP LN).Ok Tryz.prog 88:=KR
def Ad:aY:=(88,.con LN)::ctK
theorem vv:aQ Tryz.prog eqs its Ad:=.con Uh Vz
def yU:ap:=atC [(ae Um [lL],vi (8000))]
theorem JD:(vP yU).Ok Tryz.prog 111:=aG (un:=uB) (sf:=Ui) vv hE hI Tryz.func111 (by kernel_rfl) (by kernel_rfl) (by kernel_rfl) rfl (by kernel_rfl)
def Nm:ap:=yU
theorem Ul:(vP Nm).Ok Tryz.prog 111:=JD
def yy:aY:=(111,.con Nm)::Ad
theorem mq:aQ Tryz.prog eqs its yy:=.con Ul vv
def xH:ap:=atC [(ae FD [.agg [vi (0),vi (1)],vi (-4000),vi (4000),vi (0),vi (8000)],sw)]
theorem Jb:(vP xH).Ok Tryz.prog 125:=aG (un:=uB) (sf:=zQ) mq hE hI Tryz.func125 (by kernel_rfl) (by kernel_rfl) (by kernel_rfl) rfl (by kernel_rfl)
def zK:ap:=atC [(ae FD [.agg [vi (0),vi (1)],vi (0),vi (0),vi (0),vi (0)],.agg [vi (0),vi (0),vi (0),vi (0)])]
theorem KD:(vP zK).Ok Tryz.prog 125:=aG (un:=uB) (sf:=zQ) mq hE hI Tryz.func125 (by kernel_rfl) (by kernel_rfl) (by kernel_rfl) rfl (by kernel_rfl)
def zi:ap:=atC [(ae FD [.agg [vi (0),vi (1)],vi (-4000),vi (-4000),vi (0),vi (0)],sS)]
theorem JS:(vP zi).Ok Tryz.prog 125:=aG (un:=uB) (sf:=zQ) mq hE hI Tryz.func125 (by kernel_rfl) (by kernel_rfl) (by kernel_rfl) rfl (by kernel_rfl)
def N4:ap:=cL xH (cL zK (zi))
theorem WQ:(vP N4).Ok Tryz.prog 125:=aU Jb (aU KD (JS))
def zp:aY:=(125,.con N4)::yy
theorem cQ:aQ Tryz.prog eqs its zp:=.con WQ mq
def yD:ap:=atC [(ae iH [.agg [vi (300),vi (300)],.sl 3 fun | 0=>[vi (450),vi (450)] | 1=>[vi (312),vi (313)] | _=>[vi (475),vi (475)]],.agg [vi (300),vi (475)])]
theorem HS:(vP yD).Ok Tryz.prog 167:=aG (un:=uB) (sf:=iJ) cQ hE hI Tryz.func167 (by kernel_rfl) (by kernel_rfl) (by kernel_rfl) rfl (by kernel_rfl)
def zy:ap:=atC [(ae iH [.agg [vi (300),vi (475)],.sl 1 fun _=>[vi (300),vi (300)]],.agg [vi (300),vi (475)])]
theorem HH:(vP zy).Ok Tryz.prog 167:=aG (un:=uB) (sf:=iJ) cQ hE hI Tryz.func167 (by kernel_rfl) (by kernel_rfl) (by kernel_rfl) rfl (by kernel_rfl)
def yv:ap:=atC [(ae iH [.agg [vi (300),vi (475)],.sl 1 fun _=>[vi (450),vi (450)]],.agg [vi (300),vi (475)])]
theorem HI:(vP yv).Ok Tryz.prog 167:=aG (un:=uB) (sf:=iJ) cQ hE hI Tryz.func167 (by kernel_rfl) (by kernel_rfl) (by kernel_rfl) rfl (by kernel_rfl)
def yd:ap:=atC [(ae iH [.agg [vi (300),vi (475)],.sl 1 fun _=>[vi (312),vi (313)]],.agg [vi (300),vi (475)])]
theorem GV:(vP yd).Ok Tryz.prog 167:=aG (un:=uB) (sf:=iJ) cQ hE hI Tryz.func167 (by kernel_rfl) (by kernel_rfl) (by kernel_rfl) rfl (by kernel_rfl)
def yF:ap:=atC [(ae iH [.agg [vi (300),vi (475)],.sl 1 fun _=>[vi (475),vi (475)]],.agg [vi (300),vi (475)])]
theorem Jc:(vP yF).Ok Tryz.prog 167:=aG (un:=uB) (sf:=iJ) cQ hE hI Tryz.func167 (by kernel_rfl) (by kernel_rfl) (by kernel_rfl) rfl (by kernel_rfl)
def yS:ap:=atC [(ae iH [.agg [vi (300),vi (475)],.sl 1 fun _=>[vi (400),vi (400)]],.agg [vi (300),vi (475)])]
theorem Jq:(vP yS).Ok Tryz.prog 167:=aG (un:=uB) (sf:=iJ) cQ hE hI Tryz.func167 (by kernel_rfl) (by kernel_rfl) (by kernel_rfl) rfl (by kernel_rfl)
def Ac:ap:=atC [(ae iH [.agg [vi (300),vi (475)],.sl 1 fun _=>[vi (600),vi (600)]],.agg [vi (300),vi (600)])]
theorem Kw:(vP Ac).Ok Tryz.prog 167:=aG (un:=uB) (sf:=iJ) cQ hE hI Tryz.func167 (by kernel_rfl) (by kernel_rfl) (by kernel_rfl) rfl (by kernel_rfl)
def zu:ap:=atC [(ae iH [.agg [vi (400),vi (400)],.sl 3 fun | 0=>[vi (400),vi (400)] | 1=>[vi (400),vi (400)] | _=>[vi (400),vi (400)]],.agg [vi (400),vi (400)])]
theorem HU:(vP zu).Ok Tryz.prog 167:=aG (un:=uB) (sf:=iJ) cQ hE hI Tryz.func167 (by kernel_rfl) (by kernel_rfl) (by kernel_rfl) rfl (by kernel_rfl)
def yn:ap:=atC [(ae iH [.agg [vi (400),vi (400)],.sl 1 fun _=>[vi (400),vi (400)]],.agg [vi (400),vi (400)])]
theorem JR:(vP yn).Ok Tryz.prog 167:=aG (un:=uB) (sf:=iJ) cQ hE hI Tryz.func167 (by kernel_rfl) (by kernel_rfl) (by kernel_rfl) rfl (by kernel_rfl)
def xD:ap:=atC [(ae iH [.agg [vi (700),vi (700)],.sl 3 fun | 0=>[vi (700),vi (700)] | 1=>[vi (700),vi (700)] | _=>[vi (700),vi (700)]],.agg [vi (700),vi (700)])]
theorem H2:(vP xD).Ok Tryz.prog 167:=aG (un:=uB) (sf:=iJ) cQ hE hI Tryz.func167 (by kernel_rfl) (by kernel_rfl) (by kernel_rfl) rfl (by kernel_rfl)
def vE:ap:=atC [(ae iH [.agg [vi (700),vi (700)],.sl 1 fun _=>[vi (700),vi (700)]],.agg [vi (700),vi (700)])]
theorem Fj:(vP vE).Ok Tryz.prog 167:=aG (un:=uB) (sf:=iJ) cQ hE hI Tryz.func167 (by kernel_rfl) (by kernel_rfl) (by kernel_rfl) rfl (by kernel_rfl)
def uS:ap:=atC [(ae iH [.agg [vi (300),vi (300)],.sl 3 fun | 0=>[vi (300),vi (300)] | 1=>[vi (300),vi (300)] | _=>[vi (300),vi (300)]],.agg [vi (300),vi (300)])]
theorem D7:(vP uS).Ok Tryz.prog 167:=aG (un:=uB) (sf:=iJ) cQ hE hI Tryz.func167 (by kernel_rfl) (by kernel_rfl) (by kernel_rfl) rfl (by kernel_rfl)
def uN:ap:=atC [(ae iH [.agg [vi (300),vi (300)],.sl 1 fun _=>[vi (300),vi (300)]],.agg [vi (300),vi (300)])]
theorem B8:(vP uN).Ok Tryz.prog 167:=aG (un:=uB) (sf:=iJ) cQ hE hI Tryz.func167 (by kernel_rfl) (by kernel_rfl) (by kernel_rfl) rfl (by kernel_rfl)
def Lq:ap:=cL yD (cL zy (cL yv (cL yd (cL yF (cL yS (cL Ac (cL zu (cL yn (cL xD (cL vE (cL uS (uN))))))))))))
theorem U3:(vP Lq).Ok Tryz.prog 167:=aU HS (aU HH (aU HI (aU GV (aU Jc (aU Jq (aU Kw (aU HU (aU JR (aU H2 (aU Fj (aU D7 (B8))))))))))))
def xT:aY:=(167,.con Lq)::zp
theorem gD:aQ Tryz.prog eqs its xT:=.con U3 cQ
def zB:ap:=atC [(ae rH [qR,vi (-4000000)],vi (0))]
theorem Jp:(vP zB).Ok Tryz.prog 223:=aG (un:=uB) (sf:=rF) gD hE hI Tryz.func223 (by kernel_rfl) (by kernel_rfl) (by kernel_rfl) rfl (by kernel_rfl)
def xX:ap:=atC [(ae rH [y4,vi (0)],vi (0))]
theorem HY:(vP xX).Ok Tryz.prog 223:=aG (un:=uB) (sf:=rF) gD hE hI Tryz.func223 (by kernel_rfl) (by kernel_rfl) (by kernel_rfl) rfl (by kernel_rfl)
def zr:ap:=atC [(ae rH [y4,vi (8000000)],vi (0))]
theorem Kh:(vP zr).Ok Tryz.prog 223:=aG (un:=uB) (sf:=rF) gD hE hI Tryz.func223 (by kernel_rfl) (by kernel_rfl) (by kernel_rfl) rfl (by kernel_rfl)
def xF:ap:=atC [(ae rH [qR,vi (4000000)],vi (1))]
theorem GZ:(vP xF).Ok Tryz.prog 223:=aG (un:=uB) (sf:=rF) gD hE hI Tryz.func223 (by kernel_rfl) (by kernel_rfl) (by kernel_rfl) rfl (by kernel_rfl)
def xJ:ap:=atC [(ae rH [qR,vi (0)],vi (1))]
theorem Ii:(vP xJ).Ok Tryz.prog 223:=aG (un:=uB) (sf:=rF) gD hE hI Tryz.func223 (by kernel_rfl) (by kernel_rfl) (by kernel_rfl) rfl (by kernel_rfl)
def yQ:ap:=atC [(ae rH [tY,vi (0)],vi (0))]
theorem GG:(vP yQ).Ok Tryz.prog 223:=aG (un:=uB) (sf:=rF) gD hE hI Tryz.func223 (by kernel_rfl) (by kernel_rfl) (by kernel_rfl) rfl (by kernel_rfl)
def MN:ap:=cL zB (cL xX (cL zr (cL xF (cL xJ (yQ)))))
theorem Vn:(vP MN).Ok Tryz.prog 223:=aU Jp (aU HY (aU Kh (aU GZ (aU Ii (GG)))))
def zd:aY:=(223,.con MN)::xT
theorem eI:aQ Tryz.prog eqs its zd:=.con Vn gD
def yt:ap:=atC [(ae om [vi (0),nj,.pd [vi (0)],.pd [vi (0)]],.agg [vi (200),vi (200)])]
theorem Kr:(vP yt).Ok Tryz.prog 224:=aG (un:=uB) (sf:=oa) eI hE hI Tryz.func224 (by kernel_rfl) (by kernel_rfl) (by kernel_rfl) rfl (by kernel_rfl)
def zY:ap:=atC [(ae om [vi (1),nj,.pd [vi (0)],.pd [vi (0)]],.agg [vi (400),vi (400)])]
theorem Is:(vP zY).Ok Tryz.prog 224:=aG (un:=uB) (sf:=oa) eI hE hI Tryz.func224 (by kernel_rfl) (by kernel_rfl) (by kernel_rfl) rfl (by kernel_rfl)
def xI:ap:=atC [(ae om [vi (0),nj,.pd [vi (0)],.pd [vi (8000000)]],.agg [vi (300),vi (300)])]
theorem Iw:(vP xI).Ok Tryz.prog 224:=aG (un:=uB) (sf:=oa) eI hE hI Tryz.func224 (by kernel_rfl) (by kernel_rfl) (by kernel_rfl) rfl (by kernel_rfl)
def xx:ap:=atC [(ae om [vi (1),nj,.pd [vi (0)],.pd [vi (8000000)]],.agg [vi (600),vi (600)])]
theorem JV:(vP xx).Ok Tryz.prog 224:=aG (un:=uB) (sf:=oa) eI hE hI Tryz.func224 (by kernel_rfl) (by kernel_rfl) (by kernel_rfl) rfl (by kernel_rfl)
def zX:ap:=atC [(ae om [vi (2),nj,.pd [vi (0)],.pd [vi (0)]],.agg [vi (50),vi (50)])]
theorem Ig:(vP zX).Ok Tryz.prog 224:=aG (un:=uB) (sf:=oa) eI hE hI Tryz.func224 (by kernel_rfl) (by kernel_rfl) (by kernel_rfl) rfl (by kernel_rfl)
def ye:ap:=atC [(ae om [vi (2),nj,.pd [vi (0)],.pd [vi (8000000)]],.agg [vi (100),vi (100)])]
theorem JP:(vP ye).Ok Tryz.prog 224:=aG (un:=uB) (sf:=oa) eI hE hI Tryz.func224 (by kernel_rfl) (by kernel_rfl) (by kernel_rfl) rfl (by kernel_rfl)
def Al:ap:=atC [(ae om [vi (0),Cm,.pd [vi (0)],.pd [vi (0)]],.agg [vi (700),vi (700)])]
theorem IZ:(vP Al).Ok Tryz.prog 224:=aG (un:=uB) (sf:=oa) eI hE hI Tryz.func224 (by kernel_rfl) (by kernel_rfl) (by kernel_rfl) rfl (by kernel_rfl)
def xw:ap:=atC [(ae om [vi (1),Cm,.pd [vi (0)],.pd [vi (0)]],.agg [vi (700),vi (700)])]
theorem Hs:(vP xw).Ok Tryz.prog 224:=aG (un:=uB) (sf:=oa) eI hE hI Tryz.func224 (by kernel_rfl) (by kernel_rfl) (by kernel_rfl) rfl (by kernel_rfl)
def Mo:ap:=cL yt (cL zY (cL xI (cL xx (cL zX (cL ye (cL Al (xw)))))))
theorem Vk:(vP Mo).Ok Tryz.prog 224:=aU Kr (aU Is (aU Iw (aU JV (aU Ig (aU JP (aU IZ (Hs)))))))
def xt:aY:=(224,.con Mo)::zd
theorem my:aQ Tryz.prog eqs its xt:=.con Vk eI
def ME:ap:=atC [(ae yay [wW,vi (0),tq],.tup [vi (0),vi (0)])]
theorem Un:(vP ME).Ok Tryz.prog 188:=aG (un:=uB) (sf:=s17) my hE hI Tryz.func188 (by kernel_rfl) (by kernel_rfl) (by kernel_rfl) rfl (by kernel_rfl)
def yaO:ap:=atC [(ae yay [wW,vi (0),.agg [vi (0),vi (0),vi (0),vi (0)]],.tup [vi (0),vi (0)])]
theorem Vg:(vP yaO).Ok Tryz.prog 188:=aG (un:=uB) (sf:=s17) my hE hI Tryz.func188 (by kernel_rfl) (by kernel_rfl) (by kernel_rfl) rfl (by kernel_rfl)
def NQ:ap:=atC [(ae yay [wW,vi (0),sL],.tup [vi (0),vi (0)])]
theorem VT:(vP NQ).Ok Tryz.prog 188:=aG (un:=uB) (sf:=s17) my hE hI Tryz.func188 (by kernel_rfl) (by kernel_rfl) (by kernel_rfl) rfl (by kernel_rfl)
def K17:ap:=cL ME (cL yaO (NQ))
theorem k17:(vP K17).Ok Tryz.prog 188:=aU Un (aU Vg (VT))
def Mn:aY:=(188,.con K17)::xt
theorem sJ:aQ Tryz.prog eqs its Mn:=.con k17 my
def yW:ap:=atC [(ae BF [wI,tq],sw)]
theorem It:(vP yW).Ok Tryz.prog 68:=aG (un:=uB) (sf:=yX) sJ hE hI Tryz.func68 (by kernel_rfl) (by kernel_rfl) (by kernel_rfl) rfl (by kernel_rfl)
def zx:ap:=atC [(ae BF [wI,.agg [vi (0),vi (0),vi (0),vi (0)]],.agg [vi (0),vi (0),vi (0),vi (0)])]
theorem G8:(vP zx).Ok Tryz.prog 68:=aG (un:=uB) (sf:=yX) sJ hE hI Tryz.func68 (by kernel_rfl) (by kernel_rfl) (by kernel_rfl) rfl (by kernel_rfl)
def yr:ap:=atC [(ae BF [wI,sL],sS)]
theorem Hn:(vP yr).Ok Tryz.prog 68:=aG (un:=uB) (sf:=yX) sJ hE hI Tryz.func68 (by kernel_rfl) (by kernel_rfl) (by kernel_rfl) rfl (by kernel_rfl)
def NR:ap:=cL yW (cL zx (yr))
theorem Td:(vP NR).Ok Tryz.prog 68:=aU It (aU G8 (Hn))
def yo:aY:=(68,.con NR)::Mn
theorem mp:aQ Tryz.prog eqs its yo:=.con Td sJ
def xS:ap:=atC [(ae FU [lL,tq,vi (11),vi (75)],.agg [vi (11),vi (75)])]
theorem H5:(vP xS).Ok Tryz.prog 116:=aG (un:=uB) (sf:=Dz) mp hE hI Tryz.func116 (by kernel_rfl) (by kernel_rfl) (by kernel_rfl) rfl (by kernel_rfl)
def xu:ap:=atC [(ae FU [lL,.agg [vi (0),vi (0),vi (0),vi (0)],vi (3500),vi (3500)],.agg [vi (3500),vi (3500)])]
theorem Ib:(vP xu).Ok Tryz.prog 116:=aG (un:=uB) (sf:=Dz) mp hE hI Tryz.func116 (by kernel_rfl) (by kernel_rfl) (by kernel_rfl) rfl (by kernel_rfl)
def zG:ap:=atC [(ae FU [lL,sL,vi (26),vi (27)],.agg [vi (26),vi (27)])]
theorem GT:(vP zG).Ok Tryz.prog 116:=aG (un:=uB) (sf:=Dz) mp hE hI Tryz.func116 (by kernel_rfl) (by kernel_rfl) (by kernel_rfl) rfl (by kernel_rfl)
def Mi:ap:=cL xS (cL xu (zG))
theorem Ti:(vP Mi).Ok Tryz.prog 116:=aU H5 (aU Ib (GT))
def Ap:aY:=(116,.con Mi)::yo
theorem fq:aQ Tryz.prog eqs its Ap:=.con Ti mp
def yV:ap:=atC [(ae qC [jn,vi (-4000000),vi (0)],.agg [vi (300),vi (300)])]
theorem GJ:(vP yV).Ok Tryz.prog 168:=aG (un:=uB) (sf:=qS) fq hE hI Tryz.func168 (by kernel_rfl) (by kernel_rfl) (by kernel_rfl) rfl (by kernel_rfl)
def An:ap:=atC [(ae qC [jn,vi (-4000000),vi (8000000)],.agg [vi (450),vi (450)])]
theorem GN:(vP An).Ok Tryz.prog 168:=aG (un:=uB) (sf:=qS) fq hE hI Tryz.func168 (by kernel_rfl) (by kernel_rfl) (by kernel_rfl) rfl (by kernel_rfl)
def Ab:ap:=atC [(ae qC [jn,vi (4000000),vi (0)],.agg [vi (312),vi (313)])]
theorem yaM:(vP Ab).Ok Tryz.prog 168:=aG (un:=uB) (sf:=qS) fq hE hI Tryz.func168 (by kernel_rfl) (by kernel_rfl) (by kernel_rfl) rfl (by kernel_rfl)
def yM:ap:=atC [(ae qC [jn,vi (4000000),vi (8000000)],.agg [vi (475),vi (475)])]
theorem Kc:(vP yM).Ok Tryz.prog 168:=aG (un:=uB) (sf:=qS) fq hE hI Tryz.func168 (by kernel_rfl) (by kernel_rfl) (by kernel_rfl) rfl (by kernel_rfl)
def xY:ap:=atC [(ae qC [jn,vi (0),vi (0)],.agg [vi (400),vi (400)])]
theorem Hg:(vP xY).Ok Tryz.prog 168:=aG (un:=uB) (sf:=qS) fq hE hI Tryz.func168 (by kernel_rfl) (by kernel_rfl) (by kernel_rfl) rfl (by kernel_rfl)
def xz:ap:=atC [(ae qC [jn,vi (0),vi (8000000)],.agg [vi (600),vi (600)])]
theorem I9:(vP xz).Ok Tryz.prog 168:=aG (un:=uB) (sf:=qS) fq hE hI Tryz.func168 (by kernel_rfl) (by kernel_rfl) (by kernel_rfl) rfl (by kernel_rfl)
def yi:ap:=atC [(ae qC [Fy,vi (0),vi (0)],.agg [vi (700),vi (700)])]
theorem JG:(vP yi).Ok Tryz.prog 168:=aG (un:=uB) (sf:=qS) fq hE hI Tryz.func168 (by kernel_rfl) (by kernel_rfl) (by kernel_rfl) rfl (by kernel_rfl)
def NZ:ap:=cL yV (cL An (cL Ab (cL yM (cL xY (cL xz (yi))))))
theorem TK:(vP NZ).Ok Tryz.prog 168:=aU GJ (aU GN (aU yaM (aU Kc (aU Hg (aU I9 (JG))))))
def yz:aY:=(168,.con NZ)::Ap
theorem jH:aQ Tryz.prog eqs its yz:=.con TK fq
def yO:ap:=atC [(ae tz [jn,sw],.agg [vi (300),vi (600)])]
theorem IK:(vP yO).Ok Tryz.prog 90:=aG (un:=uB) (sf:=yB) jH hE hI Tryz.func90 (by kernel_rfl) (by kernel_rfl) (by kernel_rfl) rfl (by kernel_rfl)
def Af:ap:=atC [(ae tz [jn,.agg [vi (0),vi (0),vi (0),vi (0)]],.agg [vi (400),vi (400)])]
theorem KM:(vP Af).Ok Tryz.prog 90:=aG (un:=uB) (sf:=yB) jH hE hI Tryz.func90 (by kernel_rfl) (by kernel_rfl) (by kernel_rfl) rfl (by kernel_rfl)
def xK:ap:=atC [(ae tz [Fy,.agg [vi (0),vi (0),vi (0),vi (0)]],.agg [vi (700),vi (700)])]
theorem JB:(vP xK).Ok Tryz.prog 90:=aG (un:=uB) (sf:=yB) jH hE hI Tryz.func90 (by kernel_rfl) (by kernel_rfl) (by kernel_rfl) rfl (by kernel_rfl)
def xB:ap:=atC [(ae tz [jn,sS],.agg [vi (300),vi (300)])]
theorem G7:(vP xB).Ok Tryz.prog 90:=aG (un:=uB) (sf:=yB) jH hE hI Tryz.func90 (by kernel_rfl) (by kernel_rfl) (by kernel_rfl) rfl (by kernel_rfl)
def NJ:ap:=cL yO (cL Af (cL xK (xB)))
theorem U1:(vP NJ).Ok Tryz.prog 90:=aU IK (aU KM (aU JB (G7)))
def xC:aY:=(90,.con NJ)::yz
theorem uQ:aQ Tryz.prog eqs its xC:=.con U1 jH
def zH:ap:=atC [(ae QQ [.agg [pU,pn],vi (1),.agg [vi (0),vi (0),vi (0),vi (0)],vi (8000)],.tup [.agg [vi (700),vi (700)],vi (0)])]
theorem KJ:(vP zH).Ok Tryz.prog 124:=aG (un:=uB) (sf:=Vw) uQ hE hI Tryz.func124 (by kernel_rfl) (by kernel_rfl) (by kernel_rfl) rfl (by kernel_rfl)
def LC:ap:=zH
theorem Xf:(vP LC).Ok Tryz.prog 124:=KJ
def xP:aY:=(124,.con LC)::xC
theorem mG:aQ Tryz.prog eqs its xP:=.con Xf uQ
def yq:ap:=atC [(ae xg [.agg [pU,pn],vi (0),.agg [vi (0),vi (0),vi (1000)],sw,vi (8000)],.tup [.agg [vi (2400),vi (4800)],vi (0)])]
theorem Kn:(vP yq).Ok Tryz.prog 33:=aG (un:=uB) (sf:=Ep) mG hE hI Tryz.func33 (by kernel_rfl) (by kernel_rfl) (by kernel_rfl) rfl (by kernel_rfl)
def xW:ap:=atC [(ae xg [.agg [pU,pn],vi (0),.agg [vi (0),vi (0),vi (1000)],.agg [vi (0),vi (0),vi (0),vi (0)],vi (8000)],.tup [.agg [vi (3200),vi (3200)],vi (0)])]
theorem G4:(vP xW).Ok Tryz.prog 33:=aG (un:=uB) (sf:=Ep) mG hE hI Tryz.func33 (by kernel_rfl) (by kernel_rfl) (by kernel_rfl) rfl (by kernel_rfl)
def xR:ap:=atC [(ae xg [.agg [pU,pn],vi (0),.agg [vi (0),vi (0),vi (1000)],sS,vi (8000)],.tup [.agg [vi (2400),vi (2400)],vi (0)])]
theorem IV:(vP xR).Ok Tryz.prog 33:=aG (un:=uB) (sf:=Ep) mG hE hI Tryz.func33 (by kernel_rfl) (by kernel_rfl) (by kernel_rfl) rfl (by kernel_rfl)
def NG:ap:=cL yq (cL xW (xR))
theorem UU:(vP NG).Ok Tryz.prog 33:=aU Kn (aU G4 (IV))
def zm:aY:=(33,.con NG)::xP
theorem mS:aQ Tryz.prog eqs its zm:=.con UU mG
def xM:ap:=atC [(ae v6 [lL,tq,vi (8000)],.agg [vi (2400),vi (4800)])]
theorem HQ:(vP xM).Ok Tryz.prog 112:=aG (un:=uB) (sf:=Db) mS hE hI Tryz.func112 (by kernel_rfl) (by kernel_rfl) (by kernel_rfl) rfl (by kernel_rfl)
def yw:ap:=atC [(ae v6 [lL,.agg [vi (0),vi (0),vi (0),vi (0)],vi (8000)],.agg [vi (3200),vi (3200)])]
theorem Gz:(vP yw).Ok Tryz.prog 112:=aG (un:=uB) (sf:=Db) mS hE hI Tryz.func112 (by kernel_rfl) (by kernel_rfl) (by kernel_rfl) rfl (by kernel_rfl)
def zE:ap:=atC [(ae v6 [lL,sL,vi (8000)],.agg [vi (2400),vi (2400)])]
theorem G1:(vP zE).Ok Tryz.prog 112:=aG (un:=uB) (sf:=Db) mS hE hI Tryz.func112 (by kernel_rfl) (by kernel_rfl) (by kernel_rfl) rfl (by kernel_rfl)
def Nl:ap:=cL xM (cL yw (zE))
theorem U8:(vP Nl).Ok Tryz.prog 112:=aU HQ (aU Gz (G1))
def Hf:aY:=(112,.con Nl)::zm
theorem Da:aQ Tryz.prog eqs its Hf:=.con U8 mS
def NT:ap:=mkC [] (fun _=>True) fun _=>.bool true
theorem Pw:(vP NT).Ok Tryz.prog 17:=wR (J:=JJ) (un:=uB) (sf:=Wg) Da hE hI Tryz.func17 (by kernel_rfl) (by kernel_rfl) (by kernel_rfl) rfl (fun w0 ds hp=>vX (by kernel_rfl))
end
noncomputable section
def K9:aY:=(17,.con NT)::lN
theorem SE:aQ Tryz.prog eqs its K9:=.con Pw (kt)
def BS (n0:Nat) (f0:FnV) (n2:Nat) (f2:FnV) (x4:Int) (n5:Nat) (f5:FnV) (n7:Nat) (f7:FnV) (n9:Nat) (f9:FnV) (n11:Nat) (f11:FnV) (n13:Nat) (f13:FnV) (n15:Nat) (f15:FnV) (x17 x18 x19 x20 x21:Int):RT Empty:=.obp ((∀ (i:Nat),i < n0->(sv (hdV (f0 i))).size<=(9223372036854775807:Nat))/\(∀ (i:Nat),i < n2->(sv (hdV (f2 i))).size<=(9223372036854775807:Nat))/\(∀ (i:Nat),i < n5->(sv (hdV (f5 i))).size<=(9223372036854775807:Nat))/\∀ (i:Nat),i < n11->(sv (hdV (f11 i))).size<=(9223372036854775807:Nat)) (.obt (.obp ((∀ (i:Nat),i < n0->(sv (hdV (f0 i))).size<=(9223372036854775807:Nat))/\(∀ (i:Nat),i < n2->(sv (hdV (f2 i))).size<=(9223372036854775807:Nat))/\(∀ (i:Nat),i < n5->(sv (hdV (f5 i))).size<=(9223372036854775807:Nat))/\∀ (i:Nat),i < n11->(sv (hdV (f11 i))).size<=(9223372036854775807:Nat)) (.obt (.obi (.obi (.obi (.obi (.obi (.obi (.br (bif bif eW n0 (elV aS f0) n2 (elV aT f2) x4 n5 (elV tyR f5) n7 (elV tyT f7) n9 (elV tyF f9) n11 (elV tyC f11) n13 (elV tp1 f13) n15 (elV tyU f15) != eW n0 (elV aS f0) n2 (elV aT f2) x4 n5 (elV tyR f5) n7 (elV tyT f7) n9 (elV tyF f9) n11 (elV tyC f11) n13 (elV tp1 f13) n15 (elV tyU f15) then true else eY n0 (elV aS f0) n2 (elV aT f2) x4 n5 (elV tyR f5) n7 (elV tyT f7) n9 (elV tyF f9) n11 (elV tyC f11) n13 (elV tp1 f13) n15 (elV tyU f15) != eY n0 (elV aS f0) n2 (elV aT f2) x4 n5 (elV tyR f5) n7 (elV tyT f7) n9 (elV tyF f9) n11 (elV tyC f11) n13 (elV tp1 f13) n15 (elV tyU f15) then true else dm n0 (elV aS f0) n2 (elV aT f2) x4 n5 (elV tyR f5) n7 (elV tyT f7) n9 (elV tyF f9) n11 (elV tyC f11) n13 (elV tp1 f13) n15 (elV tyU f15) != dm n0 (elV aS f0) n2 (elV aT f2) x4 n5 (elV tyR f5) n7 (elV tyT f7) n9 (elV tyF f9) n11 (elV tyC f11) n13 (elV tp1 f13) n15 (elV tyU f15)) (.ret (V.kb false)) (.obp ((∀ (i:Nat),i < n0->(sv (hdV (f0 i))).size<=(9223372036854775807:Nat))/\(∀ (i:Nat),i < n2->(sv (hdV (f2 i))).size<=(9223372036854775807:Nat))/\(∀ (i:Nat),i < n5->(sv (hdV (f5 i))).size<=(9223372036854775807:Nat))/\∀ (i:Nat),i < n11->(sv (hdV (f11 i))).size<=(9223372036854775807:Nat)) (.obt (.obp ((∀ (i:Nat),i < n0->(sv (hdV (f0 i))).size<=(9223372036854775807:Nat))/\(∀ (i:Nat),i < n2->(sv (hdV (f2 i))).size<=(9223372036854775807:Nat))/\(∀ (i:Nat),i < n5->(sv (hdV (f5 i))).size<=(9223372036854775807:Nat))/\∀ (i:Nat),i < n11->(sv (hdV (f11 i))).size<=(9223372036854775807:Nat)) (.obt (.obi (.obi (.obi (.br (bif fmV (fmE (ckE n0 (elV aS f0) n2 (elV aT f2) x4 n5 (elV tyR f5) n7 (elV tyT f7) n9 (elV tyF f9) n11 (elV tyC f11) n13 (elV tp1 f13) n15 (elV tyU f15)) n11 x17 x18 x19 x20 x21) (bD (jv1 (f11 x17.toNat)) (jv2 (f11 x17.toNat)) (jv4 (f11 x17.toNat)) (jv5 (f11 x17.toNat)) x18 x19 x20 x21) == fmV (fmE (ckE n0 (elV aS f0) n2 (elV aT f2) x4 n5 (elV tyR f5) n7 (elV tyT f7) n9 (elV tyF f9) n11 (elV tyC f11) n13 (elV tp1 f13) n15 (elV tyU f15)) n11 x17 x18 x19 x20 x21) (bD (jv1 (f11 x17.toNat)) (jv2 (f11 x17.toNat)) (jv4 (f11 x17.toNat)) (jv5 (f11 x17.toNat)) x18 x19 x20 x21) && (fmV (fmE (ckE n0 (elV aS f0) n2 (elV aT f2) x4 n5 (elV tyR f5) n7 (elV tyT f7) n9 (elV tyF f9) n11 (elV tyC f11) n13 (elV tp1 f13) n15 (elV tyU f15)) n11 x17 x18 x19 x20 x21) (bE (jv1 (f11 x17.toNat)) (jv2 (f11 x17.toNat)) (jv4 (f11 x17.toNat)) (jv5 (f11 x17.toNat)) x18 x19 x20 x21) == fmV (fmE (ckE n0 (elV aS f0) n2 (elV aT f2) x4 n5 (elV tyR f5) n7 (elV tyT f7) n9 (elV tyF f9) n11 (elV tyC f11) n13 (elV tp1 f13) n15 (elV tyU f15)) n11 x17 x18 x19 x20 x21) (bE (jv1 (f11 x17.toNat)) (jv2 (f11 x17.toNat)) (jv4 (f11 x17.toNat)) (jv5 (f11 x17.toNat)) x18 x19 x20 x21) && (fmV (fmE (ckE n0 (elV aS f0) n2 (elV aT f2) x4 n5 (elV tyR f5) n7 (elV tyT f7) n9 (elV tyF f9) n11 (elV tyC f11) n13 (elV tp1 f13) n15 (elV tyU f15)) n11 x17 x18 x19 x20 x21) (bF (jv1 (f11 x17.toNat)) (jv2 (f11 x17.toNat)) (jv4 (f11 x17.toNat)) (jv5 (f11 x17.toNat)) x18 x19 x20 x21) == fmV (fmE (ckE n0 (elV aS f0) n2 (elV aT f2) x4 n5 (elV tyR f5) n7 (elV tyT f7) n9 (elV tyF f9) n11 (elV tyC f11) n13 (elV tp1 f13) n15 (elV tyU f15)) n11 x17 x18 x19 x20 x21) (bF (jv1 (f11 x17.toNat)) (jv2 (f11 x17.toNat)) (jv4 (f11 x17.toNat)) (jv5 (f11 x17.toNat)) x18 x19 x20 x21) && (fmV (fmE (ckE n0 (elV aS f0) n2 (elV aT f2) x4 n5 (elV tyR f5) n7 (elV tyT f7) n9 (elV tyF f9) n11 (elV tyC f11) n13 (elV tp1 f13) n15 (elV tyU f15)) n11 x17 x18 x19 x20 x21) (bG (jv1 (f11 x17.toNat)) (jv2 (f11 x17.toNat)) (jv4 (f11 x17.toNat)) (jv5 (f11 x17.toNat)) x18 x19 x20 x21) == fmV (fmE (ckE n0 (elV aS f0) n2 (elV aT f2) x4 n5 (elV tyR f5) n7 (elV tyT f7) n9 (elV tyF f9) n11 (elV tyC f11) n13 (elV tp1 f13) n15 (elV tyU f15)) n11 x17 x18 x19 x20 x21) (bG (jv1 (f11 x17.toNat)) (jv2 (f11 x17.toNat)) (jv4 (f11 x17.toNat)) (jv5 (f11 x17.toNat)) x18 x19 x20 x21) && true))) then fmE (ckE n0 (elV aS f0) n2 (elV aT f2) x4 n5 (elV tyR f5) n7 (elV tyT f7) n9 (elV tyF f9) n11 (elV tyC f11) n13 (elV tp1 f13) n15 (elV tyU f15)) n11 x17 x18 x19 x20 x21 == fmE (ckE n0 (elV aS f0) n2 (elV aT f2) x4 n5 (elV tyR f5) n7 (elV tyT f7) n9 (elV tyF f9) n11 (elV tyC f11) n13 (elV tp1 f13) n15 (elV tyU f15)) n11 x17 x18 x19 x20 x21 else false) (.obc (.obt (.ret (V.bool true)))) (.ret (V.kb false))))))))))))))))))))
theorem GC (n0:Nat) (f0:FnV) (n2:Nat) (f2:FnV) (x4:Int) (n5:Nat) (f5:FnV) (n7:Nat) (f7:FnV) (n9:Nat) (f9:FnV) (n11:Nat) (f11:FnV) (n13:Nat) (f13:FnV) (n15:Nat) (f15:FnV) (x17 x18 x19 x20 x21:Int):Fit noD (aN JJ K9 u0 Wz [V.agg [V.sl n0 (elV aS f0),V.sl n2 (elV aT f2),vi x4,V.sl n5 (elV tyR f5),V.sl n7 (elV tyT f7),V.sl n9 (elV tyF f9),V.sl n11 (elV tyC f11),V.sl n13 (elV tp1 f13),V.sl n15 (elV tyU f15)],vi x17,V.agg [vi x18,vi x19,vi x20,vi x21]]) (BS n0 f0 n2 f2 x4 n5 f5 n7 f7 n9 f9 n11 f11 n13 f13 n15 f15 x17 x18 x19 x20 x21):=⟨by kernel_rfl,by kernel_rfl⟩
def kD (n0:Nat) (f0:FnV) (n2:Nat) (f2:FnV) (x4:Int) (n5:Nat) (f5:FnV) (n7:Nat) (f7:FnV) (n9:Nat) (f9:FnV) (n11:Nat) (f11:FnV) (n13:Nat) (f13:FnV) (n15:Nat) (f15:FnV) (x17 x18 x19 x20 x21:Int):Bool:=bif bif bif eW n0 (elV aS f0) n2 (elV aT f2) x4 n5 (elV tyR f5) n7 (elV tyT f7) n9 (elV tyF f9) n11 (elV tyC f11) n13 (elV tp1 f13) n15 (elV tyU f15) != eW n0 (elV aS f0) n2 (elV aT f2) x4 n5 (elV tyR f5) n7 (elV tyT f7) n9 (elV tyF f9) n11 (elV tyC f11) n13 (elV tp1 f13) n15 (elV tyU f15) then true else eY n0 (elV aS f0) n2 (elV aT f2) x4 n5 (elV tyR f5) n7 (elV tyT f7) n9 (elV tyF f9) n11 (elV tyC f11) n13 (elV tp1 f13) n15 (elV tyU f15) != eY n0 (elV aS f0) n2 (elV aT f2) x4 n5 (elV tyR f5) n7 (elV tyT f7) n9 (elV tyF f9) n11 (elV tyC f11) n13 (elV tp1 f13) n15 (elV tyU f15) then true else dm n0 (elV aS f0) n2 (elV aT f2) x4 n5 (elV tyR f5) n7 (elV tyT f7) n9 (elV tyF f9) n11 (elV tyC f11) n13 (elV tp1 f13) n15 (elV tyU f15) != dm n0 (elV aS f0) n2 (elV aT f2) x4 n5 (elV tyR f5) n7 (elV tyT f7) n9 (elV tyF f9) n11 (elV tyC f11) n13 (elV tp1 f13) n15 (elV tyU f15) then false else bif bif fmV (fmE (ckE n0 (elV aS f0) n2 (elV aT f2) x4 n5 (elV tyR f5) n7 (elV tyT f7) n9 (elV tyF f9) n11 (elV tyC f11) n13 (elV tp1 f13) n15 (elV tyU f15)) n11 x17 x18 x19 x20 x21) (bD (jv1 (f11 x17.toNat)) (jv2 (f11 x17.toNat)) (jv4 (f11 x17.toNat)) (jv5 (f11 x17.toNat)) x18 x19 x20 x21) == fmV (fmE (ckE n0 (elV aS f0) n2 (elV aT f2) x4 n5 (elV tyR f5) n7 (elV tyT f7) n9 (elV tyF f9) n11 (elV tyC f11) n13 (elV tp1 f13) n15 (elV tyU f15)) n11 x17 x18 x19 x20 x21) (bD (jv1 (f11 x17.toNat)) (jv2 (f11 x17.toNat)) (jv4 (f11 x17.toNat)) (jv5 (f11 x17.toNat)) x18 x19 x20 x21) && (fmV (fmE (ckE n0 (elV aS f0) n2 (elV aT f2) x4 n5 (elV tyR f5) n7 (elV tyT f7) n9 (elV tyF f9) n11 (elV tyC f11) n13 (elV tp1 f13) n15 (elV tyU f15)) n11 x17 x18 x19 x20 x21) (bE (jv1 (f11 x17.toNat)) (jv2 (f11 x17.toNat)) (jv4 (f11 x17.toNat)) (jv5 (f11 x17.toNat)) x18 x19 x20 x21) == fmV (fmE (ckE n0 (elV aS f0) n2 (elV aT f2) x4 n5 (elV tyR f5) n7 (elV tyT f7) n9 (elV tyF f9) n11 (elV tyC f11) n13 (elV tp1 f13) n15 (elV tyU f15)) n11 x17 x18 x19 x20 x21) (bE (jv1 (f11 x17.toNat)) (jv2 (f11 x17.toNat)) (jv4 (f11 x17.toNat)) (jv5 (f11 x17.toNat)) x18 x19 x20 x21) && (fmV (fmE (ckE n0 (elV aS f0) n2 (elV aT f2) x4 n5 (elV tyR f5) n7 (elV tyT f7) n9 (elV tyF f9) n11 (elV tyC f11) n13 (elV tp1 f13) n15 (elV tyU f15)) n11 x17 x18 x19 x20 x21) (bF (jv1 (f11 x17.toNat)) (jv2 (f11 x17.toNat)) (jv4 (f11 x17.toNat)) (jv5 (f11 x17.toNat)) x18 x19 x20 x21) == fmV (fmE (ckE n0 (elV aS f0) n2 (elV aT f2) x4 n5 (elV tyR f5) n7 (elV tyT f7) n9 (elV tyF f9) n11 (elV tyC f11) n13 (elV tp1 f13) n15 (elV tyU f15)) n11 x17 x18 x19 x20 x21) (bF (jv1 (f11 x17.toNat)) (jv2 (f11 x17.toNat)) (jv4 (f11 x17.toNat)) (jv5 (f11 x17.toNat)) x18 x19 x20 x21) && (fmV (fmE (ckE n0 (elV aS f0) n2 (elV aT f2) x4 n5 (elV tyR f5) n7 (elV tyT f7) n9 (elV tyF f9) n11 (elV tyC f11) n13 (elV tp1 f13) n15 (elV tyU f15)) n11 x17 x18 x19 x20 x21) (bG (jv1 (f11 x17.toNat)) (jv2 (f11 x17.toNat)) (jv4 (f11 x17.toNat)) (jv5 (f11 x17.toNat)) x18 x19 x20 x21) == fmV (fmE (ckE n0 (elV aS f0) n2 (elV aT f2) x4 n5 (elV tyR f5) n7 (elV tyT f7) n9 (elV tyF f9) n11 (elV tyC f11) n13 (elV tp1 f13) n15 (elV tyU f15)) n11 x17 x18 x19 x20 x21) (bG (jv1 (f11 x17.toNat)) (jv2 (f11 x17.toNat)) (jv4 (f11 x17.toNat)) (jv5 (f11 x17.toNat)) x18 x19 x20 x21) && true))) then fmE (ckE n0 (elV aS f0) n2 (elV aT f2) x4 n5 (elV tyR f5) n7 (elV tyT f7) n9 (elV tyF f9) n11 (elV tyC f11) n13 (elV tp1 f13) n15 (elV tyU f15)) n11 x17 x18 x19 x20 x21 == fmE (ckE n0 (elV aS f0) n2 (elV aT f2) x4 n5 (elV tyR f5) n7 (elV tyT f7) n9 (elV tyF f9) n11 (elV tyC f11) n13 (elV tp1 f13) n15 (elV tyU f15)) n11 x17 x18 x19 x20 x21 else false then true else false
def uV (n0:Nat) (f0:FnV) (n2:Nat) (f2:FnV) (x4:Int) (n5:Nat) (f5:FnV) (n7:Nat) (f7:FnV) (n9:Nat) (f9:FnV) (n11:Nat) (f11:FnV) (n13:Nat) (f13:FnV) (n15:Nat) (f15:FnV) (x17 x18 x19 x20 x21:Int):V:=.bool (kD n0 f0 n2 f2 x4 n5 f5 n7 f7 n9 f9 n11 f11 n13 f13 n15 f15 x17 x18 x19 x20 x21)
theorem O7 (n0:Nat) (f0:FnV) (n2:Nat) (f2:FnV) (x4:Int) (n5:Nat) (f5:FnV) (n7:Nat) (f7:FnV) (n9:Nat) (f9:FnV) (n11:Nat) (f11:FnV) (n13:Nat) (f13:FnV) (n15:Nat) (f15:FnV) (x17 x18 x19 x20 x21:Int) (hp:aI n0 f0/\aI n2 f2/\aI n5 f5/\aI n11 f11):evR noE (BS n0 f0 n2 f2 x4 n5 f5 n7 f7 n9 f9 n11 f11 n13 f13 n15 f15 x17 x18 x19 x20 x21) (uV n0 f0 n2 f2 x4 n5 f5 n7 f7 n9 f9 n11 f11 n13 f13 n15 f15 x17 x18 x19 x20 x21):=aO (by first | assumption | (exact hp)) (ac (aO (by first | assumption | (exact hp)) (ac (ak (ak (ak (ak (ak (ak (aw (fun h0=>ah (by unfold uV kD; try rw [h0]; rfl)) (fun h0=>aO (by first | assumption | (exact hp)) (ac (aO (by first | assumption | (exact hp)) (ac (ak (ak (ak (aw (fun h1=>ao (ac (ah (by unfold uV kD; try rw [h0]; try rw [h1]; rfl)))) (fun h1=>ah (by unfold uV kD; try rw [h0]; try rw [h1]; rfl))))))))))))))))))))
theorem Jd (n0:Nat) (f0:FnV) (n2:Nat) (f2:FnV) (x4:Int) (n5:Nat) (f5:FnV) (n7:Nat) (f7:FnV) (n9:Nat) (f9:FnV) (n11:Nat) (f11:FnV) (n13:Nat) (f13:FnV) (n15:Nat) (f15:FnV) (x17 x18 x19 x20 x21:Int):kD n0 f0 n2 f2 x4 n5 f5 n7 f7 n9 f9 n11 f11 n13 f13 n15 f15 x17 x18 x19 x20 x21=true:=by
 unfold kD
 simp only [BEq.rfl,bne_self_eq_false,cond_true,cond_false,Bool.and_self,Bool.not_true,Bool.and_true]
theorem Hw (n0:Nat) (f0:FnV) (n2:Nat) (f2:FnV) (x4:Int) (n5:Nat) (f5:FnV) (n7:Nat) (f7:FnV) (n9:Nat) (f9:FnV) (n11:Nat) (f11:FnV) (n13:Nat) (f13:FnV) (n15:Nat) (f15:FnV) (x17 x18 x19 x20 x21:Int) (hp:aI n0 f0/\aI n2 f2/\aI n5 f5/\aI n11 f11):evR noE (BS n0 f0 n2 f2 x4 n5 f5 n7 f7 n9 f9 n11 f11 n13 f13 n15 f15 x17 x18 x19 x20 x21) (.bool true):=by
 have h:=O7 n0 f0 n2 f2 x4 n5 f5 n7 f7 n9 f9 n11 f11 n13 f13 n15 f15 x17 x18 x19 x20 x21 hp
 unfold uV at h
 rw [Jd n0 f0 n2 f2 x4 n5 f5 n7 f7 n9 f9 n11 f11 n13 f13 n15 f15 x17 x18 x19 x20 x21] at h
 exact h
def tys1006:List Ty:=[.agg [.sl [.str,.sl tp1,.sl tp1,.sl [.sl tp1],.int .i64,.int .i64],.sl [.str,.int .i64,.int .i64,.int .i64,.int .i64,.int .i64,.int .i64,.int .i64,.int .i64,.int .i64,.int .i64,.int .i64,.int .i64,.int .i64],.int .i64,.sl tyR,.sl tyT,.sl tyF,.sl tyC,.sl tp1,.sl [.int .i64,.int .i64,.int .i64]],.int .i64,.agg tp4]
theorem ok1006:(vP (lawC tys1006)).Ok Tryz.prog 6:=mkE SE Tryz.func6 (by kernel_rfl) fun ds hp=>rf0 (GC ..) (Hw _ _ _ _ _ _ _ _ _ _ _ _ _ _ _ _ _ _ _ _ _ _ (by have h:eD [.agg [.sl [.str,.sl tp1,.sl tp1,.sl [.sl tp1],.int .i64,.int .i64],.sl [.str,.int .i64,.int .i64,.int .i64,.int .i64,.int .i64,.int .i64,.int .i64,.int .i64,.int .i64,.int .i64,.int .i64,.int .i64,.int .i64],.int .i64,.sl tyR,.sl tyT,.sl tyF,.sl tyC,.sl tp1,.sl [.int .i64,.int .i64,.int .i64]],.int .i64,.agg tp4] _:=hp; exact ⟨fun i hi=>(h.1.1 i hi).1,fun i hi=>(h.1.2.1 i hi).1,fun i hi=>(h.1.2.2.2.1 i hi).1,fun i hi=>(h.1.2.2.2.2.2.2.1 i hi).1⟩))
end
end Go.Dx
