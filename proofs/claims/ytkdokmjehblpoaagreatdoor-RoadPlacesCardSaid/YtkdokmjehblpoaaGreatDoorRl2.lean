/- Part 2 of a proof. No conditions. -/
import Derived.Test.YtkdokmjehblpoaaGreatDoorRl1
import Derived.Laws.Append
set_option maxRecDepth 100000
set_option linter.unusedVariables false
set_option linter.unusedSimpArgs false
namespace Go.Dx
open Go.Sx
inductive V where
 | int (k:IntKind) (n:Int)
 | bool (b:Bool)
 | kb (b:Bool)
 | str (s:ByteArray)
 | agg (cs:List V)
 | tup (vs:List V)
 | fn (f:FuncId) (xs ys:List V)
 | sl (n:Nat) (f:Nat->List V)
 | pd (cs:List V)
 | pl (k off:Nat)
 | pe (k i j:Nat)
 | ss (k off n c:Nat)
 | gs (k n:Nat)
 | ns
 | np
 | any
 | gd (b:Bool) (v:V)
 | yl (l:Nat)
 | go (k off n:Nat)
 | sq (n m:Nat) (f:Nat->List V)
inductive O where
 | cells (cs:List V) (ty:TypeId)
 | gl (esz n:Nat) (f:Nat->List V) (ty:TypeId)
 | dead
 | hid
abbrev Env:=List (Nat × V)
abbrev FnV:=Nat->List V
structure RD where
 ps:List Nat
 asg:dt
 body:dt
 e0:Env
 l:Nat
inductive wv where
 | s (c:dt)
 | i (c:eI) (rd:RD)
inductive T (α:Type) where
 | ret (a:α)
 | br (b:Bool) (x y:T α)
 | ob (b:Bool) (x:T α)
 | obi (c d:Bool) (x:T α)
 | obp (p:Prop) (x:T α)
 | obq (a b:List V) (x:T α)
 | fail (why:Nat)
 | loop (fr:Nat × Nat) (body:wv) (e:Env) (h:List O) (g:Option Ex) (k:Ex->Env->List O->Option Ex->T α)
 | all (f:Nat->T α)
 | und (x y:T α)
 | asm (p:Prop) (x:T α)
def cH:Env->Nat->V
 | [],_=>.any
 | (d,v)::e,i=>cond (Nat.beq i d) v (cH e i)
def nth {α:Type}:List α->Nat->Option α
 | [],_=>none
 | a::_,0=>some a
 | _::l,i+1=>nth l i
def uG {α:Type}:List α->Nat->α->List α
 | [],_,_=>[]
 | _::l,0,b=>b::l
 | a::l,i+1,b=>a::uG l i b
def wB {α:Type}:List α->α->List α
 | [],b=>[b]
 | a::l,b=>a::wB l b
def rj {α:Type}:List α->List α->List α
 | [],b=>b
 | a::l,b=>a::rj l b
def aY {α:Type}:List α->Nat
 | []=>0
 | _::l=>aY l+1
def lY {α:Type}:Nat->List α->Option (List α)
 | 0,l=>some l
 | _+1,[]=>none
 | n+1,_::l=>lY n l
def qx {α:Type}:Nat->List α->Option (List α)
 | 0,_=>some []
 | _+1,[]=>none
 | n+1,a::l=>match qx n l with
   | some r=>some (a::r)
   | none=>none
def yw {α:Type} (l:List α) (off n:Nat):Option (List α) :=
 match lY off l with
 | some r=>qx n r
 | none=>none
def wrV {α:Type}:List α->Nat->List α->Option (List α)
 | cs,0,[]=>some cs
 | [],0,_::_=>none
 | _::cs,0,x::xs=>match wrV cs 0 xs with
   | some r=>some (x::r)
   | none=>none
 | [],_+1,_=>none
 | c::cs,off+1,xs=>match wrV cs off xs with
   | some r=>some (c::r)
   | none=>none
def ofA:ab->V
 | .int k n=>.int k n
 | .bool b=>.kb b
 | .str s=>.str s
 | .ptr none=>.np
 | .slice none 0 0=>.ns
 | .fn (.func f) [] []=>.fn f [] []
 | _=>.any
def bW (e:Env):Arg->V
 | .t i=>cH e i
 | .k a=>ofA a
def V.one:V->Bool
 | .agg _ | .tup _ | .any | .gd .. | .yl _=>false
 | _=>true
def V.fc:V->Bool
 | .agg _ | .tup _ | .fn .. | .gd .. | .yl _=>false
 | _=>true
def V.cells:V->List V
 | .agg cs=>cs
 | v=>[v]
def V.flat:V->Bool
 | .agg cs=>cs.all V.one
 | v=>v.one
section
variable {α:Type}
def rdk (ctx:Bool) (v:V) (K:V->T α):T α :=
 match v with
 | .gd b v=>.obi ctx b (K v)
 | v=>K v
def pT (ctx:Bool) (e:Env):List Arg->(List V->T α)->T α
 | [],K=>K []
 | x::xs,K=>rdk ctx (bW e x) fun v=>pT ctx e xs fun vs=>K (v::vs)
def pj (ctx:Bool) (e:Env):Option Arg->(Option V->T α)->T α
 | none,K=>K none
 | some x,K=>rdk ctx (bW e x) fun v=>K (some v)
def obg (ctx:Bool) (p:Prop) [Decidable p] (x:T α):T α:=.obi ctx (decide p) x
def dH (pl:Option Nat) (h:List O) (o:O) (K:Nat->List O->T α):T α :=
 match pl with
 | none=>K (aY h) (wB h o)
 | some p=>match nth h p with
   | some .dead=>K p (uG h p o)
   | _=>.fail 1
def kX (ctx:Bool) (e:Env):List (Nat × Nat × Arg)->List V->(List V->T α)->T α
 | [],z,K=>K z
 | (off,n,x)::ps,z,K=>rdk ctx (bW e x) fun v =>
   cond (v.flat && Nat.beq (aY v.cells) n) (match wrV z off v.cells with
    | some z=>kX ctx e ps z K
    | none=>.fail 2) (.fail 3)
def Du (ctx:Bool) (op:BinOp) (k:IntKind) (a b:Int) (K:V->T α):T α :=
 match op with
 | .add=>K (.int k (k.wrap (a+b)))
 | .sub=>K (.int k (k.wrap (a - b)))
 | .mul=>K (.int k (k.wrap (a * b)))
 | .quo=>obg ctx (b ≠ 0) (K (.int k (k.wrap (a.tdiv b))))
 | .rem=>obg ctx (b ≠ 0) (K (.int k (a.tmod b)))
 | .eql=>K (.bool (a == b))
 | .neq=>K (.bool (a != b))
 | .lss=>K (.bool (decide (a < b)))
 | .leq=>K (.bool (decide (a<=b)))
 | .gtr=>K (.bool (decide (b < a)))
 | .geq=>K (.bool (decide (b<=a)))
 | .and=>K (.int k (bits .and k a b))
 | .or=>K (.int k (bits .or k a b))
 | .xor=>K (.int k (bits .xor k a b))
 | .shl=>obg ctx (0<=b) (K (.int k (k.wrap (a * 2 ^ min b.toNat k.bits))))
 | .shr=>obg ctx (0<=b) (K (.int k (a.fdiv (2 ^ min b.toNat k.bits))))
 | _=>.fail 4
def wV (ctx:Bool) (op:BinOp) (x y:V) (K:V->T α):T α :=
 match x,y with
 | .int k a,.int k' b=>match decEq k k' with
   | .isTrue _=>Du ctx op k a b K
   | .isFalse _=>.fail 5
 | .str a,.str b=>match op with
   | .eql=>K (.bool (a.toList == b.toList))
   | .neq=>K (.bool !(a.toList == b.toList))
   | .add=>obg ctx (((a.size+b.size:Nat):Int)<=IntKind.i64.max) (K (.str (a++b)))
   | _=>.fail 6
 | _,_=>.fail 7
def kx:V->Option Bool
 | .bool b=>some b
 | .kb b=>some b
 | _=>none
mutual
def mrg (c:Bool):V->V->Option V
 | .int k a,.int k' b=>match decEq k k' with
   | .isTrue _=>some (.int k (cond c a b))
   | .isFalse _=>none
 | .bool a,y=>match kx y with
   | some b=>some (.bool (cond c a b))
   | none=>none
 | .kb a,y=>match kx y with
   | some b=>some (.bool (cond c a b))
   | none=>none
 | .str a,.str b=>some (.str (cond c a b))
 | .agg xs,.agg ys=>match Bl c xs ys with
   | some zs=>some (.agg zs)
   | none=>none
 | _,_=>none
def Bl (c:Bool):List V->List V->Option (List V)
 | [],[]=>some []
 | x :: xs,y::ys=>match mrg c x y with
   | some z=>match Bl c xs ys with
     | some zs=>some (z::zs)
     | none=>none
   | none=>none
 | _,_=>none
end
def yV:List V->List V->Option Bool
 | [],[]=>some true
 | .int k a::xs,.int k' b::ys=>match decEq k k' with
   | .isTrue _=>match yV xs ys with
     | some r=>some (a == b && r)
     | none=>none
   | .isFalse _=>none
 | _,_=>none
def mmV (isMax:Bool):V->List V->Option V
 | x,[]=>some x
 | .int k a,.int k' b::xs=>match decEq k k' with
   | .isTrue _=>mmV isMax (.int k (if isMax then max a b else min a b)) xs
   | .isFalse _=>none
 | _,_=>none
def je (ctx:Bool) (x:Option V) (y d:Nat) (K:Nat->T α):T α :=
 match x with
 | none=>K d
 | some (.int _ i)=>obg ctx (0<=i/\i<=y) (K i.toNat)
 | _=>.fail 8
def Fb (m l a b:Nat):Nat:=cond (Nat.beq m l) a b
def okE (esz:Nat) (l:List V):Bool:=Nat.beq (aY l) esz && l.all V.one
def iL:Nat->(Nat->Bool)->Bool
 | 0,_=>true
 | n+1,p=>iL n p && p n
def xU (h:List O) (esz:Nat):V->Option (Nat × (Nat->List V) × Bool)
 | .ns=>some (0,fun _=>[],true)
 | .sl n f=>some (n,f,iL n fun i=>okE esz (f i))
 | .gs k n=>match nth h k with
   | some (.gl e n' f _)=>cond (Nat.beq e esz) (some (n,f,Nat.ble n n')) none
   | _=>none
 | .ss k off n _=>match nth h k with
   | some (.cells cs _)=>match yw cs off (n * esz) with
     | some ds=>cond (ds.all V.one) (match n with
       | 1=>some (1,fun _=>ds,true)
       | n=>some (n,fun i=>(ds.drop (i * esz)).take esz,true)) none
     | none=>none
   | _=>none
 | .go k off n=>match nth h k with
   | some (.gl e n' f _)=>cond (Nat.beq e esz) (some (n,fun i=>f (off+i),Nat.ble (off+n) n')) none
   | _=>none
 | _=>none
def bb (n:Nat) (f g:Nat->List V) (i:Nat):List V:=cond (Nat.blt i n) (f i) (g (i - n))
abbrev CF (α:Type):=FuncId->List V->List O->(V->List O->T α)->T α
def HD (pl:Option Nat) (h:List O) (ty:TypeId) (esz bytes:Nat) (s x:V) (K:V->List O->T α):T α :=
 match xU h esz x with
 | none=>.fail 10
 | some (m,g,q)=>.ob q (match s with
   | .ns=>.ob (decide (m * bytes<=140737488355328) && !Nat.beq bytes 0) (dH pl h (.gl esz m g ty) fun p h=>K (.gs p m) h)
   | .gs k n=>match nth h k with
     | some (.gl e n' f ty')=>cond (Nat.beq e esz && Nat.beq ty ty') (.ob (decide (n<=n'/\(n+m) * bytes<=140737488355328) && !Nat.beq bytes 0)
        (dH pl (uG h k .hid) (.gl esz (n+m) (bb n f g) ty) fun p h=>K (.gs p (n+m)) h)) (.fail 11)
     | _=>.fail 12
   | .ss k off n c=>match xU h esz (.ss k off n c) with
     | some (_,f,_)=>match n,c with
       | 0,0=>match nth h k with
         | some (.cells [] ty')=>cond (Nat.beq ty ty' && Nat.beq off 0) (.ob (decide (m * bytes<=140737488355328) && !Nat.beq bytes 0) (dH pl (uG h k .hid) (.gl esz m g ty) fun p h=>K (.gs p m) h)) (.fail 15)
         | _=>.fail 16
       | _,_=>match x with
         | .go _ _ _=>.br (Nat.beq m 0) (.ob (Nat.ble n c) (K (.ss k off n c) h)) (.ob (decide (c < n+m/\(n+m) * bytes<=140737488355328) && !Nat.beq bytes 0) (dH pl h (.gl esz (n+m) (bb n f g) ty) fun p h=>K (.gs p (n+m)) h))
         | _=>.ob (decide (c < n+m/\(n+m) * bytes<=140737488355328) && !Nat.beq bytes 0) (dH pl h (.gl esz (n+m) (bb n f g) ty) fun p h=>K (.gs p (n+m)) h)
     | none=>.fail 13
   | _=>.fail 14)
def ldV (h:List O):V->Option V
 | .pl k off=>match nth h k with
   | some (.cells cs _)=>nth cs off
   | _=>none
 | .pe k i j=>match nth h k with
   | some (.gl _ _ f _)=>nth (f i) j
   | _=>none
 | .pd cs=>nth cs 0
 | _=>none
def Fd (h:List O) (n:Nat):V->Option (List V)
 | .pl k off=>match nth h k with
   | some (.cells cs _)=>yw cs off n
   | _=>none
 | .pe k i j=>match nth h k with
   | some (.gl _ _ f _)=>yw (f i) j n
   | _=>none
 | .pd cs=>qx n cs
 | _=>none
def BQ (l:List V) (i:Nat):V:=match nth l i with
 | some v=>v
 | none=>.any
def wrT (cs:List V) (j:Nat) (xs:List V):Nat->Nat->List V
 | _,0=>[]
 | t,m+1=>cond (Nat.ble j t && Nat.blt t (j+aY xs)) (BQ xs (t - j)) (BQ cs t)::wrT cs j xs (t+1) m
def wrE (e:Nat) (cs:List V) (j:Nat) (xs:List V):Option (List V):=cond (Nat.ble (j+aY xs) e) (some (wrT cs j xs 0 e)) none
def F2 (e:Nat) (f:Nat->List V) (i j:Nat) (xs:List V):Nat->List V:=fun i'=>cond (Nat.beq i' i) (wrT (f i) j xs 0 e) (f i')
def stV (h:List O) (xs:List V):V->Option (List O)
 | .pl k off=>match nth h k with
   | some (.cells cs ty)=>match wrV cs off xs with
     | some cs=>some (uG h k (.cells cs ty))
     | none=>none
   | _=>none
 | .pe k i j=>match nth h k with
   | some (.gl e n f ty)=>cond (Nat.ble (j+aY xs) e) (some (uG h k (.gl e n (F2 e f i j xs) ty))) none
   | _=>none
 | _=>none
def Ds:Nat->List V
 | 0=>[]
 | n+1=>.int .i64 0::Ds n
def chk (ctx:Bool) (h:List O) (v:V) (x:T α):T α :=
 match v with
 | .pe k i _=>match nth h k with
   | some (.gl _ n _ _)=>obg ctx (i < n) x
   | _=>.fail 17
 | _=>x
def evI (cf:CF α) (ctx:Bool) (pl:Option Nat) (op:IOp) (e:Env) (h:List O) (K:V->List O->T α):T α :=
 match op with
 | .mov x=>rdk ctx (bW e x) fun v=>K v h
 | .pick c a b=>rdk ctx (bW e c) fun c=>match c with
   | .kb true=>rdk ctx (bW e a) fun v=>K v h
   | .kb false=>rdk ctx (bW e b) fun v=>K v h
   | .bool c=>rdk (ctx && c) (bW e a) fun x=>rdk (ctx && !c) (bW e b) fun y=>match mrg c x y with
     | some v=>K v h
     | none=>.br c (K x h) (K y h)
   | _=>.fail 20
 | .new ty z=>dH pl h (.cells (z.map ofA) ty) fun p h=>K (.pl p 0) h
 | .box ty x=>rdk ctx (bW e x) fun v=>cond v.flat (dH pl h (.cells v.cells ty) fun p h=>K (.pl p 0) h) (.fail 21)
 | .agg z ps=>kX ctx e ps (z.map ofA) fun cs=>K (.agg cs) h
 | .bsl ty n z ps=>kX ctx e ps (z.map ofA) fun cs=>dH pl h (.cells cs ty) fun p h=>K (.ss p 0 n n) h
 | .ld a=>rdk ctx (bW e a) fun a=>chk ctx h a (match ldV h a with
   | some v=>K v h
   | none=>.fail 22)
 | .lds n a=>rdk ctx (bW e a) fun a=>chk ctx h a (match Fd h n a with
   | some cs=>K (.agg cs) h
   | none=>.fail 23)
 | .st n a x=>rdk ctx (bW e a) fun a=>rdk ctx (bW e x) fun v=>chk ctx h a (cond (v.flat && Nat.beq (aY v.cells) n) (match stV h v.cells a with
    | some h=>K (.tup []) h
    | none=>.fail 24) (.fail 25))
 | .nz x=>rdk ctx (bW e x) fun v=>match v with
   | .pl k o=>K (.pl k o) h
   | .pe k i j=>K (.pe k i j) h
   | .pd cs=>K (.pd cs) h
   | .fn f a b=>K (.fn f a b) h
   | _=>.fail 26
 | .bin op x y=>rdk ctx (bW e x) fun x=>rdk ctx (bW e y) fun y=>wV ctx op x y fun v=>K v h
 | .eqa neg n x y=>rdk ctx (bW e x) fun x=>rdk ctx (bW e y) fun y=>match x,y with
   | .agg xs,.agg ys=>match yV xs ys with
     | some b=>cond (Nat.beq (aY xs) n) (K (.bool (if neg then !b else b)) h) (.fail 27)
     | none=>.fail 28
   | _,_=>.fail 29
 | .eqb neg x y=>rdk ctx (bW e x) fun x=>rdk ctx (bW e y) fun y=>match kx x,kx y with
   | some a,some b=>K (.bool (if neg then !(a == b) else a == b)) h
   | _,_=>.fail 30
 | .un op x=>rdk ctx (bW e x) fun x=>match op,x with
   | .neg,.int k n=>K (.int k (k.wrap (0 - n))) h
   | .not,.bool b=>K (.bool !b) h
   | .not,.kb b=>K (.kb !b) h
   | _,_=>.fail 31
 | .conv k x=>rdk ctx (bW e x) fun x=>match x with
   | .int _ n=>K (.int k (k.wrap n)) h
   | _=>.fail 32
 | .mkf f xs ys=>match f with
   | .func f=>pT ctx e xs fun us=>pT ctx e ys fun vs=>K (.fn f us vs) h
   | _=>.fail 33
 | .fa off x=>rdk ctx (bW e x) fun x=>match x with
   | .pl k o=>K (.pl k (o+off)) h
   | .pe k i j=>K (.pe k i (j+off)) h
   | .pd cs=>match lY off cs with
     | some cs=>K (.pd cs) h
     | none=>.fail 34
   | _=>.fail 35
 | .fld off n x=>rdk ctx (bW e x) fun x=>match x with
   | .agg cs=>match n with
     | some n=>match yw cs off n with
       | some ds=>K (.agg ds) h
       | none=>.fail 36
     | none=>match nth cs off with
       | some v=>K v h
       | none=>.fail 37
   | _=>.fail 38
 | .iaA n esz x ix=>rdk ctx (bW e x) fun x=>rdk ctx (bW e ix) fun ix=>match x,ix with
   | .pl k o,.int _ i=>obg ctx (0<=i/\i < n) (K (.pl k (o+i.toNat * esz)) h)
   | .pe k j o,.int _ i=>obg ctx (0<=i/\i < n) (K (.pe k j (o+i.toNat * esz)) h)
   | .pd cs,.int _ i=>match lY (i.toNat * esz) cs with
     | some cs=>obg ctx (0<=i/\i < n) (K (.pd cs) h)
     | none=>.fail 39
   | _,_=>.fail 40
 | .iaS esz x ix=>rdk ctx (bW e x) fun x=>rdk ctx (bW e ix) fun ix=>match x,ix with
   | .sl n f,.int _ i=>cond (Nat.beq (aY (f i.toNat)) esz) (obg ctx (0<=i/\i < n) (K (.pd (f i.toNat)) h)) (.fail 41)
   | .ss k o n _,.int _ i=>obg ctx (0<=i/\i < n) (K (.pl k (o+i.toNat * esz)) h)
   | .gs k n,.int _ i=>match nth h k with
     | some (.gl e n' _ _)=>cond (Nat.beq e esz) (obg ctx (0<=i/\i < n/\n<=n') (K (.pe k i.toNat 0) h)) (.fail 42)
     | _=>.fail 43
   | .go k off n,.int _ i=>match nth h k with
     | some (.gl e n' _ _)=>cond (Nat.beq e esz) (obg ctx (0<=i/\i < n/\off+n<=n') (K (.pe k (off+i.toNat) 0) h)) (.fail 42)
     | _=>.fail 43
   | .ns,.int _ i=>obg ctx (0<=i/\i < (0:Int)) (K (.pd (Ds esz)) h)
   | _,_=>.fail 44
 | .ixA n esz sz x ix=>rdk ctx (bW e x) fun x=>rdk ctx (bW e ix) fun ix=>match x,ix with
   | .agg cs,.int _ i=>match sz with
     | some sz=>match yw cs (i.toNat * esz) sz with
       | some ds=>obg ctx (0<=i/\i < n) (K (.agg ds) h)
       | none=>.fail 45
     | none=>match nth cs (i.toNat * esz) with
       | some v=>obg ctx (0<=i/\i < n) (K v h)
       | none=>.fail 46
   | _,_=>.fail 47
 | .ixS x ix=>rdk ctx (bW e x) fun x=>rdk ctx (bW e ix) fun ix=>match x,ix with
   | .str s,.int _ i=>obg ctx (0<=i/\i < s.size) (K (.int .u8 ((s.data.toList.getD i.toNat 0).toNat:Int)) h)
   | _,_=>.fail 48
 | .len x=>rdk ctx (bW e x) fun x=>match x with
   | .sl n _=>.asm (ctx=true->n<=9223372036854775807) (K (.int .i64 n) h)
   | .ss _ _ n _=>K (.int .i64 n) h
   | .gs _ n=>K (.int .i64 n) h
   | .ns=>K (.int .i64 0) h
   | .go _ _ n=>K (.int .i64 n) h
   | _=>.fail 49
 | .lenT x=>rdk ctx (bW e x) fun x=>match x with
   | .str s=>K (.int .i64 s.size) h
   | _=>.fail 50
 | .lenA n=>K (.int .i64 n) h
 | .mm b x xs=>rdk ctx (bW e x) fun x=>pT ctx e xs fun xs=>match mmV b x xs with
   | some v=>K v h
   | none=>.fail 51
 | .ext x i=>rdk ctx (bW e x) fun x=>match x with
   | .tup vs=>match nth vs i with
     | some v=>K v h
     | none=>.fail 52
   | _=>.fail 53
 | .slS esz x lo hi mx=>rdk ctx (bW e x) fun x=>pj ctx e lo fun lo=>pj ctx e hi fun hi=>pj ctx e mx fun mx=>match x with
   | .sl n f=>match mx with
     | none=>cond (Nat.beq (aY (f 0)) esz) (je ctx hi n n fun b=>je ctx lo b 0 fun a=>K (.sl (b - a) (fun i=>f (a+i))) h) (.fail 19)
     | some _=>.fail 54
   | .gs k n=>match mx,lo with
     | none,none=>je ctx hi n n fun b=>K (.gs k b) h
     | none,some lo=>match nth h k with
       | some (.gl e _ _ _)=>cond (Nat.beq e esz) (je ctx hi n n fun b=>je ctx (some lo) b 0 fun a=>K (.go k a (b - a)) h) (.fail 104)
       | _=>.fail 105
     | _,_=>.fail 55
   | .ss k o n c=>je ctx mx c c fun m=>je ctx hi m n fun b=>je ctx lo b 0 fun a=>K (.ss k (Fb m a o (o+a * esz)) (b - a) (m - a)) h
   | .ns=>match mx with
     | none=>je ctx hi 0 0 fun b=>je ctx lo b 0 fun _=>K .ns h
     | some _=>.fail 56
   | _=>.fail 57
 | .slA n esz x lo hi mx=>rdk ctx (bW e x) fun x=>pj ctx e lo fun lo=>pj ctx e hi fun hi=>pj ctx e mx fun mx=>match x with
   | .pl k o=>je ctx mx n n fun m=>je ctx hi m n fun b=>je ctx lo b 0 fun a=>K (.ss k (Fb m a o (o+a * esz)) (b - a) (m - a)) h
   | _=>.fail 58
 | .slT x lo hi=>rdk ctx (bW e x) fun x=>pj ctx e lo fun lo=>pj ctx e hi fun hi=>match x with
   | .str s=>je ctx hi s.size s.size fun b=>je ctx lo b 0 fun a=>K (.str (s.extract a b)) h
   | _=>.fail 59
 | .app ty esz bytes z s x=>rdk ctx (bW e s) fun s=>rdk ctx (bW e x) fun x=>cond (Nat.beq (aY z) esz) (HD pl h ty esz bytes s x K) (.fail 18)
 | .mks ty n cs=>dH pl h (.cells (cs.map ofA) ty) fun p h=>K (.ss p 0 n n) h
 | .call f xs=>pT ctx e xs fun vs=>cf f vs h K
 | .callv x xs=>rdk ctx (bW e x) fun x=>pT ctx e xs fun vs=>match x with
   | .fn f a b=>cf f (rj (rj a vs) b) h K
   | _=>.fail 60
 | .isn neg x=>rdk ctx (bW e x) fun x=>match x with
   | .ns=>K (.kb (!neg)) h
   | .ss ..=>K (.kb neg) h
   | .sl n _=>.und (.asm (n=0) (K (.kb (!neg)) h)) (K (.kb neg) h)
   | .gs _ n=>.und (.asm (n=0) (K (.kb (!neg)) h)) (K (.kb neg) h)
   | _=>.fail 100
 | .clr esz z x=>rdk ctx (bW e x) fun x=>match x with
   | .go k off n=>match nth h k with
     | some (.gl e n' f ty)=>cond (Nat.beq e esz && okE e (z.map ofA)) (.ob (decide (0 < n/\off+n<=n')) (K (.tup []) (uG h k (.gl e n' (fun i=>cond (Nat.ble off i && Nat.blt i (off+n)) (z.map ofA) (f i)) ty)))) (.fail 101)
     | _=>.fail 102
   | _=>.fail 103
def gR:IOp->Bool
 | .new .. | .box .. | .bsl .. | .st .. | .app .. | .mks .. | .call .. | .callv .. | .clr ..=>false
 | _=>true
def dE (e:Env) (d:Option Nat) (v:V):Env :=
 match d with
 | some d=>(d,v)::e
 | none=>e
def gB (b want:Bool):Bool:=match want with
 | true=>b
 | false=>!b
def dR (cf : CF α):List SOp->Env->List O->(Env->List O->T α)->T α
 | [],e,h,K=>K e h
 | o :: rest,e,h,K =>
   match o.guard with
   | none=>evI cf true none o.op e h fun v h=>dR cf rest (dE e o.dst v) h K
   | some (d,want) =>
     match cH e d with
     | .kb b=>match decEq b want with
       | .isTrue _=>evI cf true none o.op e h fun v h=>dR cf rest (dE e o.dst v) h K
       | .isFalse _=>dR cf rest (dE e o.dst (.tup [])) h K
     | .tup _=>dR cf rest (dE e o.dst (.tup [])) h K
     | .int ..=>dR cf rest (dE e o.dst (.tup [])) h K
     | .bool b=>match gR o.op with
       | true=>evI cf (gB b want) none o.op e h fun v _=>dR cf rest (dE e o.dst (.gd (gB b want) v)) h K
       | false=>.br (gB b want) (evI cf true none o.op ((d,.kb want)::e) h fun v h=>dR cf rest (dE ((d,.kb want)::e) o.dst v) h K)
          (dR cf rest (dE ((d,.kb (!want))::e) o.dst (.tup [])) h K)
     | .gd c v=>match kx v with
       | none=>.fail 62
       | some b=>match gR o.op with
         | true=>evI cf (c && gB b want) none o.op e h fun v _=>dR cf rest (dE e o.dst (.gd (c && gB b want) v)) h K
         | false=>.br (c && gB b want) (evI cf true none o.op ((d,.kb want)::e) h fun v h=>dR cf rest (dE ((d,.kb want)::e) o.dst v) h K)
            (dR cf rest (dE e o.dst (.tup [])) h K)
     | _=>.fail 61
end
def p7 (k:Nat):List Nat->Bool
 | []=>false
 | x::l=>cond (Nat.beq k x) true (p7 k l)
def yL:List Nat->List Nat->Bool
 | [],_=>true
 | k::l,W=>p7 k W && yL l W
def Bi:List Nat->List Nat->Bool
 | [],_=>true
 | k::l,W=>!p7 k W && Bi l W
def cB (h:List O) (k:Nat):Bool :=
 match nth h k with
 | some (.cells ..)=>true
 | some (.gl ..)=>true
 | _=>false
def fx (h:List O):V->Option (List Nat)
 | .pl k _=>cond (cB h k) (some [k]) none
 | .pe k _ _=>cond (cB h k) (some [k]) none
 | .ss k _ _ _=>cond (cB h k) (some [k]) none
 | .gs k _=>cond (cB h k) (some [k]) none
 | .ns=>some []
 | _=>none
def Aj (h:List O) (e:Env) (n0:Nat):vU->Option (List Nat)
 | .fresh r=>some [n0+r]
 | .slot s=>fx h (cH e s)
 | .load s off=>match cH e s with
   | .pl k o=>match ldV h (.pl k (o+off)) with
     | some v=>fx h v
     | none=>none
   | _=>none
def nY (h:List O) (e:Env) (n0:Nat):List vU->Option (List Nat)
 | []=>some []
 | x::l=>match Aj h e n0 x,nY h e n0 l with
   | some a,some b=>some (rj a b)
   | _,_=>none
def m9 (h:List O) (e:Env) (n0:Nat):List DOp->Option (List (List Nat))
 | []=>some []
 | d::l=>match nY h e n0 d.ws,m9 h e n0 l with
   | some a,some b=>some (a::b)
   | _,_=>none
def bZ (Ws:List (List Nat)) (i:Nat):List Nat:=match nth Ws i with
 | some l=>l
 | none=>[]
def js (Ws:List (List Nat)):List Nat->List Nat
 | []=>[]
 | u::un=>rj (bZ Ws u) (js Ws un)
def oA (Ws:List (List Nat)):List DOp->Nat->Bool
 | [],_=>true
 | d::l,i=>Bi (bZ Ws i) (js Ws d.un) && oA Ws l (i+1)
def fb (X:List Nat):List O->Nat->List O
 | [],_=>[]
 | o::h,k=>cond (p7 k X) O.hid o::fb X h (k+1)
def fB (X:List Nat) (h:List O):List O:=match X with
 | []=>h
 | _=>fb X h 0
def gS (W:List Nat) (l:List O):List O->Nat->List O
 | [],_=>[]
 | o::h,k=>cond (p7 k W) (match nth l k with
   | some o'=>o'
   | none=>o) o::gS W l h (k+1)
def yz (W:List Nat) (h l:List O):List O:=gS W l h 0
def qO (Ws:List (List Nat)) (Y:List Nat):List DOp->Nat->Nat->Bool
 | [],_,_=>true
 | d::l,i,j=>cond (Nat.blt i j) ((match d.rk with
   | none=>true
   | some _=>Bi (bZ Ws i) Y || yL (bZ Ws i) Y) && qO Ws Y l (i+1) j) true
def tl (Ws:List (List Nat)) (all:List DOp):List DOp->Nat->Bool
 | [],_=>true
 | d::l,j=>(qO Ws (bZ Ws j) all 0 j && qO Ws (js Ws d.un) all 0 j) && tl Ws all l (j+1)
def undead:List O->List O
 | []=>[]
 | o::h=>(match o with
   | .dead=>.hid
   | o=>o)::undead h
def deads:Nat->List O
 | 0=>[]
 | n+1=>.dead::deads n
def opW (h:List O) (e:Env) (pl:Option Nat):IOp->Option (List Nat)
 | .st _ a _=>fx h (bW e a)
 | .app _ _ _ _ s _=>match fx h (bW e s),pl with
   | some l,some p=>some (p::l)
   | _,_=>none
 | .new .. | .box .. | .bsl .. | .mks ..=>match pl with
   | some p=>some [p]
   | none=>none
 | .call .. | .callv ..=>some []
 | .clr ..=>none
 | _=>some []
def plL (pl:Option Nat) (l:List Nat):List Nat:=match pl with
 | some p=>p::l
 | none=>l
section
variable {α:Type}
abbrev CP (α:Type):=FuncId->List V->List O->(V->T α)->T α
def evM (cp:CP α) (Ws:List (List Nat)) (n0:Nat) (d:DOp) (i:Nat) (e:Env) (h:List O) (K:V->List O->T α):T α :=
 match gR d.o.op with
 | true=>evI (fun f vs h K=>cp f vs h fun v=>K v h) true none d.o.op e (fB (js Ws d.un) h) fun v _=>K v h
 | false=>match opW (fB (js Ws d.un) h) e (d.rk.map (n0+·)) d.o.op with
   | none=>.fail 63
   | some l=>cond (yL (plL (d.rk.map (n0+·)) l) (bZ Ws i)) (evI (fun f vs h K=>cp f vs h fun v=>K v h) true (d.rk.map (n0+·)) d.o.op e (fB (js Ws d.un) h) fun v l=>K v (yz (bZ Ws i) h l)) (.fail 64)
def dp (cp : CP α) (Ws:List (List Nat)) (n0:Nat):List DOp->Nat->Env->List O->(Env->List O->T α)->T α
 | [],_,e,h,K=>K e h
 | d :: rest,i,e,h,K =>
   match d.o.guard with
   | none=>evM cp Ws n0 d i e h fun v h=>dp cp Ws n0 rest (i+1) (dE e d.o.dst v) h K
   | some (g,want) =>
     match cH e g with
     | .kb b=>match decEq b want with
       | .isTrue _=>evM cp Ws n0 d i e h fun v h=>dp cp Ws n0 rest (i+1) (dE e d.o.dst v) h K
       | .isFalse _=>dp cp Ws n0 rest (i+1) (dE e d.o.dst (.tup [])) h K
     | .tup _=>dp cp Ws n0 rest (i+1) (dE e d.o.dst (.tup [])) h K
     | .int ..=>dp cp Ws n0 rest (i+1) (dE e d.o.dst (.tup [])) h K
     | .bool b=>match gR d.o.op with
       | true=>evI (fun f vs h K=>cp f vs h fun v=>K v h) (gB b want) none d.o.op e (fB (js Ws d.un) h) fun v _=>dp cp Ws n0 rest (i+1) (dE e d.o.dst (.gd (gB b want) v)) h K
       | false=>.br (gB b want) (evM cp Ws n0 d i ((g,.kb want)::e) h fun v h=>dp cp Ws n0 rest (i+1) (dE ((g,.kb want)::e) d.o.dst v) h K)
          (dp cp Ws n0 rest (i+1) (dE ((g,.kb (!want))::e) d.o.dst (.tup [])) h K)
     | .gd c v=>match kx v with
       | none=>.fail 65
       | some b=>match gR d.o.op with
         | true=>evI (fun f vs h K=>cp f vs h fun v=>K v h) (c && gB b want) none d.o.op e (fB (js Ws d.un) h) fun v _=>dp cp Ws n0 rest (i+1) (dE e d.o.dst (.gd (c && gB b want) v)) h K
         | false=>.br (c && gB b want) (evM cp Ws n0 d i ((g,.kb want)::e) h fun v h=>dp cp Ws n0 rest (i+1) (dE ((g,.kb want)::e) d.o.dst v) h K)
            (dp cp Ws n0 rest (i+1) (dE e d.o.dst (.tup [])) h K)
     | _=>.fail 66
def nm (cp:CP α) (ds:List DOp) (e:Env) (h:List O) (K:Env->List O->T α):T α :=
 match m9 (undead h) e (aY h) ds with
 | none=>.fail 67
 | some Ws=>cond (oA Ws ds 0 && tl Ws ds ds 0) (dp cp Ws (aY h) ds 0 e (rj (undead h) (deads (news ds))) K) (.fail 68)
def evL (ev:Env->List O->(Ex->Env->List O->T α)->T α):Nat->Env->List O->(Ex->Env->List O->T α)->T α
 | 0,_,_,_=>.fail 90
 | n+1,e,h,K=>ev e h fun x e h=>match x with
   | .normal=>evL ev n e h K
   | .exit i=>K (.exit i) e h
   | .ret=>K .ret e h
def Ff (ev:Env->List O->Option Ex->(Ex->Env->List O->Option Ex->T α)->T α):Nat->Env->List O->Option Ex->(Ex->Env->List O->Option Ex->T α)->T α
 | 0,_,_,_,_=>.fail 91
 | n+1,e,h,g,K=>ev e h g fun x e h g=>match x with
   | .normal=>Ff ev n e h g K
   | .exit i=>K (.exit i) e h g
   | .ret=>K .ret e h g
def lf:Env->List Nat->List V->Env
 | e,p::ps,x::xs=>lf ((p,x)::e) ps xs
 | e,_,_=>e
abbrev YV (α:Type):=List V->List O->(Ex->List O->T α)->T α
def gM (cf:CF α) (l:Nat) (Y:YV α):List mg->Env->List O->Option Ex->(Env->List O->Option Ex->T α)->T α
 | [],e,h,g,K=>K e h g
 | .op o::rest,e,h,g,K=>dR cf [o] e h fun e h=>gM cf l Y rest e h g K
 | .yld t d xs::rest,e,h,g,K=>match g,cH e t with
   | none,.yl l'=>.obq [.yl l'] [.yl l] (pT true e xs fun vs=>Y vs h fun x h=>match x with
     | .normal=>gM cf l Y rest (dE e d (.kb true)) h none K
     | .exit i=>gM cf l Y rest (dE e d (.kb false)) h (some (.exit i)) K
     | .ret=>gM cf l Y rest (dE e d (.kb false)) h (some .ret) K)
   | _,_=>.fail 92
abbrev Unr:=Nat->Nat
def iT (cf:CF α) (cp:CP α) (un:Unr) (fr:Nat × Nat) (rd:RD) (Y:YV α):Nat->eI->Env->List O->Option Ex->(Ex->Env->List O->Option Ex->T α)->T α
 | _,.skip,e,h,g,K=>K .normal e h g
 | _,.reg ops,e,h,g,K=>gM cf rd.l Y ops e h g (K .normal)
 | _,.draw ds,e,h,g,K=>nm cp ds e h fun e h=>K .normal e h g
 | bi,.seq a b,e,h,g,K=>iT cf cp un fr rd Y bi a e h g fun x e h g=>match x with
   | .normal=>iT cf cp un fr rd Y bi b e h g K
   | .exit i=>K (.exit i) e h g
   | .ret=>K .ret e h g
 | bi,.cond c a b,e,h,g,K=>match bW e c with
   | .kb true=>iT cf cp un fr rd Y bi a e h g K
   | .kb false=>iT cf cp un fr rd Y bi b e h g K
   | .bool t=>match c with
     | .t s=>.br t (iT cf cp un fr rd Y bi a ((s,.kb true)::e) h g K) (iT cf cp un fr rd Y bi b ((s,.kb false)::e) h g K)
     | _=>.br t (iT cf cp un fr rd Y bi a e h g K) (iT cf cp un fr rd Y bi b e h g K)
   | _=>.fail 69
 | _,.block id b,e,h,g,K=>iT cf cp un fr rd Y id b e h g fun x e h g=>match x with
   | .exit i=>cond (Nat.beq i id) (K .normal e h g) (K (.exit i) e h g)
   | .normal=>K .normal e h g
   | .ret=>K .ret e h g
 | bi,.loop b,e,h,g,K=>match un bi with
   | 0=>.loop fr (.i b rd) e h g K
   | n+1=>Ff (iT cf cp un fr rd Y bi b) (n+1) e h g K
 | _,.exit id,e,h,g,K=>K (.exit id) e h g
 | _,.ret,e,h,g,K=>K .ret e h g
 | bi,.scope b,e,h,g,K=>iT cf cp un fr rd Y bi b e h g K
def KW (K:Ex->Env->List O->T α) (e:Env):Ex->Env->List O->Option Ex->T α
 | .exit _,_,_,_=>.fail 93
 | .normal,_,h,none=>K .normal e h
 | .normal,_,h,some x=>K x e h
 | .ret,_,h,none=>K .normal e h
 | .ret,_,h,some x=>K x e h
def Bk:List V->Nat->Env
 | [],_=>[]
 | v::vs,i=>(i,v)::Bk vs (i+1)
def xS (cf:CF α):OT->Env->List O->(Env->List O->T α)->T α
 | .done,e,h,K=>K e h
 | .op o r,e,h,K=>dR cf [o] e h fun e h=>xS cf r e h K
 | .alt a b,e,h,K=>.und (xS cf a e h K) (xS cf b e h K)
def evC (cf:CF α) (cp:CP α) (un:Unr):Nat × Nat->Nat->dt->Env->List O->(Ex->Env->List O->T α)->T α
 | _,_,.skip,e,h,K=>K .normal e h
 | _,_,.reg ops,e,h,K=>dR cf ops e h (K .normal)
 | _,_,.draw ds,e,h,K=>nm cp ds e h (K .normal)
 | _,_,.allo t,e,h,K=>xS cf t e h (K .normal)
 | fr,bi,.seq a b,e,h,K=>evC cf cp un fr bi a e h fun x e h=>match x with
   | .normal=>evC cf cp un fr bi b e h K
   | .exit i=>K (.exit i) e h
   | .ret=>K .ret e h
 | fr,bi,.cond c a b,e,h,K=>match bW e c with
   | .kb true=>evC cf cp un fr bi a e h K
   | .kb false=>evC cf cp un fr bi b e h K
   | .bool t=>match c with
     | .t s=>.br t (evC cf cp un fr bi a ((s,.kb true)::e) h K) (evC cf cp un fr bi b ((s,.kb false)::e) h K)
     | _=>.br t (evC cf cp un fr bi a e h K) (evC cf cp un fr bi b e h K)
   | _=>.fail 69
 | fr,_,.block id b,e,h,K=>evC cf cp un fr id b e h fun x e h=>match x with
   | .exit i=>cond (Nat.beq i id) (K .normal e h) (K (.exit i) e h)
   | .normal=>K .normal e h
   | .ret=>K .ret e h
 | fr,bi,.loop b,e,h,K=>match un bi with
   | 0=>.loop fr (.s b) e h none fun x e h _=>K x e h
   | n+1=>evL (evC cf cp un fr bi b) (n+1) e h K
 | _,_,.exit id,e,h,K=>K (.exit id) e h
 | _,_,.ret,e,h,K=>K .ret e h
 | fr,bi,.scope b,e,h,K=>evC cf cp un fr bi b e h K
 | fr, bi,.range g ps asg body its,e,h,K=>match bW e g with
   | .fn f [] ys=>match xq its f with
     | some it=>cond (Nat.ble (aY ys+1) it.ntmps) (.all fun l=>iT cf cp un (fr.1,aY h) ⟨ps,asg,body,e,l⟩ (fun vs h K=>cond (Nat.beq (aY vs) (aY ps)) (evC cf cp un (fr.1,aY h) bi asg (lf e ps vs) h fun x e1 h1=>match x with
        | .normal=>evC cf cp un (fr.1,aY h) bi body e1 h1 fun x _ h2=>K x h2
        | _=>.fail 94) (.fail 95)) 0 it.body ((0,.yl l)::Bk ys 1) h none (KW K e)) (.fail 96)
     | none=>.fail 97
   | _=>.fail 98
def oL (e:Env) (h:List O):List tV->(List V->T α)->T α
 | [],K=>K []
 | .tmp t::l,K=>rdk true (cH e t) fun v=>oL e h l fun vs=>K (v::vs)
 | .cell t n::l,K=>match n with
   | none=>chk true h (cH e t) (match ldV h (cH e t) with
     | some v=>oL e h l fun vs=>K (v::vs)
     | none=>.fail 70)
   | some n=>chk true h (cH e t) (match Fd h n (cH e t) with
     | some cs=>oL e h l fun vs=>K (.agg cs::vs)
     | none=>.fail 71)
def nU:List V->V
 | [v]=>v
 | vs=>.tup vs
def kF (cf:CF α) (cp:CP α) (un:Unr) (lv:Nat) (sf:aE) (args:List V) (h:List O) (K:V->List O->T α):T α :=
 cond (Nat.ble (aY args) sf.ntmps) (evC cf cp un (lv,aY h) 0 sf.body (Bk args 0) h fun x e h=>match x with
  | .exit _=>.fail 72
  | _=>oL e h sf.res fun vs=>K (nU vs) (undead h)) (.fail 73)
def cq (cs:List V) (off e:Nat):Nat->List V:=fun i=>(cs.drop (off+i * e)).take e
def mR (v:V):V:=cond v.fc v .any
def iC (h:List O):Nat->V->V
 | 0,_=>.any
 | fu + 1,v=>match v with
   | .int k n=>.int k n
   | .bool b=>.bool b
   | .kb b=>.bool b
   | .str s=>.str s
   | .sl n f=>.sl n f
   | .sq n m f=>.sq n m f
   | .pd cs=>.pd cs
   | .ns=>.sl 0 fun _=>[]
   | .agg cs=>.agg (cs.map (iC h fu))
   | .fn f xs ys=>.fn f (xs.map (iC h fu)) (ys.map (iC h fu))
   | .pl k off=>match nth h k with
     | some (.cells cs _)=>cond (Nat.ble off (aY cs)) (.pd ((cs.drop off).map fun v=>mR (iC h fu v))) .any
     | _=>.any
   | .gs k n=>match nth h k with
     | some (.gl _ n' f _)=>cond (Nat.ble n n') (.sl n fun i=>(f i).map fun v=>mR (iC h fu v)) .any
     | _=>.any
   | .ss k off n c=>match nth h k with
     | some (.cells cs _)=>cond (Nat.ble n 9223372036854775807 && (Nat.ble n c && Nat.ble (off+n * ((aY cs - off) / c)) (aY cs)))
        (.sq n c (cq (cs.map fun v=>mR (iC h fu v)) off ((aY cs - off) / c))) .any
     | _=>.any
   | _=>.any
def wa:V->V
 | .int k n=>.int k n
 | .bool b=>.bool b
 | .kb b=>.bool b
 | .str s=>.str s
 | .sl n f=>.sl n f
 | .pd cs=>.pd cs
 | _=>.any
def MV (f:FnV):Nat->List V:=fun i=>(f i).map wa
def z7 (h:List O) (k n:Nat):V:=match nth h k with
 | some (.gl _ _ f _)=>.sl n (MV f)
 | _=>.any
def zD (h:List O):V->V
 | .gs k n=>z7 h k n
 | v=>iC h 11 v
def tt (h:List O):V->V
 | .gs k n=>z7 h k n
 | .agg cs=>.agg (cs.map (zD h))
 | v=>iC h 12 v
def zE (h:List O) (k n:Nat):List (Nat × Nat):=match nth h k with
 | some (.gl _ n' _ _)=>[(n,n')]
 | _=>[]
def GQ (h:List O):V->List (Nat × Nat)
 | .gs k n=>zE h k n
 | _=>[]
def yG (h:List O):List V->List (Nat × Nat)
 | []=>[]
 | v::vs=>rj (GQ h v) (yG h vs)
def GR (h:List O):V->List (Nat × Nat)
 | .gs k n=>zE h k n
 | .agg cs=>yG h cs
 | _=>[]
def qM (h:List O):List V->List (Nat × Nat)
 | []=>[]
 | v::vs=>rj (GR h v) (qM h vs)
def obs:List (Nat × Nat)->T α->T α
 | [],x=>x
 | p::l,x=>.ob (Nat.ble p.1 p.2) (obs l x)
end
end Go.Dx
namespace Go.Sx
inductive D where
 | v (a:ab)
 | ag (ds:List D)
 | sl (esz:Nat) (els:List (List D))
 | pt (ds:List D)
 | fn (f:FuncId) (xs ys:List D)
def aQ:ab->Bool
 | .int .. | .bool .. | .str ..=>true
 | _=>false
def D.isC:D->Bool
 | .v _ | .sl .. | .pt _=>true
 | _=>false
def okP (lh:List ac):Option Ptr->Prop
 | some (.l k _)=>isCells lh[k]? = true
 | _=>True
section
variable (w0:World) (lh:List ac)
mutual
def rd:D->ab->Prop
 | .v b,a=>aQ b=true/\a=b
 | .ag ds,a=>∃ cs,a=.agg cs/\rdC ds cs
 | .sl esz els,a=>∃ p c,a=.slice p els.length c/\els.length<=9223372036854775807/\okP lh p/\rdS els esz p 0
 | .pt ds,a=>∃ p cs,a=.ptr (some p)/\lds w0 lh p ds.length=some cs/\rdC ds cs
 | .fn f xs ys,a=>∃ us vs,a=.fn (.func f) us vs/\rdL xs us/\rdL ys vs
def rdL:List D->List ab->Prop
 | [],cs=>cs=[]
 | d::ds,cs=>∃ x xs,cs=x::xs/\rd d x/\rdL ds xs
def rdC:List D->List ab->Prop
 | [],cs=>cs=[]
 | d::ds,cs=>∃ x xs,cs=x::xs/\d.isC=true/\rd d x/\rdC ds xs
def rdS:List (List D)->Nat->Option Ptr->Nat->Prop
 | [],_,_,_=>True
 | e::es,esz,p,i=>(∃ q cs,p=some q/\lds w0 lh (q.add (i * esz)) esz=some cs/\rdC e cs)/\rdS es esz p (i+1)
end
end
def jR:ab->Bool
 | .agg cs=>cs.all aQ
 | .tup cs=>cs.all fun
   | .agg ds=>ds.all aQ
   | a=>aQ a
 | a=>aQ a
theorem kS {m m':ao} {a:ab} {v:Value} (hs:aQ a=true) (h:vrel m a v):vrel m' a v:=by
 cases a <;> simp only [aQ] at hs <;> first | (simp only [vrel] at h ⊢; exact h) | cases hs
theorem eQ {m m':ao}:∀ {az:List ab} {vs:List Value},az.all aQ=true->af m az vs->af m' az vs
 | [],_,_,h=>by simp only [af] at h ⊢; exact h
 | a::az,_,hs,h=>by
   simp only [List.all_cons,Bool.and_eq_true] at hs
   simp only [af] at h ⊢
   obtain ⟨u,us,rfl,h1,h2⟩:=h
   exact ⟨u,us,rfl,kS hs.1 h1,eQ hs.2 h2⟩
theorem yR {m m':ao} {a:ab} {v:Value} (hs:(match a with | .agg ds=>ds.all aQ | a=>aQ a)=true) (h:vrel m a v):vrel m' a v:=by
 cases a with
 | agg cs=>simp only [vrel] at h ⊢; obtain ⟨vs,rfl,h⟩:=h; exact ⟨vs,rfl,eQ hs h⟩
 | _=>exact kS hs h
theorem rA {m m':ao}:∀ {az:List ab} {vs:List Value},(az.all fun | .agg ds=>ds.all aQ | a=>aQ a)=true->af m az vs->af m' az vs
 | [],_,_,h=>by simp only [af] at h ⊢; exact h
 | a::az,_,hs,h=>by
   simp only [List.all_cons,Bool.and_eq_true] at hs
   simp only [af] at h ⊢
   obtain ⟨u,us,rfl,h1,h2⟩:=h
   exact ⟨u,us,rfl,yR hs.1 h1,rA hs.2 h2⟩
theorem BH {m m':ao} {a:ab} {v:Value} (hs:jR a=true) (h:vrel m a v):vrel m' a v:=by
 cases a with
 | agg cs=>simp only [vrel] at h ⊢; obtain ⟨vs,rfl,h⟩:=h; exact ⟨vs,rfl,eQ hs h⟩
 | tup cs=>simp only [vrel] at h ⊢; obtain ⟨vs,rfl,h⟩:=h; exact ⟨vs,rfl,rA hs h⟩
 | _=>exact kS hs h
theorem oh {p:Nat->Prop} {a:ab} (hs:aQ a=true):inN p a:=by
 cases a <;> first | (simp only [inN]; done) | (simp only [aQ] at hs; cases hs)
theorem kR {p:Nat->Prop}:∀ {az:List ab},az.all aQ=true->fv p az
 | [],_=>by simp only [fv]
 | a::az,hs=>by
   simp only [List.all_cons,Bool.and_eq_true] at hs
   simp only [fv]; exact ⟨oh hs.1,kR hs.2⟩
theorem tJ {p:Nat->Prop}:∀ {az:List ab},(az.all fun | .agg ds=>ds.all aQ | a=>aQ a)=true->fv p az
 | [],_=>by simp only [fv]
 | a::az,hs=>by
   simp only [List.all_cons,Bool.and_eq_true] at hs
   simp only [fv]
   refine ⟨?_,tJ hs.2⟩
   cases a with
   | agg cs=>simp only [inN]; exact kR hs.1
   | _=>exact oh hs.1
theorem Cp {p:Nat->Prop} {a:ab} (hs:jR a=true):inN p a:=by
 cases a with
 | agg cs=>simp only [inN]; exact kR hs
 | tup cs=>simp only [inN]; exact tJ hs
 | _=>exact oh hs
section
variable {B:bm} {m:ao} {lh:List ac} {w:World}
theorem fU {w:World} {a:Addr}:∀ (vs:List Value) (i:Nat),(∀ j v,vs[j]? = some v->w.cell? (a.add (i+j))=some v)->dV w a i vs.length=some (vs.map aS)
 | [],i,_=>rfl
 | v::vs,i,h=>by
   have h0:=h 0 v rfl
   simp only [Nat.add_zero] at h0
   have ih:=fU vs (i+1) (fun j u hu=>by have:=h (j+1) u (by simpa using hu); rw [← this]; congr 2; omega)
   simp only [List.length_cons,dV,h0,ih,List.map_cons]
theorem rB (h:aw B m lh w) {p:Ptr} {q:Option Addr} (hq:bN m (some p) q) {n:Nat} {xs:List ab} (hx:lds B.w0 lh p n=some xs) :
 ∃ a us,q=some a/\lds w [] (.g a) n=some (us.map aS)/\af m xs us:=by
 cases p with
 | l k off =>
   simp only [lds] at hx
   split at hx
   ·rename_i cs ty hk
    split at hx
    ·rename_i hle
     cases hx
     obtain ⟨b,hb,rfl⟩:=hq
     obtain ⟨b',vs,hb',hvs,hh,_⟩:=h.loc k cs ty hk
     rw [hb] at hb'; cases hb'
     have hl:=bo hvs
     have hr:=gA n (iX off hvs)
     have hn:((vs.toList.drop off).take n).length=n:=by simp at hl ⊢; omega
     refine ⟨_,(vs.toList.drop off).take n,rfl,?_,hr⟩
     have:=fU (w:=w) (a:=⟨b,off,none⟩) ((vs.toList.drop off).take n) 0 (fun j v hv=>by
      rw [iB]
      rw [List.getElem?_take] at hv
      split at hv
      ·rw [List.getElem?_drop] at hv
       simp only [World.cell?,hh]; simpa using hv
      ·cases hv)
     rw [hn] at this
     exact this
    ·cases hx
   ·cases hx
 | g a =>
   simp only [bN] at hq; subst hq
   obtain ⟨vs,rfl,h2,h3⟩:=cK n 0 xs hx
   refine ⟨a,vs,rfl,?_,bd m vs⟩
   have:=fU (w:=w) (a:=a) vs 0 (fun j v hv=>h.cell_g (h3 j v hv))
   rw [h2] at this
   exact this
theorem aw.back (h:aw B m lh w) {m1:ao} {lh1:List ac} {w':World} (h':aw ⟨w,w,fun _=>False,[]⟩ m1 lh1 w'):aw B m lh w':=by
 have hold:∀ b,b < w.heap.size->w'.heap[b]? = w.heap[b]? := fun b hb=>h'.old b hb
 have hsz:w.heap.size<=w'.heap.size:=h'.size
 refine ⟨h'.os.trans h.os,h'.tape.trans h.tape,h'.output.trans h.output,Nat.le_trans h.size hsz,fun b hb=>?_,Nat.le_trans h.fsize hsz,fun b hb ho=>?_,fun k cs ty hk=>?_,h.inj,h.dom,h.dead,fun k b hb=>Nat.lt_of_lt_of_le (h.rng k b hb) hsz⟩
 ·rw [hold b (Nat.lt_of_lt_of_le hb h.size)]; exact h.old b hb
 ·rw [hold b (Nat.lt_of_lt_of_le hb h.fsize)]; exact h.kept b hb ho
 ·obtain ⟨b,vs,h1,h2,h3,h4⟩:=h.loc k cs ty hk
  exact ⟨b,vs,h1,h2,by rw [hold b (h.rng k b h1)]; exact h3,h4⟩
end
end Go.Sx
namespace Go.Dx
open Go.Sx
structure Nu where
 m:Nat->Option (Option (Nat × Nat × Nat))
 z:List ac
instance:CoeFun Nu fun _=>Nat->Option (Option (Nat × Nat × Nat)):=⟨Nu.m⟩
def zle (a b:List ac):Prop:=∀ (k:Nat) (az:List ab) (ty:TypeId),a[k]? = some (ac.cells az ty)->b[k]? = some (ac.cells az ty)
theorem jw (a:List ac):zle a a:=fun _ _ _ h=>h
theorem zF (a:List ac):zle [] a:=fun _ _ _ h=>by simp at h
theorem nJ {a b c:List ac} (h:zle a b) (k:zle b c):zle a c:=fun i az ty hx=>k i az ty (h i az ty hx)
def Nu.nil:Nu:=⟨fun _=>none,[]⟩
def Nu.sub (ν ν':Nu):Prop:=(∀ k x,ν k=some x->ν' k=some x)/\zle ν.z ν'.z
theorem Nu.nil_sub (ν:Nu):Nu.nil.sub ν:=⟨fun _ _ h=>by (cases h),zF _⟩
theorem Nu.sub_refl (ν:Nu):ν.sub ν:=⟨fun _ _ h=>h,jw _⟩
theorem Nu.sub_trans {a b c:Nu} (h:a.sub b) (k:b.sub c):a.sub c:=⟨fun i x hx=>k.1 i x (h.1 i x hx),nJ h.2 k.2⟩
def okQ (lh:List ac):Option Ptr->Prop
 | some (.l k off)=>∃ cs ty,lh[k]? = some (ac.cells cs ty)/\off<=cs.length
 | _=>True
mutual
def vr (w0:World) (lh:List ac) (ν:Nu):V->ab->Prop
 | .int k n,a=>a=.int k n
 | .bool b,a=>a=.bool b
 | .kb b,a=>a=.bool b
 | .str s,a=>a=.str s
 | .agg cs,a=>∃ az,a=.agg az/\vrs w0 lh ν cs az
 | .tup cs,a=>∃ az,a=.tup az/\vrs w0 lh ν cs az
 | .fn f xs ys,a=>∃ us vs,a=.fn (.func f) us vs/\vrs w0 lh ν xs us/\vrs w0 lh ν ys vs
 | .sl n f,a=>∃ p c esz,a=.slice p n c/\n<=c/\n<=9223372036854775807/\okQ lh p/\∀ i,i < n->∃ q az,p=some q/\lds w0 lh (q.add (i * esz)) esz=some az/\vrs w0 lh Nu.nil (f i) az/\(f i).all V.fc=true
 | .sq n m f,a=>∃ p c esz,a=.slice p n c/\(n<=c/\n<=m)/\n<=9223372036854775807/\okQ lh p/\∀ i,i < n->∃ q az,p=some q/\lds w0 lh (q.add (i * esz)) esz=some az/\vrs w0 lh Nu.nil (f i) az/\(f i).all V.fc=true
 | .pd cs,a=>∃ p az,a=.ptr (some p)/\okP lh (some p)/\lds w0 lh p cs.length=some az/\vrs w0 lh Nu.nil cs az/\cs.all V.fc=true
 | .pl k off,a=>∃ b c e,ν k=some (some (b,c,e))/\a=.ptr (some (.l b off))
 | .pe k i j,a=>∃ b c e,ν k=some (some (b,c,e))/\a=.ptr (some (.l b (i * e+j)))
 | .ss k off n c,a=>∃ b c' e,ν k=some (some (b,c',e))/\a=.slice (some (.l b off)) n c
 | .gs k n,a=>(ν k=some none/\n=0/\a=.slice none 0 0) ∨ ∃ b c e,ν k=some (some (b,c,e))/\a=.slice (some (.l b 0)) n c/\n<=c
 | .ns,a=>a=.slice none 0 0
 | .np,a=>a=.ptr none
 | .any,_=>True
 | .gd b v,a=>(b=true->vr w0 lh ν v a)/\(b=false->∃ l,a=.tup l)
 | .yl l,a=>a=jP l
 | .go k off n,a=>(ν k=some none/\n=0/\off=0/\a=.slice none 0 0) ∨ ∃ b c e o,ν k=some (some (b,c,e))/\a=.slice (some (.l b o)) n (c - off)/\(off+n<=c/\o<=c * e)/\(0 < n->o=off * e)
def vrs (w0:World) (lh:List ac) (ν:Nu):List V->List ab->Prop
 | [],az=>az=[]
 | v::vs,az=>∃ x xs,az=x::xs/\vr w0 lh ν v x/\vrs w0 lh ν vs xs
end
section lists
variable {α β:Type}
theorem aF:∀ (l:List α) (i:Nat),nth l i=l[i]?
 | [],_=>by simp [nth]
 | _::_,0=>by simp [nth]
 | _::l,i+1=>by simp [nth,aF l i]
theorem eH:∀ (l:List α) (i:Nat) (b:α),uG l i b=l.set i b
 | [],_,_=>rfl
 | _::_,0,_=>rfl
 | _::l,i+1,b=>by simp [uG,eH l i b]
theorem lZ:∀ (l:List α) (b:α),wB l b=l++[b]
 | [],_=>rfl
 | _::l,b=>by simp [wB,lZ l b]
theorem gQ:∀ (l b:List α),rj l b=l++b
 | [],_=>rfl
 | _::l,b=>by simp [rj,gQ l b]
theorem ba:∀ (l:List α),aY l=l.length
 | []=>rfl
 | _::l=>by simp [aY,ba l]
theorem qi:∀ {n:Nat} {l r:List α},lY n l=some r->n<=l.length/\r=l.drop n
 | 0,l,r,h=>by simp [lY] at h; simp [h]
 | n+1,[],r,h=>by simp [lY] at h
 | n+1,_::l,r,h=>by
   simp only [lY] at h
   obtain ⟨h1,h2⟩:=qi h
   exact ⟨by simp; exact h1,by simpa using h2⟩
theorem qv:∀ {n:Nat} {l r:List α},qx n l=some r->n<=l.length/\r=l.take n
 | 0,l,r,h=>by simp [qx] at h; simp [h]
 | n+1,[],r,h=>by simp [qx] at h
 | n+1,a::l,r,h=>by
   simp only [qx] at h
   split at h
   ·rename_i r' hr
    cases h
    obtain ⟨h1,h2⟩:=qv hr
    exact ⟨by simp; exact h1,by simp [h2]⟩
   ·cases h
theorem mb {l r:List α} {off n:Nat} (h:yw l off n=some r):off+n<=l.length/\r=(l.drop off).take n:=by
 unfold yw at h
 split at h
 ·rename_i r' hr
  obtain ⟨h1,rfl⟩:=qi hr
  obtain ⟨h3,rfl⟩:=qv h
  simp at h3
  exact ⟨by omega,rfl⟩
 ·cases h
end lists
section
variable {w0:World} {lh:List ac} {ν ν':Nu}
mutual
theorem lH (hn:∀ k x,ν k=some x->ν' k=some x):∀ (v:V) (a:ab),vr w0 lh ν v a->vr w0 lh ν' v a
 | .int ..,a,h=>by simp only [vr] at h ⊢; exact h
 | .bool ..,a,h=>by simp only [vr] at h ⊢; exact h
 | .kb ..,a,h=>by simp only [vr] at h ⊢; exact h
 | .str ..,a,h=>by simp only [vr] at h ⊢; exact h
 | .agg cs,a,h=>by simp only [vr] at h ⊢; obtain ⟨az,h1,h2⟩:=h; exact ⟨az,h1,eM hn cs az h2⟩
 | .tup cs,a,h=>by simp only [vr] at h ⊢; obtain ⟨az,h1,h2⟩:=h; exact ⟨az,h1,eM hn cs az h2⟩
 | .fn f xs ys,a,h=>by simp only [vr] at h ⊢; obtain ⟨us,vs,h1,h2,h3⟩:=h; exact ⟨us,vs,h1,eM hn xs us h2,eM hn ys vs h3⟩
 | .sl n f,a,h=>by
   simp only [vr] at h ⊢
   obtain ⟨p,c,esz,h1,h2,h3,h4,h5⟩:=h
   exact ⟨p,c,esz,h1,h2,h3,h4,fun i hi=>let ⟨q,az,g1,g2,g3⟩:=h5 i hi; ⟨q,az,g1,g2,g3⟩⟩
 | .sq n m f,a,h=>by
   simp only [vr] at h ⊢
   obtain ⟨p,c,esz,h1,h2,h3,h4,h5⟩:=h
   exact ⟨p,c,esz,h1,h2,h3,h4,fun i hi=>let ⟨q,az,g1,g2,g3⟩:=h5 i hi; ⟨q,az,g1,g2,g3⟩⟩
 | .pd cs,a,h=>by simp only [vr] at h ⊢; obtain ⟨p,az,h1,h2,h3,h4⟩:=h; exact ⟨p,az,h1,h2,h3,h4⟩
 | .pl k off,a,h=>by simp only [vr] at h ⊢; obtain ⟨b,c,e,h1,h2⟩:=h; exact ⟨b,c,e,hn _ _ h1,h2⟩
 | .pe k i j,a,h=>by simp only [vr] at h ⊢; obtain ⟨b,c,e,h1,h2⟩:=h; exact ⟨b,c,e,hn _ _ h1,h2⟩
 | .ss k off n c,a,h=>by simp only [vr] at h ⊢; obtain ⟨b,c',e,h1,h2⟩:=h; exact ⟨b,c',e,hn _ _ h1,h2⟩
 | .gs k n,a,h=>by
   simp only [vr] at h ⊢
   rcases h with ⟨h1,h2⟩ | ⟨b,c,e,h1,h2⟩
   ·exact .inl ⟨hn _ _ h1,h2⟩
   ·exact .inr ⟨b,c,e,hn _ _ h1,h2⟩
 | .ns,a,h=>by simp only [vr] at h ⊢; exact h
 | .np,a,h=>by simp only [vr] at h ⊢; exact h
 | .any,a,h=>by simp only [vr]
 | .gd b v,a,h=>by simp only [vr] at h ⊢; exact ⟨fun e=>lH hn v a (h.1 e),h.2⟩
 | .yl l,a,h=>by simp only [vr] at h ⊢; exact h
 | .go k off n,a,h=>by
   simp only [vr] at h ⊢
   rcases h with ⟨h1,h2⟩ | ⟨b,c,e,o,h1,h2⟩
   ·exact .inl ⟨hn _ _ h1,h2⟩
   ·exact .inr ⟨b,c,e,o,hn _ _ h1,h2⟩
theorem eM (hn:∀ k x,ν k=some x->ν' k=some x):∀ (vs:List V) (az:List ab),vrs w0 lh ν vs az->vrs w0 lh ν' vs az
 | [],az,h=>by simp only [vrs] at h ⊢; exact h
 | v::vs,az,h=>by simp only [vrs] at h ⊢; obtain ⟨x,xs,h1,h2,h3⟩:=h; exact ⟨x,xs,h1,lH hn v x h2,eM hn vs xs h3⟩
end
theorem AT (hn:ν.sub ν') (v:V) (a:ab) (h:vr w0 lh ν v a):vr w0 lh ν' v a:=lH hn.1 v a h
theorem gm (hn:ν.sub ν') (v:List V) (a:List ab) (h:vrs w0 lh ν v a):vrs w0 lh ν' v a:=eM hn.1 v a h
theorem qn {lh lh':List ac} (hz:zle lh lh') {p:Ptr} {n:Nat} {az:List ab} (h:lds w0 lh p n=some az):lds w0 lh' p n=some az:=by
 cases p with
 | g a=>exact h
 | l k off =>
   simp only [lds] at h ⊢
   cases hk:lh[k]? with
   | none=>rw [hk] at h; cases h
   | some o =>
     cases o with
     | dead=>rw [hk] at h; cases h
     | hid=>rw [hk] at h; cases h
     | cells cs ty=>rw [hz k cs ty hk]; rw [hk] at h; exact h
theorem Hu {lh lh':List ac} (hz:zle lh lh') {p:Option Ptr} (h:okP lh p):okP lh' p:=by
 cases p with
 | none=>trivial
 | some p =>
   cases p with
   | g a=>trivial
   | l k off =>
     simp only [okP] at h ⊢
     cases hk:lh[k]? with
     | none=>rw [hk] at h; cases h
     | some o =>
       cases o with
       | dead=>rw [hk] at h; cases h
       | hid=>rw [hk] at h; cases h
       | cells cs ty=>rw [hz k cs ty hk]; rfl
theorem Ei {lh lh':List ac} (hz:zle lh lh') {p:Option Ptr} (h:okQ lh p):okQ lh' p:=by
 cases p with
 | none=>trivial
 | some p =>
   cases p with
   | g a=>trivial
   | l k off=>obtain ⟨cs,ty,h1,h2⟩:=h; exact ⟨cs,ty,hz k cs ty h1,h2⟩
theorem Ge {lh:List ac} {p:Ptr} {n:Nat} {az:List ab} (h:lds w0 lh p n=some az):okP lh (some p):=by
 cases p with
 | g a=>trivial
 | l k off =>
   simp only [lds] at h
   simp only [okP]
   cases hk:lh[k]? with
   | none=>rw [hk] at h; cases h
   | some o =>
     cases o with
     | dead=>rw [hk] at h; cases h
     | hid=>rw [hk] at h; cases h
     | cells cs ty=>rfl
mutual
theorem mE {lh lh':List ac} (hz:zle lh lh'):∀ {ν:Nu} (v:V) (a:ab),vr w0 lh ν v a->vr w0 lh' ν v a
 | _,.int ..,a,h=>by simp only [vr] at h ⊢; exact h
 | _,.bool ..,a,h=>by simp only [vr] at h ⊢; exact h
 | _,.kb ..,a,h=>by simp only [vr] at h ⊢; exact h
 | _,.str ..,a,h=>by simp only [vr] at h ⊢; exact h
 | _,.agg cs,a,h=>by simp only [vr] at h ⊢; obtain ⟨az,h1,h2⟩:=h; exact ⟨az,h1,ij hz cs az h2⟩
 | _,.tup cs,a,h=>by simp only [vr] at h ⊢; obtain ⟨az,h1,h2⟩:=h; exact ⟨az,h1,ij hz cs az h2⟩
 | _,.fn f xs ys,a,h=>by simp only [vr] at h ⊢; obtain ⟨us,vs,h1,h2,h3⟩:=h; exact ⟨us,vs,h1,ij hz xs us h2,ij hz ys vs h3⟩
 | _,.sl n f,a,h=>by
   simp only [vr] at h ⊢
   obtain ⟨p,c,esz,h1,h2,h3,h4,h5⟩:=h
   exact ⟨p,c,esz,h1,h2,h3,Ei hz h4,fun i hi=>let ⟨q,az,g1,g2,g3,g4⟩:=h5 i hi; ⟨q,az,g1,qn hz g2,ij hz (f i) az g3,g4⟩⟩
 | _,.sq n m f,a,h=>by
   simp only [vr] at h ⊢
   obtain ⟨p,c,esz,h1,h2,h3,h4,h5⟩:=h
   exact ⟨p,c,esz,h1,h2,h3,Ei hz h4,fun i hi=>let ⟨q,az,g1,g2,g3,g4⟩:=h5 i hi; ⟨q,az,g1,qn hz g2,ij hz (f i) az g3,g4⟩⟩
 | _,.pd cs,a,h=>by simp only [vr] at h ⊢; obtain ⟨p,az,h1,h2,h3,h4,h5⟩:=h; exact ⟨p,az,h1,Hu hz h2,qn hz h3,ij hz cs az h4,h5⟩
 | _,.pl k off,a,h=>by simp only [vr] at h ⊢; exact h
 | _,.pe k i j,a,h=>by simp only [vr] at h ⊢; exact h
 | _,.ss k off n c,a,h=>by simp only [vr] at h ⊢; exact h
 | _,.gs k n,a,h=>by simp only [vr] at h ⊢; exact h
 | _,.ns,a,h=>by simp only [vr] at h ⊢; exact h
 | _,.np,a,h=>by simp only [vr] at h ⊢; exact h
 | _,.any,a,h=>by simp only [vr]
 | _,.gd b v,a,h=>by simp only [vr] at h ⊢; exact ⟨fun e=>mE hz v a (h.1 e),h.2⟩
 | _,.yl l,a,h=>by simp only [vr] at h ⊢; exact h
 | _,.go k off n,a,h=>by simp only [vr] at h ⊢; exact h
theorem ij {lh lh':List ac} (hz:zle lh lh'):∀ {ν:Nu} (vs:List V) (az:List ab),vrs w0 lh ν vs az->vrs w0 lh' ν vs az
 | _,[],az,h=>by simp only [vrs] at h ⊢; exact h
 | _,v::vs,az,h=>by simp only [vrs] at h ⊢; obtain ⟨x,xs,h1,h2,h3⟩:=h; exact ⟨x,xs,h1,mE hz v x h2,ij hz vs xs h3⟩
end
theorem G0 (hn:ν.sub ν') (v:V) (a:ab) (h:vr w0 ν.z ν v a):vr w0 ν'.z ν' v a:=AT hn v a (mE hn.2 v a h)
theorem yg (hn:ν.sub ν') (v:List V) (a:List ab) (h:vrs w0 ν.z ν v a):vrs w0 ν'.z ν' v a:=gm hn v a (ij hn.2 v a h)
theorem aU:∀ {vs:List V} {az:List ab},vrs w0 lh ν vs az->az.length=vs.length
 | [],_,h=>by simp only [vrs] at h; subst h; rfl
 | _::_,_,h=>by simp only [vrs] at h; obtain ⟨x,xs,rfl,_,h3⟩:=h; simp [aU h3]
theorem i7:∀ {vs:List V} {az:List ab} {i:Nat} {v:V},vrs w0 lh ν vs az->vs[i]? = some v->∃ a,az[i]? = some a/\vr w0 lh ν v a
 | [],_,_,_,_,h=>by simp at h
 | _::_,_,0,_,hr,h=>by
   simp only [vrs] at hr; obtain ⟨x,xs,rfl,h2,_⟩:=hr
   simp at h; subst h; exact ⟨x,rfl,h2⟩
 | _::_,_,i+1,_,hr,h=>by
   simp only [vrs] at hr; obtain ⟨x,xs,rfl,_,h3⟩:=hr
   simp at h
   obtain ⟨a,h4,h5⟩:=i7 h3 h
   exact ⟨a,by simpa using h4,h5⟩
theorem dX:∀ {vs:List V} {az:List ab} (n:Nat),vrs w0 lh ν vs az->vrs w0 lh ν (vs.drop n) (az.drop n)
 | vs,az,0,h=>by simpa using h
 | [],az,n+1,h=>by simp only [vrs] at h; subst h; simp [vrs]
 | _::_,az,n+1,h=>by simp only [vrs] at h; obtain ⟨x,xs,rfl,_,h3⟩:=h; simpa using dX n h3
theorem ew:∀ {vs:List V} {az:List ab} (n:Nat),vrs w0 lh ν vs az->vrs w0 lh ν (vs.take n) (az.take n)
 | vs,az,0,h=>by simp [vrs]
 | [],az,n+1,h=>by simp only [vrs] at h; subst h; simp [vrs]
 | _::_,az,n+1,h=>by
   simp only [vrs] at h; obtain ⟨x,xs,rfl,h2,h3⟩:=h
   simp only [List.take_succ_cons,vrs]; exact ⟨_,_,rfl,h2,ew n h3⟩
theorem gp:∀ {vs vs':List V} {az as':List ab},vrs w0 lh ν vs az->vrs w0 lh ν vs' as'->vrs w0 lh ν (vs++vs') (az++as')
 | [],_,_,_,h,h'=>by simp only [vrs] at h; subst h; simpa using h'
 | _::_,_,_,_,h,h'=>by
   simp only [vrs] at h; obtain ⟨x,xs,rfl,h2,h3⟩:=h
   simp only [List.cons_append,vrs]; exact ⟨_,_,rfl,h2,gp h3 h'⟩
theorem kc {α:Type}:∀ {cs:List α} {off:Nat} {xs r:List α},wrV cs off xs=some r->off+xs.length<=cs.length/\r.length=cs.length
 | cs,0,[],r,h=>by simp [wrV] at h; simp [h]
 | [],0,x::xs,r,h=>by simp [wrV] at h
 | c::cs,0,x::xs,r,h=>by
   simp only [wrV] at h
   split at h
   ·rename_i r' hr
    cases h
    have:=kc hr
    simp at this ⊢; omega
   ·cases h
 | [],off+1,xs,r,h=>by simp [wrV] at h
 | c::cs,off+1,xs,r,h=>by
   simp only [wrV] at h
   split at h
   ·rename_i r' hr
    cases h
    have:=kc hr
    simp at this ⊢; omega
   ·cases h
theorem vk (c:ab):∀ (xs cs:List ab) (off:Nat),wr (c::cs) (off+1) xs=c::wr cs off xs
 | [],_,_=>rfl
 | x::xs,cs,off=>by simp only [wr,List.set_cons_succ]; exact vk c xs _ _
theorem p5:∀ {cs:List V} {off:Nat} {xs:List V} {us:List ab} {az:List ab} {r:List V},vrs w0 lh ν cs az->vrs w0 lh ν xs us->wrV cs off xs=some r->vrs w0 lh ν r (wr az off us)
 | cs,0,[],us,az,r,h,hx,hw=>by
   simp only [vrs] at hx; subst hx
   simp [wrV] at hw; subst hw; exact h
 | [],0,x::xs,us,az,r,h,hx,hw=>by simp [wrV] at hw
 | c::cs,0,x::xs,us,az,r,h,hx,hw=>by
   simp only [vrs] at hx h
   obtain ⟨u,us,rfl,h1,h2⟩:=hx
   obtain ⟨a,az,rfl,h3,h4⟩:=h
   simp only [wrV] at hw
   split at hw
   ·rename_i r' hr
    cases hw
    simp only [wr,List.set_cons_zero]
    rw [vk]
    simp only [vrs]
    exact ⟨_,_,rfl,h1,p5 h4 h2 hr⟩
   ·cases hw
 | [],off+1,xs,us,az,r,h,hx,hw=>by simp [wrV] at hw
 | c::cs,off+1,xs,us,az,r,h,hx,hw=>by
   simp only [vrs] at h
   obtain ⟨a,az,rfl,h3,h4⟩:=h
   simp only [wrV] at hw
   split at hw
   ·rename_i r' hr
    cases hw
    rw [vk]
    simp only [vrs]
    exact ⟨_,_,rfl,h3,p5 h4 hx hr⟩
   ·cases hw
theorem DU (a:ab):vr w0 lh ν (ofA a) a:=by
 unfold ofA
 split <;> simp only [vr,vrs]
 exact ⟨_,_,rfl,rfl,rfl⟩
theorem kr:∀ l:List ab,vrs w0 lh ν (l.map ofA) l
 | []=>by simp [vrs]
 | a::l=>by simp only [List.map_cons,vrs]; exact ⟨_,_,rfl,DU a,kr l⟩
theorem At {v:V} {a:ab} (h:vr w0 lh ν v a) (h1:v.one=true):a.one=true:=by
 cases v <;> simp only [vr] at h
 case gs =>
  rcases h with ⟨_,_,h⟩ | ⟨_,_,_,_,h,_⟩ <;> (subst h; rfl)
 case go =>
  rcases h with ⟨_,_,_,h⟩ | ⟨_,_,_,_,_,h,_⟩ <;> (subst h; rfl)
 all_goals first
  | (simp [V.one] at h1; done)
  | (subst h; rfl)
  | (obtain ⟨_,_,rfl,_⟩:=h; rfl)
  | (obtain ⟨_,_,_,rfl,_⟩:=h; rfl)
  | (obtain ⟨_,_,_,_,rfl⟩:=h; rfl)
theorem gc:∀ {vs:List V} {az:List ab},vrs w0 lh ν vs az->vs.all V.one=true->az.all ab.one=true
 | [],_,h,_=>by simp only [vrs] at h; subst h; rfl
 | _::_,_,h,h1=>by
   simp only [vrs] at h; obtain ⟨x,xs,rfl,h2,h3⟩:=h
   simp only [List.all_cons,Bool.and_eq_true] at h1 ⊢
   exact ⟨At h2 h1.1,gc h3 h1.2⟩
theorem qB {v:V} {a:ab} (h:vr w0 lh ν v a) (h1:v.flat=true):a.flat=true/\vrs w0 lh ν v.cells a.cells:=by
 by_cases hv:∃ cs,v=.agg cs
 ·obtain ⟨cs,rfl⟩:=hv
  simp only [vr] at h; obtain ⟨az,rfl,h2⟩:=h
  exact ⟨gc h2 h1,h2⟩
 ·have h2:v.one=true:=by
   cases v <;> first | exact h1 | exact (hv ⟨_,rfl⟩).elim
  have h3:=At h h2
  have h4:v.cells=[v]:=by cases v <;> first | rfl | exact (hv ⟨_,rfl⟩).elim
  have h5:a.cells=[a]/\a.flat=true:=by
   cases a <;> first | exact ⟨rfl,h3⟩ | (simp [ab.one] at h3)
  refine ⟨h5.2,?_⟩
  rw [h4,h5.1]
  simp only [vrs]; exact ⟨_,_,rfl,h,rfl⟩
structure slR (w0:World) (ν:Nu) (N:Nat) (e:Env) (sl:List ab):Prop where
 len:sl.length=N
 at':∀ i,vr w0 ν.z ν (cH e i) (sl.getD i .any)
theorem slR.mono {N:Nat} {e:Env} {sl:List ab} (h:slR w0 ν N e sl) (hn:ν.sub ν'):slR w0 ν' N e sl:=⟨h.len,fun i=>G0 hn _ _ (h.at' i)⟩
theorem slR.arg {N:Nat} {e:Env} {sl:List ab} (h:slR w0 ν N e sl) (x:Arg):vr w0 ν.z ν (bW e x) (arg sl x):=by
 cases x with
 | t i=>exact h.at' i
 | k a=>exact DU a
theorem eJ (d:Nat) (v:V) (e:Env) (i:Nat):cH ((d,v)::e) i=if i=d then v else cH e i:=by
 simp only [cH]
 by_cases h:i=d
 ·subst h; simp
 ·rw [if_neg h]
  have:Nat.beq i d=false:=by
   cases hb:Nat.beq i d with
   | false=>rfl
   | true=>exact (h (Nat.eq_of_beq_eq_true hb)).elim
  rw [this]; rfl
theorem slR.set {N:Nat} {e:Env} {sl:List ab} (h:slR w0 ν N e sl) {d:Nat} (hd:d < N) {v:V} {a:ab} (hv:vr w0 ν.z ν v a):slR w0 ν N ((d,v)::e) (sl.set d a):=by
 refine ⟨by simpa using h.len,fun i=>?_⟩
 rw [eJ]
 by_cases hi:i=d
 ·subst hi
  have:=h.len
  rw [if_pos rfl]
  simp [List.getD,List.getElem?_set,show i < sl.length by omega]
  exact hv
 ·rw [if_neg hi]
  simp only [List.getD,List.getElem?_set]
  rw [if_neg (fun e=>hi e.symm)]
  exact h.at' i
theorem slR.put {N:Nat} {e:Env} {sl:List ab} (h:slR w0 ν N e sl) (d:Option Nat) (hd:∀ i,d=some i->i < N) {v:V} {a:ab} (hv:vr w0 ν.z ν v a):slR w0 ν N (dE e d v) (cA sl d a):=by
 cases d with
 | none=>exact h
 | some d=>exact h.set (hd d rfl) hv
theorem slR.know {N:Nat} {e:Env} {sl:List ab} (h:slR w0 ν N e sl) {d:Nat} {v:V} (hv:vr w0 ν.z ν v (sl.getD d .any)):slR w0 ν N ((d,v)::e) sl:=by
 refine ⟨h.len,fun i=>?_⟩
 rw [eJ]
 split
 ·rename_i hi; subst hi; exact hv
 ·exact h.at' i
theorem slR.args {N:Nat} {e:Env} {sl:List ab} (h:slR w0 ν N e sl):∀ xs:List Arg,vrs w0 ν.z ν (xs.map (bW e)) (xs.map (Sx.arg sl))
 | []=>by simp [vrs]
 | x::xs=>by simp only [List.map_cons,vrs]; exact ⟨_,_,rfl,h.arg x,h.args xs⟩
end
abbrev db:=Nat × Nat->wv->Env->List O->Option Ex->(Ex->Env->List O->Option Ex->Prop)->Prop
def sat {α:Type} (LP:db):T α->(α->Prop)->Prop
 | .ret a,Q=>Q a
 | .br b x y,Q=>(b=true->sat LP x Q)/\(b=false->sat LP y Q)
 | .ob b x,Q=>b=true/\sat LP x Q
 | .obi c d x,Q=>(c=true->d=true)/\sat LP x Q
 | .obp p x,Q=>p/\sat LP x Q
 | .obq a b x,Q=>a=b/\sat LP x Q
 | .fail _,_=>False
 | .loop fr body e h g k,Q=>LP fr body e h g fun ex e h g=>sat LP (k ex e h g) Q
 | .all f,Q=>∀ l,sat LP (f l) Q
 | .und x y,Q=>sat LP x Q/\sat LP y Q
 | .asm p x,Q=>p->sat LP x Q
def aA (h:List O) (k:Nat):Prop:=cB h k=true
def vq (w0:World) (ν:Nu) (nV nS:Nat) (lh:List ac) (k:Nat):O->Prop
 | .cells cs ty=>∃ b c e az,ν k=some (some (b,c,e))/\lh[b]? = some (.cells az ty)/\vrs w0 ν.z ν cs az
 | .gl esz n f ty=>(ν k=some none/\n=0) ∨ ∃ b c az,ν k=some (some (b,c,esz))/\lh[b]? = some (.cells az ty)/\az.length=c * esz/\(n<=c/\n<=9223372036854775807)/\∀ i,i < n->okE esz (f i)=true/\vrs w0 ν.z ν (f i) ((az.drop (i * esz)).take esz)
 | .dead=>ν k=none/\nV<=k/\lh[nS+(k - nV)]? = some .dead
 | .hid=>True
structure HR (w0:World) (ν:Nu) (nV nS:Nat) (h:List O) (lh:List ac):Prop where
 blk:∀ k o,h[k]? = some o->vq w0 ν nV nS lh k o
 inj:∀ k k' x x',aA h k->aA h k'->ν k=some (some x)->ν k'=some (some x')->x.1=x'.1->k=k'
 dom:∀ k,h.length<=k->ν k=none
 rng:∀ k x,ν k=some (some x)->x.1 < lh.length
 zl:zle ν.z lh
 zn:∀ k x,aA h k->ν k=some (some x)->isCells ν.z[x.1]? = false
section
variable {w0:World} {ν ν':Nu} {nV nS:Nat} {h h':List O} {lh lh':List ac} {α:Type} {LP:db} {Q:α->Prop}
theorem cy {k:Nat} (hk:aA h k):(∃ cs ty,h[k]? = some (.cells cs ty)) ∨ ∃ e n f ty,h[k]? = some (.gl e n f ty):=by
 unfold aA cB at hk
 rw [aF] at hk
 split at hk
 ·rename_i cs ty he; exact .inl ⟨cs,ty,he⟩
 ·rename_i e n f ty he; exact .inr ⟨e,n,f,ty,he⟩
 ·cases hk
theorem bT {k:Nat} {cs:List V} {ty:TypeId} (hk:h[k]? = some (.cells cs ty)):aA h k:=by
 unfold aA cB; rw [aF,hk]
theorem di {k e n:Nat} {f:Nat->List V} {ty:TypeId} (hk:h[k]? = some (.gl e n f ty)):aA h k:=by
 unfold aA cB; rw [aF,hk]
theorem bS {k:Nat} {o:O} (hn:ν.sub ν') (hd:o ≠ .dead) (hl:∀ b az ty,lh[b]? = some (.cells az ty)->(∃ c e,ν k=some (some (b,c,e)))->lh'[b]? = some (.cells az ty)) (hb:vq w0 ν nV nS lh k o):vq w0 ν' nV nS lh' k o:=by
 cases o with
 | cells cs ty =>
   obtain ⟨b,c,e,az,h1,h2,h3⟩:=hb
   exact ⟨b,c,e,az,hn.1 _ _ h1,hl _ _ _ h2 ⟨c,e,h1⟩,yg hn _ _ h3⟩
 | gl esz n f ty =>
   rcases hb with ⟨h1,h2⟩ | ⟨b,c,az,h1,h2,h3,h4,h5⟩
   ·exact .inl ⟨hn.1 _ _ h1,h2⟩
   ·exact .inr ⟨b,c,az,hn.1 _ _ h1,hl _ _ _ h2 ⟨c,esz,h1⟩,h3,h4,fun i hi=>⟨(h5 i hi).1,yg hn _ _ (h5 i hi).2⟩⟩
 | dead=>exact (hd rfl).elim
 | hid=>trivial
def upd (ν:Nu) (p:Nat) (x:Option (Nat × Nat × Nat)):Nu:=⟨fun k=>if k=p then some x else ν k,ν.z⟩
theorem cg (ν:Nu) (p:Nat) (x:Option (Nat × Nat × Nat)) (k:Nat):upd ν p x k=if k=p then some x else ν k:=rfl
theorem dN {p:Nat} {x:Option (Nat × Nat × Nat)} (hp:ν p=none):ν.sub (upd ν p x):=⟨fun k y hk=>by
 rw [cg]
 have:k ≠ p:=fun e=>by subst e; rw [hp] at hk; cases hk
 rw [if_neg this]; exact hk,jw _⟩
theorem bY (ν:Nu) (p:Nat) (x:Option (Nat × Nat × Nat)):upd ν p x p=some x:=by rw [cg,if_pos rfl]
theorem iu {o:Option ac} (h:isCells o=false) (az:List ab) (ty:TypeId):o ≠ some (.cells az ty):=fun e=>by subst e; cases h
theorem Ag {z lh:List ac} (h:zle z lh) {b:Nat} (hb:isCells lh[b]? = false):isCells z[b]? = false:=by
 cases hz:z[b]? with
 | none=>rfl
 | some o =>
   cases o with
   | dead=>rfl
   | hid=>rfl
   | cells az ty=>rw [h b az ty hz] at hb; cases hb
theorem HR.put (hh:HR w0 ν nV nS h lh) {p b c e:Nat} {o:O} {az:List ab} {ty:TypeId} (hp:ν p=none) (hpl:p < h'.length)
 (ho:h'[p]? = some o) (hoth:∀ k,k ≠ p->h'[k]? = h[k]?) (hlb:lh'[b]? = some (.cells az ty)) (hlo:∀ j,j ≠ b->lh'[j]? = lh[j]?) (hfree:isCells lh[b]? = false)
 (hlen:lh.length<=lh'.length) (hdead:∀ k,h[k]? = some .dead->k ≠ p->nS+(k - nV) ≠ b) (hnd:o ≠ .dead)
 (hbr:vq w0 (upd ν p (some (b,c,e))) nV nS lh' p o):HR w0 (upd ν p (some (b,c,e))) nV nS h' lh'/\ν.sub (upd ν p (some (b,c,e))):=by
 have hs:=dN (x:=some (b,c,e)) hp
 have hlive:∀ k,k ≠ p->aA h' k->aA h k:=fun k hk hl=>by unfold aA cB at *; rw [aF] at *; rw [hoth k hk] at hl; exact hl
 have hcell:∀ k x,aA h k->ν k=some (some x)->x.1 ≠ b:=fun k x hl hx e=>by
  subst e
  rcases cy hl with ⟨cs,t,hk⟩ | ⟨_,_,_,_,hk⟩
  ·obtain ⟨b',c',e',as',h1,h2,_⟩:=hh.blk k _ hk
   rw [hx] at h1; cases h1; rw [h2] at hfree; cases hfree
  ·rcases hh.blk k _ hk with ⟨h1,_⟩ | ⟨b',c',as',h1,h2,_⟩
   ·rw [hx] at h1; cases h1
   ·rw [hx] at h1; cases h1; rw [h2] at hfree; cases hfree
 have hzb:=Ag hh.zl hfree
 refine ⟨⟨fun k o' hk=>?_,fun k k' x x' h1 h2 h3 h4 h5=>?_,fun k hk=>?_,fun k x hk=>?_,fun j as' ty' hj=>?_,fun k x hk hx=>?_⟩,hs⟩
 ·by_cases e1:k=p
  ·subst e1; rw [ho] at hk; cases hk; exact hbr
  ·rw [hoth k e1] at hk
   by_cases hd:o'=.dead
   ·subst hd
    obtain ⟨g1,g2,g3⟩:=hh.blk k _ hk
    exact ⟨by rw [cg,if_neg e1]; exact g1,g2,by rw [hlo _ (hdead k hk e1)]; exact g3⟩
   ·refine bS hs hd (fun b' as' ty' g1 _=>?_) (hh.blk k _ hk)
    rw [hlo b' (fun e2=>by subst e2; rw [g1] at hfree; cases hfree)]; exact g1
 ·rw [cg] at h3 h4
  by_cases e1:k=p <;> by_cases e2:k'=p
  ·rw [e1,e2]
  ·rw [if_pos e1] at h3; rw [if_neg e2] at h4; cases h3
   exact absurd h5.symm (hcell k' x' (hlive k' e2 h2) h4)
  ·rw [if_neg e1] at h3; rw [if_pos e2] at h4; cases h4
   exact absurd h5 (hcell k x (hlive k e1 h1) h3)
  ·rw [if_neg e1] at h3; rw [if_neg e2] at h4
   exact hh.inj k k' x x' (hlive k e1 h1) (hlive k' e2 h2) h3 h4 h5
 ·have e1:k ≠ p:=fun e1=>by subst e1; omega
  rw [cg,if_neg e1]
  apply hh.dom
  have:=hoth k e1
  rw [List.getElem?_eq_none hk] at this
  exact List.getElem?_eq_none_iff.1 this.symm
 ·rw [cg] at hk
  split at hk
  ·cases hk; exact (List.getElem?_eq_some_iff.1 hlb).1
  ·exact Nat.lt_of_lt_of_le (hh.rng k x hk) hlen
 ·have hj':ν.z[j]? = some (.cells as' ty'):=hj
  rw [hlo j fun e=>by rw [e] at hj'; exact iu hzb _ _ hj']
  exact hh.zl j as' ty' hj'
 ·rw [cg] at hx
  by_cases e1:k=p
  ·rw [if_pos e1] at hx; cases hx; exact hzb
  ·rw [if_neg e1] at hx; exact hh.zn k x (hlive k e1 hk) hx
def plR (nV nS:Nat) (pl plA:Option Nat):Prop:=(pl=none/\plA=none) ∨ ∃ p,pl=some p/\plA=some (nS+(p - nV))
theorem xw (hh:HR w0 ν nV nS h lh) {pl plA:Option Nat} (hp:plR nV nS pl plA) {o:O} {az:List ab} {ty:TypeId} {c e:Nat} {K:Nat->List O->T α} {KA:Nat->List ac->Prop} (hnd:o ≠ .dead)
 (hb:∀ p b lh',lh'[b]? = some (.cells az ty)->ν p=none->vq w0 (upd ν p (some (b,c,e))) nV nS lh' p o)
 (hs:sat LP (dH pl h o K) Q) (hK:∀ p b h' lh',((pl=none/\plA=none) ∨ (pl=some p/\plA=some b/\h'=h.set p o/\lh'=lh.set b (.cells az ty)/\p < h.length/\b < lh.length))->ν p=none->HR w0 (upd ν p (some (b,c,e))) nV nS h' lh'->sat LP (K p h') Q->KA b lh'):place plA lh (.cells az ty) KA:=by
 rcases hp with ⟨rfl,rfl⟩ | ⟨p,rfl,rfl⟩
 ·simp only [dH] at hs
  rw [ba,lZ] at hs
  have hp:=hh.dom h.length (Nat.le_refl _)
  obtain ⟨h1,_⟩:=hh.put (h':=h++[o]) (lh':=lh++[.cells az ty]) (p:=h.length) (b:=lh.length) (c:=c) (e:=e) (o:=o) (az:=az) (ty:=ty) hp (by simp) (by simp)
   (fun k hk=>by
     rw [List.getElem?_append]; split
     ·rfl
     ·rw [List.getElem?_eq_none (by simp; omega),List.getElem?_eq_none (by omega)])
   (by simp)
   (fun k hk=>by
     rw [List.getElem?_append]; split
     ·rfl
     ·rw [List.getElem?_eq_none (by simp; omega),List.getElem?_eq_none (by omega)])
   (by simp [isCells]) (by simp)
   (fun k hk _=>by obtain ⟨_,_,g3⟩:=hh.blk k _ hk; have:=(List.getElem?_eq_some_iff.1 g3).1; omega)
   hnd (hb _ _ _ (by simp) hp)
  exact hK _ _ _ _ (.inl ⟨rfl,rfl⟩) hp h1 hs
 ·simp only [dH,aF] at hs
  split at hs
  ·rename_i hd
   rw [eH] at hs
   obtain ⟨g1,g2,g3⟩:=hh.blk p _ hd
   refine ⟨g3,?_⟩
   have hlt:=(List.getElem?_eq_some_iff.1 hd).1
   have hlt':=(List.getElem?_eq_some_iff.1 g3).1
   obtain ⟨h1,_⟩:=hh.put (h':=h.set p o) (lh':=lh.set (nS+(p - nV)) (.cells az ty)) (p:=p) (b:=nS+(p - nV)) (c:=c) (e:=e) (o:=o) (az:=az) (ty:=ty) g1 (by simpa using hlt) (by simp [hlt])
    (fun k hk=>by simp [hk.symm]) (by simp [hlt']) (fun k hk=>by simp [hk.symm]) (by rw [g3]; rfl) (by simp)
    (fun k hk hne e1=>by obtain ⟨_,k2,_⟩:=hh.blk k _ hk; omega)
    hnd (hb _ _ _ (by simp [hlt']) g1)
   exact hK _ _ _ _ (.inr ⟨rfl,rfl,rfl,rfl,hlt,hlt'⟩) g1 h1 hs
  ·exact hs.elim
theorem HR.set (hh:HR w0 ν nV nS h lh) {k b c e:Nat} {o:O} {az:List ab} {ty:TypeId} (hk:aA h k) (hν:ν k=some (some (b,c,e))) (hc:isCells lh[b]? = true) (hlo:cB [o] 0=true)
 (hbr:vq w0 ν nV nS (lh.set b (.cells az ty)) k o):HR w0 ν nV nS (h.set k o) (lh.set b (.cells az ty)):=by
 have hkl:k < h.length:=by
  rcases cy hk with ⟨_,_,g⟩ | ⟨_,_,_,_,g⟩ <;> exact (List.getElem?_eq_some_iff.1 g).1
 have hlive:∀ j,aA (h.set k o) j->aA h j:=fun j hj=>by
  by_cases e1:j=k
  ·subst e1; exact hk
  ·unfold aA cB at *; rw [aF] at *; rw [List.getElem?_set,if_neg (Ne.symm e1)] at hj; exact hj
 refine ⟨fun j o' hj=>?_,fun j j' x x' h1 h2=>hh.inj j j' x x' (hlive j h1) (hlive j' h2),fun j hj=>hh.dom j (by simpa using hj),fun j x hx=>by simpa using hh.rng j x hx,fun j as' ty' hj=>?_,fun j x hj hx=>hh.zn j x (hlive j hj) hx⟩
 case refine_2 =>
  rw [List.getElem?_set,if_neg fun e2=>?_]
  ·exact hh.zl j as' ty' hj
  ·subst e2; exact iu (hh.zn k _ hk hν) _ _ hj
 by_cases e1:j=k
 ·subst e1
  rw [List.getElem?_set,if_pos rfl,if_pos hkl] at hj; cases hj; exact hbr
 ·rw [List.getElem?_set,if_neg (Ne.symm e1)] at hj
  by_cases hd:o'=.dead
  ·subst hd
   obtain ⟨g1,g2,g3⟩:=hh.blk j _ hj
   refine ⟨g1,g2,?_⟩
   rw [List.getElem?_set,if_neg (fun e2=>by rw [← e2] at g3; rw [g3] at hc; cases hc)]; exact g3
  ·by_cases hl:o'=.hid
   ·subst hl; trivial
   ·refine bS (Nu.sub_refl ν) hd (fun b' as' ty' g1 g2=>?_) (hh.blk j _ hj)
    rw [List.getElem?_set,if_neg]
    ·exact g1
    ·intro e2
     subst e2
     obtain ⟨c',e',g3⟩:=g2
     have hlj:aA h j:=by
      unfold aA cB; rw [aF,hj]
      cases o' <;> first | rfl | exact (hd rfl).elim | exact (hl rfl).elim
     exact e1 (hh.inj j k _ _ hlj hk g3 hν rfl)
theorem HR.hide1 (hh:HR w0 ν nV nS h lh) (k:Nat):HR w0 ν nV nS (h.set k .hid) lh:=by
 have hlive:∀ j,aA (h.set k .hid) j->aA h j:=fun j hj=>by
  by_cases e1:k=j
  ·subst e1
   exfalso
   rcases cy hj with ⟨_,_,g⟩ | ⟨_,_,_,_,g⟩ <;> (rw [List.getElem?_set,if_pos rfl] at g; split at g <;> cases g)
  ·unfold aA cB at *; rw [aF] at *
   rw [List.getElem?_set,if_neg e1] at hj; exact hj
 refine ⟨fun j o hj=>?_,fun j j' x x' h1 h2=>hh.inj j j' x x' (hlive j h1) (hlive j' h2),fun j hj=>hh.dom j (by simpa using hj),hh.rng,hh.zl,fun j x hj hx=>hh.zn j x (hlive j hj) hx⟩
 rw [List.getElem?_set] at hj
 split at hj
 ·split at hj
  ·cases hj; trivial
  ·cases hj
 ·exact hh.blk j o hj
end
section
variable {w0:World} {ν ν':Nu} {nV nS N:Nat} {h h':List O} {lh lh':List ac} {α:Type} {LP:db} {Q:α->Prop} {e:Env} {sl:List ab} {ctx:Bool}
theorem vA (a:Addr) (i j:Nat):(a.add i).add j=a.add (i+j):=by
 unfold Addr.add
 by_cases hi:i=0
 ·subst hi; simp
 ·by_cases hj:j=0
  ·subst hj; simp
  ·have:¬ (i+j=0):=by omega
   simp [hi,hj,this,Nat.add_assoc]
theorem vV (p:Ptr) (i j:Nat):(p.add i).add j=p.add (i+j):=by
 cases p with
 | l k off=>simp [Ptr.add,Nat.add_assoc]
 | g a=>simp [Ptr.add,vA]
theorem qV {a:Addr} {n i m:Nat} {az:List ab} (hg:dV w0 a 0 n=some az) (hle:i+m<=n):dV w0 (a.add i) 0 m=some ((az.drop i).take m):=by
 obtain ⟨vs,rfl,hl,hc⟩:=cK n 0 az hg
 have:=fU (w:=w0) (a:=a.add i) ((vs.drop i).take m) 0 (fun j v hv=>by
  rw [List.getElem?_take] at hv
  split at hv
  ·rw [List.getElem?_drop] at hv
   rw [vA]
   have:=hc (i+j) v hv
   simpa using this
  ·cases hv)
 rw [show ((vs.drop i).take m).length=m by simp; omega] at this
 rw [this]; simp
theorem Ab {z:List ac} {p:Ptr} {n i m:Nat} {az:List ab} (hl:lds w0 z p n=some az) (hle:i+m<=n) (hz:zle z lh):lds w0 lh (p.add i) m=some ((az.drop i).take m):=by
 cases p with
 | g a=>exact qV hl hle
 | l k off =>
   have h2:=qn hz hl
   simp only [lds,Ptr.add] at h2 ⊢
   split at h2
   ·rename_i cs ty hk
    split at h2
    ·rename_i hlen
     cases h2
     rw [if_pos (by omega),List.drop_take,List.drop_drop,List.take_take,Nat.min_eq_left (by omega)]
    ·cases h2
   ·cases h2
theorem mO {p:Ptr} {n:Nat} {az:List ab} (hl:lds w0 lh p n=some az):az.length=n:=by
 cases p with
 | l k off =>
   simp only [lds] at hl
   split at hl
   ·split at hl
    ·cases hl; simp; omega
    ·cases hl
   ·cases hl
 | g a =>
   obtain ⟨vs,rfl,h2,_⟩:=cK n 0 az hl
   simpa using h2
theorem BS {z:List ac} {p:Ptr} {n:Nat} {az:List ab} {x:ab} (hl:lds w0 z p n=some az) (hx:az[0]? = some x) (hz:zle z lh):ld w0 lh p=some x:=by
 cases p with
 | g a =>
   obtain ⟨vs,rfl,h2,h3⟩:=cK n 0 az hl
   rw [List.getElem?_map] at hx
   cases hv:vs[0]? with
   | none=>rw [hv] at hx; cases hx
   | some v =>
     rw [hv] at hx; cases hx
     have:=h3 0 v hv
     simp [Addr.add] at this
     simp [ld,this]
 | l k off =>
   have h2:=qn hz hl
   simp only [lds] at h2
   split at h2
   ·rename_i cs ty hk
    split at h2
    ·cases h2
     simp only [ld,hk]
     rw [List.getElem?_take] at hx
     split at hx
     ·rw [List.getElem?_drop] at hx; exact hx
     ·cases hx
    ·cases h2
   ·cases h2
theorem Cr {v:V} {a:ab} {K:V->T α} (hc:ctx=true) (hv:vr w0 lh ν v a) (hs:sat LP (rdk ctx v K) Q):∃ u,vr w0 lh ν u a/\sat LP (K u) Q:=by
 unfold rdk at hs
 split at hs
 ·rename_i b u
  simp only [sat] at hs
  simp only [vr] at hv
  subst hc
  exact ⟨u,hv.1 (hs.1 rfl),hs.2⟩
 ·exact ⟨_,hv,hs⟩
theorem wE {v:V} {a:ab} {K:V->T α} (hc:ctx=true) (hv:vr w0 lh ν v a) (hs:sat LP (rdk ctx v K) Q):∃ u,vr w0 lh ν u a/\sat LP (K u) Q/\∀ h l,fx h v=some l->u=v:=by
 unfold rdk at hs
 split at hs
 ·rename_i b u
  simp only [sat] at hs
  simp only [vr] at hv
  subst hc
  exact ⟨u,hv.1 (hs.1 rfl),hs.2,fun h l hn=>by simp [fx] at hn⟩
 ·exact ⟨_,hv,hs,fun _ _ _=>rfl⟩
theorem aO {x:Arg} {K:V->T α} (hsl:slR w0 ν N e sl) (hc:ctx=true) (hs:sat LP (rdk ctx (bW e x) K) Q):∃ u,vr w0 ν.z ν u (arg sl x)/\sat LP (K u) Q:=Cr hc (hsl.arg x) hs
theorem ja (hsl:slR w0 ν N e sl) (hc:ctx=true):∀ {xs:List Arg} {K:List V->T α},sat LP (pT ctx e xs K) Q->∃ us,vrs w0 ν.z ν us (xs.map (arg sl))/\sat LP (K us) Q
 | [],K,hs=>⟨[],by simp [vrs],hs⟩
 | x::xs,K,hs=>by
   simp only [pT] at hs
   obtain ⟨u,h1,h2⟩:=aO hsl hc hs
   obtain ⟨us,h3,h4⟩:=ja hsl hc h2
   exact ⟨u::us,by simp only [List.map_cons,vrs]; exact ⟨_,_,rfl,h1,h3⟩,h4⟩
def vro (w0:World) (ν:Nu):Option V->Option ab->Prop
 | none,a=>a=none
 | some v,a=>∃ x,a=some x/\vr w0 ν.z ν v x
theorem gK (hsl:slR w0 ν N e sl) (hc:ctx=true) {x:Option Arg} {K:Option V->T α} (hs:sat LP (pj ctx e x K) Q):∃ u,vro w0 ν u (x.map (arg sl))/\sat LP (K u) Q:=by
 cases x with
 | none=>exact ⟨none,rfl,hs⟩
 | some x =>
   simp only [pj] at hs
   obtain ⟨u,h1,h2⟩:=aO hsl hc hs
   exact ⟨some u,⟨_,rfl,h1⟩,h2⟩
theorem dq {p:Prop} [Decidable p] {x:T α} (hc:ctx=true) (hs:sat LP (obg ctx p x) Q):p/\sat LP x Q:=by
 simp only [obg,sat] at hs; subst hc; exact ⟨by simpa using hs.1 rfl,hs.2⟩
theorem cz {x:Option V} {xa:Option ab} {y d:Nat} {K:Nat->T α} {KA:Nat->Prop} (hc:ctx=true) (hx:vro w0 ν x xa) (hs:sat LP (je ctx x y d K) Q) (hK:∀ n,(x=none->n=d)->(x ≠ none->n<=y)->sat LP (K n) Q->KA n):bnd xa y d KA:=by
 cases x with
 | none =>
   simp only [vro] at hx; subst hx
   exact hK d (fun _=>rfl) (fun h=>(h rfl).elim) hs
 | some v =>
   simp only [vro] at hx
   obtain ⟨a,rfl,hv⟩:=hx
   cases v <;> simp only [je] at hs <;> try exact hs.elim
   simp only [vr] at hv; subst hv
   obtain ⟨⟨h1,h2⟩,h3⟩:=dq hc hs
   exact ⟨h1,h2,hK _ (fun h=>by cases h) (fun _=>by omega) h3⟩
theorem nA {x:Option V} {xa:Option ab} {y y' d:Nat} {KA:Nat->Prop} (hy:y<=y') (hb:bnd xa y d KA):bnd xa y' d KA:=by
 unfold bnd at *
 split at hb
 ·exact hb
 ·exact ⟨hb.1,by omega,hb.2.2⟩
 ·exact hb.elim
theorem nW (hsl:slR w0 ν N e sl) (hc:ctx=true):∀ {ps:List (Nat × Nat × Arg)} {z:List V} {za:List ab} {K:List V->T α} {KA:List ab->Prop},vrs w0 ν.z ν z za->sat LP (kX ctx e ps z K) Q ->
 (∀ cs az,vrs w0 ν.z ν cs az->sat LP (K cs) Q->KA az)->parts sl ps za KA
 | [],z,za,K,KA,hz,hs,hK=>hK z za hz hs
 | (off,n,x)::ps,z,za,K,KA,hz,hs,hK=>by
   simp only [kX] at hs
   obtain ⟨v,h1,h2⟩:=aO hsl hc hs
   cases hf:(v.flat && Nat.beq (aY v.cells) n) with
   | false=>rw [hf] at h2; exact h2.elim
   | true =>
     rw [hf] at h2
     simp only [cond_true] at h2
     simp only [Bool.and_eq_true] at hf
     obtain ⟨g1,g2⟩:=qB h1 hf.1
     have g3:=Nat.eq_of_beq_eq_true hf.2
     rw [ba] at g3
     split at h2
     ·rename_i z' hz'
      have hl:=kc hz'
      have:=aU g2
      have hzl:=aU hz
      exact ⟨g1,by omega,by omega,nW hsl hc (p5 hz g2 hz') h2 hK⟩
     ·exact h2.elim
def ph (w0:World) (S:FuncId->bf) (LP:db) (md:Bool) (cf:CF α):Prop:=∀ (f:FuncId) (vs:List V) (h:List O) (K:V->List O->T α) (Q:α->Prop) (ν:Nu) (nV nS:Nat) (args:List ab) (lh:List ac) (KA:ab->List ac->Prop),
 vrs w0 ν.z ν vs args->HR w0 ν nV nS h lh->sat LP (cf f vs h K) Q->(∀ v h' ν' a lh',(md=true->ν'=ν/\h'=h/\lh'=lh)->ν.sub ν'->HR w0 ν' nV nS h' lh'->vr w0 ν'.z ν' v a->sat LP (K v h') Q->KA a lh')->S f w0 args lh KA
structure MDf (ν ν':Nu) (wn:List Nat) (pl plA:Option Nat) (h h':List O) (lh lh':List ac):Prop where
 len:lh'.length=lh.length
 chg:∀ j,plA ≠ some j->(∀ k x,k ∈ wn->ν k=some (some x)->x.1 ≠ j)->lh'[j]? = lh[j]?
 nw:∀ k x,ν' k=some x->ν k=some x ∨ (pl=some k/\∀ y,x=some y->(plA=some y.1 ∨ ∃ k0 z,k0 ∈ wn/\ν k0=some (some z)/\z.1=y.1))
 hlen:h'.length=h.length
 liv:∀ k,aA h' k->aA h k ∨ pl=some k
 zz:ν'.z=ν.z
theorem MDf.refl (ν:Nu) (wn:List Nat) (pl plA:Option Nat) (h:List O) (lh:List ac):MDf ν ν wn pl plA h h lh lh:=⟨rfl,fun _ _ _=>rfl,fun _ _ h=>.inl h,rfl,fun _ h=>.inl h,rfl⟩
theorem xQ (hh:HR w0 ν nV nS h lh) {v u:V} {a:ab} (hv:vr w0 ν.z ν v a) (hl:ldV h v=some u) (hpe:∀ k i j,v=.pe k i j->∀ e n f ty,h[k]? = some (.gl e n f ty)->i < n):∃ p x,a=.ptr (some p)/\ld w0 lh p=some x/\vr w0 ν.z ν u x:=by
 unfold ldV at hl
 split at hl
 ·rename_i k off
  rw [aF] at hl
  split at hl
  ·rename_i cs ty hk
   rw [aF] at hl
   obtain ⟨b,c,e,az,h1,h2,h3⟩:=hh.blk k _ hk
   simp only [vr] at hv
   obtain ⟨b',c',e',h4,rfl⟩:=hv
   rw [h1] at h4
   obtain ⟨rfl,rfl,rfl⟩:_=b'/\_=c'/\_=e':=by simpa using h4
   obtain ⟨x,h5,h6⟩:=i7 h3 hl
   exact ⟨_,x,rfl,by simp only [ld,h2]; exact h5,h6⟩
  ·cases hl
 ·rename_i k i j
  rw [aF] at hl
  split at hl
  ·rename_i e n f ty hk
   rw [aF] at hl
   have hi:=hpe k i j rfl _ _ _ _ hk
   simp only [vr] at hv
   obtain ⟨b',c',e',h4,rfl⟩:=hv
   rcases hh.blk k _ hk with ⟨h1,h2⟩ | ⟨b,c,az,h1,h2,h3,hn,h5⟩
   ·omega
   ·rw [h1] at h4
    obtain ⟨rfl,rfl,rfl⟩:_=b'/\_=c'/\_=e':=by simpa using h4
    obtain ⟨x,h6,h7⟩:=i7 (h5 i hi).2 hl
    refine ⟨_,x,rfl,?_,h7⟩
    rw [List.getElem?_take] at h6
    split at h6
    ·rw [List.getElem?_drop] at h6
     simp only [ld,h2]; exact h6
    ·cases h6
  ·cases hl
 ·rename_i cs
  rw [aF] at hl
  simp only [vr] at hv
  obtain ⟨p,az,rfl,_,h2,h3,_⟩:=hv
  obtain ⟨x,h4,h5⟩:=i7 h3 hl
  exact ⟨p,x,rfl,BS h2 h4 hh.zl,AT (Nu.nil_sub ν) _ _ h5⟩
 ·cases hl
theorem AE (hh:HR w0 ν nV nS h lh) {v:V} {m:Nat} {us:List V} {a:ab} (hv:vr w0 ν.z ν v a) (hl:Fd h m v=some us) (hpe:∀ k i j,v=.pe k i j->∀ e n f ty,h[k]? = some (.gl e n f ty)->i < n):∃ p xs,a=.ptr (some p)/\lds w0 lh p m=some xs/\vrs w0 ν.z ν us xs:=by
 unfold Fd at hl
 split at hl
 ·rename_i k off
  rw [aF] at hl
  split at hl
  ·rename_i cs ty hk
   obtain ⟨g1,rfl⟩:=mb hl
   obtain ⟨b,c,e,az,h1,h2,h3⟩:=hh.blk k _ hk
   simp only [vr] at hv
   obtain ⟨b',c',e',h4,rfl⟩:=hv
   rw [h1] at h4
   obtain ⟨rfl,rfl,rfl⟩:_=b'/\_=c'/\_=e':=by simpa using h4
   refine ⟨_,_,rfl,?_,ew m (dX off h3)⟩
   simp only [lds,h2]
   rw [if_pos (by have:=aU h3; omega)]
  ·cases hl
 ·rename_i k i j
  rw [aF] at hl
  split at hl
  ·rename_i e n f ty hk
   obtain ⟨g1,rfl⟩:=mb hl
   have hi:=hpe k i j rfl _ _ _ _ hk
   simp only [vr] at hv
   obtain ⟨b',c',e',h4,rfl⟩:=hv
   rcases hh.blk k _ hk with ⟨h1,h2⟩ | ⟨b,c,az,h1,h2,h3,hn,h5⟩
   ·omega
   ·rw [h1] at h4
    obtain ⟨rfl,rfl,rfl⟩:_=b'/\_=c'/\_=e':=by simpa using h4
    obtain ⟨ho,hvs⟩:=h5 i hi
    have hlen:=aU hvs
    unfold okE at ho
    simp only [Bool.and_eq_true] at ho
    have h8:=Nat.eq_of_beq_eq_true ho.1
    rw [ba] at h8
    have hle:i * e+e<=c * e:=by rw [← Nat.succ_mul]; exact Nat.mul_le_mul_right e (by omega)
    refine ⟨_,_,rfl,?_,ew m (dX j hvs)⟩
    simp only [lds,h2]
    rw [if_pos (by omega),List.drop_take,List.drop_drop,List.take_take,Nat.min_eq_left (by omega)]
  ·cases hl
 ·rename_i cs
  obtain ⟨g1,rfl⟩:=qv hl
  simp only [vr] at hv
  obtain ⟨p,az,rfl,_,h2,h3,_⟩:=hv
  refine ⟨p,az.take m,rfl,?_,ew m (gm (Nu.nil_sub ν) _ _ h3)⟩
  have:=Ab (i:=0) (m:=m) h2 (by omega) hh.zl
  have e0:p.add 0=p:=by cases p <;> simp [Ptr.add,Addr.add]
  rw [e0] at this
  simpa using this
 ·cases hl
theorem pY {v:V} {x:T α} (hc:ctx=true) (hs:sat LP (chk ctx h v x) Q):(∀ k i j,v=.pe k i j->∀ e n f ty,h[k]? = some (.gl e n f ty)->i < n)/\sat LP x Q:=by
 unfold chk at hs
 split at hs
 ·rename_i k i j
  rw [aF] at hs
  split at hs
  ·rename_i e n f ty hk
   obtain ⟨h1,h2⟩:=dq hc hs
   exact ⟨fun k' i' j' he e' n' f' ty' hk'=>by cases he; rw [hk] at hk'; cases hk'; exact h1,h2⟩
  ·exact hs.elim
 ·rename_i hne
  exact ⟨fun k i j he=>(hne k i j he).elim,hs⟩
theorem p6:∀ (us az:List ab) (off t:Nat),off+us.length<=az.length->(wr az off us)[t]? = if off<=t/\t < off+us.length then us[t - off]? else az[t]?
 | [],az,off,t,h=>by
   simp only [wr]
   rw [if_neg (by simp only [List.length_nil]; omega)]
 | u :: us,az,off,t,h=>by
   simp only [wr]
   simp only [List.length_cons] at h
   rw [p6 us _ _ _ (by simp; omega)]
   by_cases h1:off+1<=t/\t < off+1+us.length
   ·rw [if_pos h1,if_pos ⟨by omega,by simp; omega⟩,show t - off=(t - (off+1))+1 by omega]; simp
   ·rw [if_neg h1]
    by_cases h2:t=off
    ·subst h2
     rw [List.getElem?_set,if_pos rfl,if_pos (by omega),if_pos ⟨Nat.le_refl _,by simp⟩]; simp
    ·rw [List.getElem?_set,if_neg (Ne.symm h2),if_neg (by simp; omega)]
theorem wT {az us:List ab} {e i i' j:Nat} (hne:i' ≠ i) (hj:j+us.length<=e) (hl:i * e+j+us.length<=az.length):((wr az (i * e+j) us).drop (i' * e)).take e=(az.drop (i' * e)).take e:=by
 apply List.ext_getElem?
 intro t
 rw [List.getElem?_take,List.getElem?_take]
 split
 ·rename_i ht
  rw [List.getElem?_drop,List.getElem?_drop,p6 _ _ _ _ hl,if_neg]
  intro ⟨h1,h2⟩
  rcases Nat.lt_or_ge i' i with h3 | h3
  ·have:i' * e+e<=i * e:=by rw [← Nat.succ_mul]; exact Nat.mul_le_mul_right e h3
   omega
  ·have:i * e+e<=i' * e:=by rw [← Nat.succ_mul]; exact Nat.mul_le_mul_right e (by omega)
   omega
 ·rfl
theorem xL {az us:List ab} {e i j:Nat} (hj:j+us.length<=e) (hl:i * e+e<=az.length):((wr az (i * e+j) us).drop (i * e)).take e=wr ((az.drop (i * e)).take e) j us:=by
 apply List.ext_getElem?
 intro t
 rw [p6 _ _ _ _ (by simp; omega),List.getElem?_take]
 split
 ·rename_i ht
  rw [List.getElem?_drop,p6 _ _ _ _ (by omega)]
  by_cases h1:j<=t/\t < j+us.length
  ·rw [if_pos h1,if_pos (by omega)]; congr 1; omega
  ·rw [if_neg h1,if_neg (by omega),List.getElem?_take,if_pos ht,List.getElem?_drop]
 ·rename_i ht
  rw [if_neg (by omega),List.getElem?_take,if_neg ht]
theorem qK:∀ {cs:List V} {off:Nat} {xs r:List V},wrV cs off xs=some r->cs.all V.one=true->xs.all V.one=true->r.all V.one=true
 | cs,0,[],r,h,h1,h2=>by simp [wrV] at h; subst h; exact h1
 | [],0,x::xs,r,h,h1,h2=>by simp [wrV] at h
 | c::cs,0,x::xs,r,h,h1,h2=>by
   simp only [wrV] at h
   split at h
   ·rename_i r' hr
    cases h
    simp only [List.all_cons,Bool.and_eq_true] at h1 h2 ⊢
    exact ⟨h2.1,qK hr h1.2 h2.2⟩
   ·cases h
 | [],off+1,xs,r,h,h1,h2=>by simp [wrV] at h
 | c::cs,off+1,xs,r,h,h1,h2=>by
   simp only [wrV] at h
   split at h
   ·rename_i r' hr
    cases h
    simp only [List.all_cons,Bool.and_eq_true] at h1 ⊢
    exact ⟨h1.1,qK hr h1.2 h2⟩
   ·cases h
theorem ym:∀ (cs:List V) (j:Nat) (xs:List V),j+xs.length<=cs.length->wrV cs j xs=some (cs.take j++(xs++cs.drop (j+xs.length)))
 | cs,0,[],_=>by simp [wrV]
 | [],0,x::xs,h=>by simp at h
 | c::cs,0,x::xs,h=>by
   simp only [wrV]
   rw [ym cs 0 xs (by simp at h ⊢; omega)]
   simp
 | [],j+1,xs,h=>by simp at h
 | c::cs,j+1,xs,h=>by
   simp only [wrV]
   rw [ym cs j xs (by simp at h; omega)]
   simp [show j+1+xs.length=(j+xs.length)+1 by omega]
theorem AC (cs:List V) (j:Nat) (xs:List V):∀ (m t k:Nat),(wrT cs j xs t m)[k]? = if k < m then some (cond (Nat.ble j (t+k) && Nat.blt (t+k) (j+aY xs)) (BQ xs (t+k - j)) (BQ cs (t+k))) else none
 | 0,t,k=>by simp [wrT]
 | m+1,t,0=>by simp [wrT]
 | m+1,t,k+1=>by
   simp only [wrT,List.getElem?_cons_succ]
   rw [AC cs j xs m (t+1) k,show t+1+k=t+(k+1) by omega]
   by_cases h:k < m
   ·rw [if_pos h,if_pos (by omega)]
   ·rw [if_neg h,if_neg (by omega)]
theorem nC {l:List V} {i:Nat} (h:i < l.length):l[i]? = some (BQ l i):=by
 unfold BQ; rw [aF,List.getElem?_eq_getElem h]
theorem EI {e:Nat} {cs:List V} (h:cs.length=e) (j:Nat) (xs:List V):wrE e cs j xs=wrV cs j xs:=by
 unfold wrE
 rw [ba]
 cases hb:Nat.ble (j+xs.length) e with
 | false =>
   cases hw:wrV cs j xs with
   | none=>rfl
   | some r =>
     have:=(kc hw).1
     rw [Nat.ble_eq_true_of_le (by omega)] at hb; cases hb
 | true =>
   have hle:=Nat.le_of_ble_eq_true hb
   rw [ym cs j xs (by omega)]
   simp only [cond_true,Option.some.injEq]
   apply List.ext_getElem?
   intro k
   rw [AC,Nat.zero_add,ba,List.getElem?_append,List.getElem?_append,List.getElem?_take,List.getElem?_drop,List.length_take]
   by_cases h1:k < j
   ·have hb1:Nat.ble j k=false:=by
     cases hq:Nat.ble j k with
     | false=>rfl
     | true=>have:=Nat.le_of_ble_eq_true hq; omega
    rw [if_pos (by omega),if_pos (by omega),if_pos h1,hb1]
    exact (nC (by omega)).symm
   ·have hb1:Nat.ble j k=true:=Nat.ble_eq_true_of_le (by omega)
    by_cases h2:k < j+xs.length
    ·have hb2:Nat.blt k (j+xs.length)=true:=Nat.ble_eq_true_of_le h2
     rw [if_pos (by omega),if_neg (by omega),if_pos (by omega),hb1,hb2,show min j cs.length=j by omega]
     exact (nC (by omega)).symm
    ·have hb2:Nat.blt k (j+xs.length)=false:=by
      cases hq:Nat.blt k (j+xs.length) with
      | false=>rfl
      | true=>have:=Nat.le_of_ble_eq_true hq; omega
     have e1:j+xs.length+(k - min j cs.length - xs.length)=k:=by omega
     by_cases h3:k < e
     ·rw [if_pos h3,if_neg (by omega),if_neg (by omega),hb1,hb2,e1]; exact (nC (by omega)).symm
     ·rw [if_neg h3,if_neg (by omega),if_neg (by omega),e1,List.getElem?_eq_none (by omega)]
theorem yT {v:V} (h:v.flat=true):v.cells.all V.one=true:=by
 cases v <;> first | exact h | (simp [V.flat,V.cells,V.one] at h ⊢)
theorem Ej (hh:HR w0 ν nV nS h lh) {v:V} {xs:List V} {us:List ab} {a:ab} (hv:vr w0 ν.z ν v a) (hx:vrs w0 ν.z ν xs us) (ho:xs.all V.one=true) (hl:stV h xs v=some h') (hpe:∀ k i j,v=.pe k i j->∀ e n f ty,h[k]? = some (.gl e n f ty)->i < n) :
 ∃ b off cs ty k c e,a=.ptr (some (.l b off))/\lh[b]? = some (.cells cs ty)/\off+us.length<=cs.length/\HR w0 ν nV nS h' (lh.set b (.cells (wr cs off us) ty))/\fx h v=some [k]/\ν k=some (some (b,c,e)):=by
 unfold stV at hl
 split at hl
 ·rename_i k off
  rw [aF] at hl
  split at hl
  ·rename_i cs ty hk
   split at hl
   ·rename_i r hr
    cases hl
    obtain ⟨b,c,e,az,h1,h2,h3⟩:=hh.blk k _ hk
    simp only [vr] at hv
    obtain ⟨b',c',e',h4,rfl⟩:=hv
    rw [h1] at h4
    obtain ⟨rfl,rfl,rfl⟩:_=b'/\_=c'/\_=e':=by simpa using h4
    have hlv:=bT hk
    have hlt:=(List.getElem?_eq_some_iff.1 h2).1
    refine ⟨b,off,az,ty,k,c,e,rfl,h2,by have:=kc hr; have:=aU h3; have:=aU hx; omega,?_,?_,h1⟩
    ·rw [eH]
     refine hh.set hlv h1 (by rw [h2]; rfl) rfl ⟨b,c,e,wr az off us,h1,by simp [hlt],p5 h3 hx hr⟩
    ·simp only [fx]; unfold aA at hlv; rw [hlv]; rfl
   ·cases hl
  ·cases hl
 ·rename_i k i j
  rw [aF] at hl
  split at hl
  ·rename_i e n f ty hk
   cases hbl:Nat.ble (j+aY xs) e with
   | false=>rw [hbl] at hl; cases hl
   | true =>
     rw [hbl] at hl
     cases hl
     have hr:wrE e (f i) j xs=some (wrT (f i) j xs 0 e):=by unfold wrE; rw [hbl]; rfl
     revert hr
     generalize hgr:wrT (f i) j xs 0 e=r
     intro hr
     have hi:=hpe k i j rfl _ _ _ _ hk
     simp only [vr] at hv
     obtain ⟨b',c',e',h4,rfl⟩:=hv
     have hlv:=di hk
     rcases hh.blk k _ hk with ⟨h1,h2⟩ | ⟨b,c,az,h1,h2,h3,hn,h5⟩
     ·omega
     ·rw [h1] at h4
      obtain ⟨rfl,rfl,rfl⟩:_=b'/\_=c'/\_=e':=by simpa using h4
      have hlt:=(List.getElem?_eq_some_iff.1 h2).1
      obtain ⟨hok,hvs⟩:=h5 i hi
      have hlx:=aU hx
      have hlen:=aU hvs
      unfold okE at hok
      simp only [Bool.and_eq_true] at hok
      have h8:=Nat.eq_of_beq_eq_true hok.1
      rw [ba] at h8
      rw [EI h8] at hr
      have hwl:=kc hr
      have hle:i * e+e<=c * e:=by rw [← Nat.succ_mul]; exact Nat.mul_le_mul_right e (by omega)
      refine ⟨b,i * e+j,az,ty,k,c,e,rfl,h2,by omega,?_,?_,h1⟩
      ·rw [eH]
       refine hh.set hlv h1 (by rw [h2]; rfl) rfl (.inr ⟨b,c,wr az (i * e+j) us,h1,by simp [hlt],by rw [kl]; exact h3,hn,fun i' hi'=>?_⟩)
       by_cases he:i'=i
       ·subst he
        simp only [F2,Nat.beq_refl,cond_true,hgr]
        refine ⟨?_,?_⟩
        ·unfold okE
         simp only [Bool.and_eq_true]
         exact ⟨by rw [ba,hwl.2,h8]; simp,qK hr hok.2 ho⟩
        ·rw [xL (by omega) (by omega)]
         exact p5 hvs hx hr
       ·have:Nat.beq i' i=false:=by
         cases hb:Nat.beq i' i with
         | false=>rfl
         | true=>exact (he (Nat.eq_of_beq_eq_true hb)).elim
        simp only [F2,this,cond_false]
        refine ⟨(h5 i' hi').1,?_⟩
        rw [wT he (by omega) (by omega)]
        exact (h5 i' hi').2
      ·simp only [fx]; unfold aA at hlv; rw [hlv]; rfl
  ·cases hl
 ·cases hl
end
section
variable {w0:World} {ν ν':Nu} {nV nS N:Nat} {h h':List O} {lh lh':List ac} {α:Type} {LP:db} {Q:α->Prop} {e:Env} {sl:List ab} {ctx:Bool}
theorem fH:∀ {n:Nat} {p:Nat->Bool},iL n p=true->∀ i,i < n->p i=true
 | 0,p,_,i,hi=>by omega
 | n+1,p,hp,i,hi=>by
   simp only [iL,Bool.and_eq_true] at hp
   by_cases e:i=n
   ·subst e; exact hp.2
   ·exact fH hp.1 i (by omega)
theorem iQ:∀ {n:Nat} {p:Nat->Bool},(∀ i,i < n->p i=true)->iL n p=true
 | 0,p,_=>rfl
 | n+1,p,hp=>by simp only [iL,Bool.and_eq_true]; exact ⟨iQ fun i hi=>hp i (by omega),hp n (by omega)⟩
theorem oX {a:Addr}:∀ (n i:Nat),(∀ t,t < n->∃ v,w0.cell? (a.add (i+t))=some v)->∃ az,dV w0 a i n=some az
 | 0,i,_=>⟨[],rfl⟩
 | n+1,i,hc=>by
   obtain ⟨v,hv⟩:=hc 0 (by omega)
   obtain ⟨az,has⟩:=oX n (i+1) (fun t ht=>by have:=hc (t+1) (by omega); rw [show i+1+t=i+(t+1) by omega]; exact this)
   exact ⟨aS v::az,by simp only [dV,has]; simp only [Nat.add_zero] at hv; rw [hv]⟩
theorem km {esz:Nat} {l:List V} (ho:okE esz l=true):l.length=esz/\l.all V.one=true:=by
 unfold okE at ho
 simp only [Bool.and_eq_true] at ho
 exact ⟨by rw [← ba]; exact Nat.eq_of_beq_eq_true ho.1,ho.2⟩
theorem ye {esz:Nat} {l:List V} (h1:l.length=esz) (h2:l.all V.one=true):okE esz l=true:=by
 unfold okE; rw [ba,h1,h2]; simp
theorem fd {esz:Nat}:∀ {n:Nat} {az:List ab},az.length=n * esz->(∀ i,i < n->((az.drop (i * esz)).take esz).all ab.one=true)->az.all ab.one=true
 | 0,az,hl,_=>by simp at hl; subst hl; rfl
 | n+1,az,hl,hc=>by
   rw [← List.take_append_drop esz az,List.all_append,Bool.and_eq_true]
   refine ⟨by have:=hc 0 (by omega); simpa using this,fd (esz:=esz) (n:=n) (by simp [hl,Nat.succ_mul]) (fun i hi=>?_)⟩
   have:=hc (i+1) (by omega)
   rw [List.drop_drop,show esz+i * esz=(i+1) * esz by rw [Nat.succ_mul]; omega]
   exact this
theorem iN {az:List ab} {n esz i:Nat} (hi:i < n):((az.take (n * esz)).drop (i * esz)).take esz=(az.drop (i * esz)).take esz:=by
 have:i * esz+esz<=n * esz:=by rw [← Nat.succ_mul]; exact Nat.mul_le_mul_right esz hi
 rw [List.drop_take,List.take_take,Nat.min_eq_left (by omega)]
theorem BI {α:Type} {az:List α} {n esz i:Nat} (hl:az.length=n * esz) (hi:i < n):((az.drop (i * esz)).take esz).length=esz:=by
 have:i * esz+esz<=n * esz:=by rw [← Nat.succ_mul]; exact Nat.mul_le_mul_right esz hi
 simp; omega
theorem zO {α:Type} {p:α->Bool} {l:List α} (a b:Nat) (hl:l.all p=true):((l.drop a).take b).all p=true:=by
 rw [List.all_eq_true] at *
 exact fun x hx=>hl x (List.mem_of_mem_drop (List.mem_of_mem_take hx))
theorem zy (hh:HR w0 ν nV nS h lh) {x:V} {a:ab} {esz m:Nat} {g:Nat->List V} (hv:vr w0 ν.z ν x a) (hs:xU h esz x=some (m,g,true)) :
 ∃ q c new,a=.slice q m c/\cellsOf w0 lh q (m * esz)=some new/\new.length=m * esz/\new.all ab.one=true/\∀ i,i < m->okE esz (g i)=true/\vrs w0 ν.z ν (g i) ((new.drop (i * esz)).take esz):=by
 unfold xU at hs
 split at hs
 ·cases hs
  simp only [vr] at hv; subst hv
  exact ⟨none,0,[],rfl,by simp [cellsOf],by simp,rfl,fun i hi=>by omega⟩
 ·rename_i n f
  simp only [Option.some.injEq,Prod.mk.injEq] at hs
  obtain ⟨rfl,rfl,hok⟩:=hs
  have hok:=fH hok
  simp only [vr] at hv
  obtain ⟨p,c,esz',rfl,_,_,hp,hel⟩:=hv
  cases n with
  | zero =>
    refine ⟨p,c,[],rfl,?_,by simp,rfl,fun i hi=>by omega⟩
    cases p with
    | none=>simp [cellsOf]
    | some q=>cases q with
      | l k off=>obtain ⟨cs,ty,h1,h2⟩:=hp; simp [cellsOf,lds,hh.zl _ _ _ h1,h2]
      | g a=>simp [cellsOf,lds,dV]
  | succ n =>
    obtain ⟨q,as0,rfl,hl0,hv0⟩:=hel 0 (by omega)
    have hsz:esz'=esz:=by
     have:=mO hl0
     have h1:=aU hv0.1
     have h2:=(km (hok 0 (by omega))).1
     omega
    subst hsz
    cases q with
    | l k off =>
      have hel':∀ i,i < n+1->∃ cs ty,ν.z[k]? = some (.cells cs ty)/\off+i * esz'+esz'<=cs.length/\vrs w0 ν.z ν (f i) ((cs.drop (off+i * esz')).take esz'):=fun i hi=>by
       obtain ⟨q',az,e1,e2,e3,_⟩:=hel i hi
       cases e1
       simp only [Ptr.add,lds] at e2
       split at e2
       ·rename_i cs ty hk
        split at e2
        ·rename_i hle
         cases e2
         exact ⟨cs,ty,hk,hle,gm (Nu.nil_sub ν) _ _ e3⟩
        ·cases e2
       ·cases e2
      obtain ⟨cs,ty,c1,c2,_⟩:=hel' n (by omega)
      have hm:(n+1) * esz'=n * esz'+esz':=Nat.succ_mul n esz'
      have hlen:((cs.drop off).take ((n+1) * esz')).length=(n+1) * esz':=by simp; omega
      have hch:∀ i,i < n+1->okE esz' (f i)=true/\vrs w0 ν.z ν (f i) ((((cs.drop off).take ((n+1) * esz')).drop (i * esz')).take esz'):=fun i hi=>by
       obtain ⟨cs',ty',d1,d2,d3⟩:=hel' i hi
       rw [c1] at d1; cases d1
       refine ⟨hok i hi,?_⟩
       rw [iN hi,List.drop_drop]
       exact d3
      refine ⟨_,c,_,rfl,?_,hlen,fd hlen fun i hi=>gc (hch i hi).2 (km (hch i hi).1).2,hch⟩
      simp only [cellsOf,lds,hh.zl _ _ _ c1]
      rw [if_pos (by omega)]
    | g a =>
      have hel':∀ i,i < n+1->∃ az,dV w0 (a.add (i * esz')) 0 esz'=some az/\vrs w0 ν.z ν (f i) az:=fun i hi=>by
       obtain ⟨q',az,e1,e2,e3,_⟩:=hel i hi
       cases e1
       exact ⟨az,e2,gm (Nu.nil_sub ν) _ _ e3⟩
      obtain ⟨new,hnew⟩:=oX (w0:=w0) (a:=a) ((n+1) * esz') 0 (fun t ht=>by
       by_cases he:esz'=0
       ·subst he; simp at ht
       ·have hi:t / esz' < n+1:=by
         rw [Nat.div_lt_iff_lt_mul (by omega)]; exact ht
        obtain ⟨az,e1,_⟩:=hel' _ hi
        obtain ⟨vs,_,hl,hc⟩:=cK _ _ _ e1
        have hm:t % esz' < vs.length:=by rw [hl]; exact Nat.mod_lt _ (by omega)
        have:=hc (t % esz') _ (List.getElem?_eq_getElem hm)
        rw [vA] at this
        rw [Nat.zero_add] at this
        rw [Nat.mul_comm,Nat.div_add_mod] at this
        exact ⟨_,by rw [Nat.zero_add]; exact this⟩)
      have hlen:new.length=(n+1) * esz':=by
       obtain ⟨vs,rfl,h2,_⟩:=cK _ 0 new hnew
       simpa using h2
      have hch:∀ i,i < n+1->okE esz' (f i)=true/\vrs w0 ν.z ν (f i) ((new.drop (i * esz')).take esz'):=fun i hi=>by
       obtain ⟨az,e1,e2⟩:=hel' i hi
       have hle:i * esz'+esz'<=(n+1) * esz':=by rw [← Nat.succ_mul]; exact Nat.mul_le_mul_right esz' hi
       have:=qV hnew hle
       rw [e1] at this
       cases this
       exact ⟨hok i hi,e2⟩
      exact ⟨_,c,new,rfl,hnew,hlen,fd hlen fun i hi=>gc (hch i hi).2 (km (hch i hi).1).2,hch⟩
 ·rename_i k n
  rw [aF] at hs
  split at hs
  ·rename_i e n' f ty hk
   cases he:Nat.beq e esz with
   | false=>rw [he] at hs; cases hs
   | true =>
     rw [he] at hs
     have:=Nat.eq_of_beq_eq_true he
     subst this
     simp only [cond_true,Option.some.injEq,Prod.mk.injEq] at hs
     obtain ⟨rfl,rfl,hle⟩:=hs
     have hle:=Nat.le_of_ble_eq_true hle
     simp only [vr] at hv
     rcases hh.blk k _ hk with ⟨h1,h2⟩ | ⟨b,c,az,h1,h2,h3,hn,h5⟩
     ·rcases hv with ⟨_,h3,h4⟩ | ⟨b,c,e,h3,_⟩
      ·subst h3 h4
       exact ⟨none,0,[],rfl,by simp [cellsOf],by simp,rfl,fun i hi=>by omega⟩
      ·rw [h1] at h3; cases h3
     ·rcases hv with ⟨h6,_⟩ | ⟨b',c',e',h6,rfl,hnc0⟩
      ·rw [h1] at h6; cases h6
      ·rw [h1] at h6
       obtain ⟨rfl,rfl,rfl⟩:_=b'/\_=c'/\_=e':=by simpa using h6
       have hnc:n * e<=c * e:=Nat.mul_le_mul_right e (by omega)
       have hlen:(az.take (n * e)).length=n * e:=by simp; omega
       have hch:∀ i,i < n->okE e (f i)=true/\vrs w0 ν.z ν (f i) (((az.take (n * e)).drop (i * e)).take e):=fun i hi=>by
        rw [iN hi]; exact h5 i (by omega)
       refine ⟨_,c,az.take (n * e),rfl,?_,hlen,fd hlen fun i hi=>gc (hch i hi).2 (km (hch i hi).1).2,hch⟩
       simp only [cellsOf,lds,h2]
       rw [if_pos (by omega)]; simp
  ·cases hs
 ·rename_i k off n c0
  rw [aF] at hs
  split at hs
  ·rename_i cs ty hk
   split at hs
   ·rename_i ds hds
    cases hd:ds.all V.one with
    | false=>rw [hd] at hs; cases hs
    | true =>
      rw [hd] at hs
      simp only [cond_true] at hs
      obtain ⟨g1,rfl⟩:=mb hds
      obtain ⟨b,c,e,az,h1,h2,h3⟩:=hh.blk k _ hk
      simp only [vr] at hv
      obtain ⟨b',c',e',h4,rfl⟩:=hv
      rw [h1] at h4
      obtain ⟨rfl,rfl,rfl⟩:_=b'/\_=c'/\_=e':=by simpa using h4
      have hal:=aU h3
      have hvs:=ew (n * esz) (dX off h3)
      have hlen:((az.drop off).take (n * esz)).length=n * esz:=by simp; omega
      have hlenV:((cs.drop off).take (n * esz)).length=n * esz:=by simp; omega
      have hcl:cellsOf w0 lh (some (.l b off)) (n * esz)=some ((az.drop off).take (n * esz)):=by
       simp only [cellsOf,lds,h2]; rw [if_pos (by omega)]
      have hone:=gc hvs hd
      split at hs
      ·simp only [Option.some.injEq,Prod.mk.injEq] at hs
       obtain ⟨rfl,rfl,_⟩:=hs
       refine ⟨_,c0,_,rfl,hcl,hlen,hone,fun i hi=>?_⟩
       have:i=0:=by omega
       subst this
       simp only [Nat.one_mul] at *
       refine ⟨ye hlenV hd,?_⟩
       simp only [Nat.zero_mul,List.drop_zero,List.take_take,Nat.min_self]
       exact hvs
      ·simp only [Option.some.injEq,Prod.mk.injEq] at hs
       obtain ⟨rfl,rfl,_⟩:=hs
       exact ⟨_,c0,_,rfl,hcl,hlen,hone,fun i hi=>⟨ye (BI hlenV hi) (zO _ _ hd),ew esz (dX (i * esz) hvs)⟩⟩
   ·cases hs
  ·cases hs
 ·rename_i k off n
  rw [aF] at hs
  split at hs
  ·rename_i e n' f ty hk
   cases he:Nat.beq e esz with
   | false=>rw [he] at hs; cases hs
   | true =>
     rw [he] at hs
     have:=Nat.eq_of_beq_eq_true he
     subst this
     simp only [cond_true,Option.some.injEq,Prod.mk.injEq] at hs
     obtain ⟨rfl,rfl,hle⟩:=hs
     have hle:=Nat.le_of_ble_eq_true hle
     simp only [vr] at hv
     rcases hh.blk k _ hk with ⟨h1,h2⟩ | ⟨b,c,az,h1,h2,h3,hn,h5⟩
     ·rcases hv with ⟨_,h3,_,h4⟩ | ⟨b,c,e,o,h3,_⟩
      ·subst h3 h4
       exact ⟨none,0,[],rfl,by simp [cellsOf],by simp,rfl,fun i hi=>by omega⟩
      ·rw [h1] at h3; cases h3
     ·rcases hv with ⟨h6,_⟩ | ⟨b',c',e',o,h6,rfl,⟨hoc,ho1⟩,ho2⟩
      ·rw [h1] at h6; cases h6
      ·rw [h1] at h6
       obtain ⟨rfl,rfl,rfl⟩:_=b'/\_=c'/\_=e':=by simpa using h6
       by_cases hn0:n=0
       ·subst hn0
        refine ⟨_,c - off,[],rfl,?_,by simp,rfl,fun i hi=>by omega⟩
        simp only [cellsOf,lds,h2]
        rw [if_pos (by omega)]; simp
       ·have ho:=ho2 (by omega)
        subst ho
        have hnc:off * e+n * e<=c * e:=by rw [← Nat.add_mul]; exact Nat.mul_le_mul_right e hoc
        have hlen:((az.drop (off * e)).take (n * e)).length=n * e:=by simp; omega
        have hch:∀ i,i < n->okE e (f (off+i))=true/\vrs w0 ν.z ν (f (off+i)) ((((az.drop (off * e)).take (n * e)).drop (i * e)).take e):=fun i hi=>by
         rw [iN hi,List.drop_drop,← Nat.add_mul]; exact h5 (off+i) (by omega)
        refine ⟨_,c - off,(az.drop (off * e)).take (n * e),rfl,?_,hlen,fd hlen fun i hi=>gc (hch i hi).2 (km (hch i hi).1).2,hch⟩
        simp only [cellsOf,lds,h2]
        rw [if_pos (by omega)]
  ·cases hs
 ·cases hs
theorem zL {esz n m:Nat} {f g:Nat->List V} {old new tail az:List ab} (has:az=old++new++tail) (ho:old.length=n * esz) (hn:new.length=m * esz)
 (h1:∀ i,i < n->okE esz (f i)=true/\vrs w0 ν.z ν (f i) ((old.drop (i * esz)).take esz)) (h2:∀ i,i < m->okE esz (g i)=true/\vrs w0 ν.z ν (g i) ((new.drop (i * esz)).take esz)) :
 ∀ i,i < n+m->okE esz (bb n f g i)=true/\vrs w0 ν.z ν (bb n f g i) ((az.drop (i * esz)).take esz):=by
 intro i hi
 subst has
 unfold bb
 by_cases hlt:i < n
 ·have hb:Nat.blt i n=true:=Nat.ble_eq_true_of_le hlt
  rw [hb]
  have:i * esz+esz<=n * esz:=by rw [← Nat.succ_mul]; exact Nat.mul_le_mul_right esz hlt
  simp only [cond_true]
  rw [List.append_assoc,List.drop_append_of_le_length (by omega),List.take_append_of_le_length (by simp; omega)]
  exact h1 i hlt
 ·have hb:Nat.blt i n=false:=by
   cases hb:Nat.blt i n with
   | false=>rfl
   | true=>have:=Nat.le_of_ble_eq_true hb; omega
  rw [hb]
  have hi':i - n < m:=by omega
  have e1:i * esz=n * esz+(i - n) * esz:=by rw [← Nat.add_mul]; congr 1; omega
  have e2:(i - n) * esz+esz<=m * esz:=by rw [← Nat.succ_mul]; exact Nat.mul_le_mul_right esz hi'
  simp only [cond_false]
  rw [e1,← List.drop_drop,List.append_assoc,← ho,List.drop_left,List.drop_append_of_le_length (by omega),List.take_append_of_le_length (by simp; omega)]
  exact h2 _ hi'
theorem cd {k j:Nat} {o:O} (hj:(h.set k .hid)[j]? = some o) (ho:o ≠ .hid):h[j]? = some o/\j ≠ k:=by
 rw [List.getElem?_set] at hj
 split at hj
 ·split at hj
  ·cases hj; exact (ho rfl).elim
  ·cases hj
 ·rename_i hne; exact ⟨hj,fun e=>hne e.symm⟩
theorem HR.move (hh:HR w0 ν nV nS h lh) {p k b c e esz n:Nat} {f:Nat->List V} {ty:TypeId} {az:List ab} (hp:ν p=none) (hpl:p < h'.length) (hk:ν k=some (some (b,c,e))) (hlk:aA h k)
 (ho:h'[p]? = some (.gl esz n f ty)) (hoth:∀ j,j ≠ p->h'[j]? = (h.set k .hid)[j]?) (hlb:∃ as0 t0,lh[b]? = some (.cells as0 t0))
 (hlen:az.length=c * esz) (hn:n<=c/\n<=9223372036854775807) (hel:∀ i,i < n->okE esz (f i)=true/\vrs w0 ν.z ν (f i) ((az.drop (i * esz)).take esz)) :
 HR w0 (upd ν p (some (b,c,esz))) nV nS h' (lh.set b (.cells az ty))/\ν.sub (upd ν p (some (b,c,esz))):=by
 have hs:=dN (x:=some (b,c,esz)) hp
 have hpk:p ≠ k:=fun e1=>by subst e1; rw [hp] at hk; cases hk
 obtain ⟨as0,t0,hb0⟩:=hlb
 have hbl:=(List.getElem?_eq_some_iff.1 hb0).1
 have hlive:∀ j,j ≠ p->aA h' j->aA h j/\j ≠ k:=fun j hj hl=>by
  rcases cy hl with ⟨_,_,g⟩ | ⟨_,_,_,_,g⟩
  ·rw [hoth j hj] at g
   obtain ⟨g1,g2⟩:=cd g (by simp)
   exact ⟨bT g1,g2⟩
  ·rw [hoth j hj] at g
   obtain ⟨g1,g2⟩:=cd g (by simp)
   exact ⟨di g1,g2⟩
 refine ⟨⟨fun j o hj=>?_,fun j j' x x' h1 h2 h3 h4 h5=>?_,fun j hj=>?_,fun j x hj=>?_,fun j as' ty' hj=>?_,fun j x hj hx=>?_⟩,hs⟩
 ·by_cases e1:j=p
  ·subst e1
   rw [ho] at hj; cases hj
   exact .inr ⟨b,c,az,bY _ _ _,by simp [hbl],hlen,hn,fun i hi=>⟨(hel i hi).1,yg hs _ _ (hel i hi).2⟩⟩
  ·rw [hoth j e1] at hj
   by_cases hh1:o=.hid
   ·subst hh1; trivial
   ·obtain ⟨g1,g2⟩:=cd hj hh1
    by_cases hd:o=.dead
    ·subst hd
     obtain ⟨k1,k2,k3⟩:=hh.blk j _ g1
     refine ⟨by rw [cg,if_neg e1]; exact k1,k2,?_⟩
     rw [List.getElem?_set,if_neg (fun e2=>by rw [← e2,hb0] at k3; cases k3)]; exact k3
    ·refine bS hs hd (fun b' as' ty' q1 q2=>?_) (hh.blk j _ g1)
     rw [List.getElem?_set,if_neg]
     ·exact q1
     ·intro e2
      subst e2
      obtain ⟨c',e',q3⟩:=q2
      have hlj:aA h j:=by
       unfold aA cB; rw [aF,g1]
       cases o <;> first | rfl | exact (hd rfl).elim | exact (hh1 rfl).elim
      exact g2 (hh.inj j k _ _ hlj hlk q3 hk rfl)
 ·rw [cg] at h3 h4
  by_cases e1:j=p <;> by_cases e2:j'=p
  ·rw [e1,e2]
  ·rw [if_pos e1] at h3; rw [if_neg e2] at h4; cases h3
   obtain ⟨g1,g2⟩:=hlive j' e2 h2
   exact absurd (hh.inj j' k _ _ g1 hlk h4 hk h5.symm) g2
  ·rw [if_neg e1] at h3; rw [if_pos e2] at h4; cases h4
   obtain ⟨g1,g2⟩:=hlive j e1 h1
   exact absurd (hh.inj j k _ _ g1 hlk h3 hk h5) g2
  ·rw [if_neg e1] at h3; rw [if_neg e2] at h4
   exact hh.inj j j' x x' (hlive j e1 h1).1 (hlive j' e2 h2).1 h3 h4 h5
 ·have e1:j ≠ p:=fun e1=>by subst e1; omega
  rw [cg,if_neg e1]
  apply hh.dom
  have:=hoth j e1
  rw [List.getElem?_eq_none hj] at this
  have:=List.getElem?_eq_none_iff.1 this.symm
  simpa using this
 ·rw [cg] at hj
  split at hj
  ·cases hj; simpa using hbl
  ·simpa using hh.rng j x hj
 ·have hj':ν.z[j]? = some (.cells as' ty'):=hj
  rw [List.getElem?_set,if_neg fun e2=>?_]
  ·exact hh.zl j as' ty' hj'
  ·subst e2; exact iu (hh.zn k _ hlk hk) _ _ hj'
 ·rw [cg] at hx
  by_cases e1:j=p
  ·rw [if_pos e1] at hx; cases hx; exact hh.zn k (b,c,e) hlk hk
  ·rw [if_neg e1] at hx; exact hh.zn j x (hlive j e1 hj).1 hx
theorem HR.renu (hh:HR w0 ν nV nS h lh) {p k b c e esz:Nat} {f:Nat->List V} {ty:TypeId} {az:List ab} (hp:ν p=none) (hpl:p < h'.length) (hk:ν k=some (some (b,c,e))) (hlk:aA h k)
 (ho:h'[p]? = some (.gl esz 0 f ty)) (hoth:∀ j,j ≠ p->h'[j]? = (h.set k .hid)[j]?) (hlb:∃ as0 t0,lh[b]? = some (.cells as0 t0)) (has:az=[]) :
 HR w0 (upd ν p (some (b,0,esz))) nV nS h' (lh.set b (.cells az ty))/\ν.sub (upd ν p (some (b,0,esz))):=by
 subst has
 have hs:=dN (x:=some (b,0,esz)) hp
 have hpk:p ≠ k:=fun e1=>by subst e1; rw [hp] at hk; cases hk
 obtain ⟨as0,t0,hb0⟩:=hlb
 have hbl:=(List.getElem?_eq_some_iff.1 hb0).1
 have hlive:∀ j,j ≠ p->aA h' j->aA h j/\j ≠ k:=fun j hj hl=>by
  rcases cy hl with ⟨_,_,g⟩ | ⟨_,_,_,_,g⟩
  ·rw [hoth j hj] at g
   obtain ⟨g1,g2⟩:=cd g (by simp)
   exact ⟨bT g1,g2⟩
  ·rw [hoth j hj] at g
   obtain ⟨g1,g2⟩:=cd g (by simp)
   exact ⟨di g1,g2⟩
 refine ⟨⟨fun j o hj=>?_,fun j j' x x' h1 h2 h3 h4 h5=>?_,fun j hj=>?_,fun j x hj=>?_,fun j as' ty' hj=>?_,fun j x hj hx=>?_⟩,hs⟩
 ·by_cases e1:j=p
  ·subst e1
   rw [ho] at hj; cases hj
   exact .inr ⟨b,0,[],bY _ _ _,by simp [hbl],by simp,⟨Nat.le_refl _,by omega⟩,fun i hi=>by omega⟩
  ·rw [hoth j e1] at hj
   by_cases hh1:o=.hid
   ·subst hh1; trivial
   ·obtain ⟨g1,g2⟩:=cd hj hh1
    by_cases hd:o=.dead
    ·subst hd
     obtain ⟨k1,k2,k3⟩:=hh.blk j _ g1
     refine ⟨by rw [cg,if_neg e1]; exact k1,k2,?_⟩
     rw [List.getElem?_set,if_neg (fun e2=>by rw [← e2,hb0] at k3; cases k3)]; exact k3
    ·refine bS hs hd (fun b' as' ty' q1 q2=>?_) (hh.blk j _ g1)
     rw [List.getElem?_set,if_neg]
     ·exact q1
     ·intro e2
      subst e2
      obtain ⟨c',e',q3⟩:=q2
      have hlj:aA h j:=by
       unfold aA cB; rw [aF,g1]
       cases o <;> first | rfl | exact (hd rfl).elim | exact (hh1 rfl).elim
      exact g2 (hh.inj j k _ _ hlj hlk q3 hk rfl)
 ·rw [cg] at h3 h4
  by_cases e1:j=p <;> by_cases e2:j'=p
  ·rw [e1,e2]
  ·rw [if_pos e1] at h3; rw [if_neg e2] at h4; cases h3
   obtain ⟨g1,g2⟩:=hlive j' e2 h2
   exact absurd (hh.inj j' k _ _ g1 hlk h4 hk h5.symm) g2
  ·rw [if_neg e1] at h3; rw [if_pos e2] at h4; cases h4
   obtain ⟨g1,g2⟩:=hlive j e1 h1
   exact absurd (hh.inj j k _ _ g1 hlk h3 hk h5) g2
  ·rw [if_neg e1] at h3; rw [if_neg e2] at h4
   exact hh.inj j j' x x' (hlive j e1 h1).1 (hlive j' e2 h2).1 h3 h4 h5
 ·have e1:j ≠ p:=fun e1=>by subst e1; omega
  rw [cg,if_neg e1]
  apply hh.dom
  have:=hoth j e1
  rw [List.getElem?_eq_none hj] at this
  have:=List.getElem?_eq_none_iff.1 this.symm
  simpa using this
 ·rw [cg] at hj
  split at hj
  ·cases hj; simpa using hbl
  ·simpa using hh.rng j x hj
 ·have hj':ν.z[j]? = some (.cells as' ty'):=hj
  rw [List.getElem?_set,if_neg fun e2=>?_]
  ·exact hh.zl j as' ty' hj'
  ·subst e2; exact iu (hh.zn k _ hlk hk) _ _ hj'
 ·rw [cg] at hx
  by_cases e1:j=p
  ·rw [if_pos e1] at hx; cases hx; exact hh.zn k (b,c,e) hlk hk
  ·rw [if_neg e1] at hx; exact hh.zn j x (hlive j e1 hj).1 hx
theorem HR.virt (hh:HR w0 ν nV nS h lh) {p:Nat} {esz:Nat} {f:Nat->List V} {ty:TypeId} (hp:ν p=none) (hpl:p < h'.length) (ho:h'[p]? = some (.gl esz 0 f ty)) (hoth:∀ j,j ≠ p->h'[j]? = h[j]?) :
 HR w0 (upd ν p none) nV nS h' lh/\ν.sub (upd ν p none):=by
 have hs:=dN (x:=none) hp
 have hlive:∀ j,j ≠ p->aA h' j->aA h j:=fun k hk hl=>by unfold aA cB at *; rw [aF] at *; rw [hoth k hk] at hl; exact hl
 refine ⟨⟨fun j o hj=>?_,fun j j' x x' h1 h2 h3 h4 h5=>?_,fun j hj=>?_,fun j x hj=>?_,hh.zl,fun j x hj hx=>?_⟩,hs⟩
 ·by_cases e1:j=p
  ·subst e1
   rw [ho] at hj; cases hj
   exact .inl ⟨bY _ _ _,rfl⟩
  ·rw [hoth j e1] at hj
   by_cases hd:o=.dead
   ·subst hd
    obtain ⟨k1,k2,k3⟩:=hh.blk j _ hj
    exact ⟨by rw [cg,if_neg e1]; exact k1,k2,k3⟩
   ·exact bS hs hd (fun _ _ _ q _=>q) (hh.blk j _ hj)
 ·rw [cg] at h3 h4
  by_cases e1:j=p
  ·rw [if_pos e1] at h3; cases h3
  ·by_cases e2:j'=p
   ·rw [if_pos e2] at h4; cases h4
   ·rw [if_neg e1] at h3; rw [if_neg e2] at h4
    exact hh.inj j j' x x' (hlive j e1 h1) (hlive j' e2 h2) h3 h4 h5
 ·have e1:j ≠ p:=fun e1=>by subst e1; omega
  rw [cg,if_neg e1]
  apply hh.dom
  have:=hoth j e1
  rw [List.getElem?_eq_none hj] at this
  exact List.getElem?_eq_none_iff.1 this.symm
 ·rw [cg] at hj
  split at hj
  ·cases hj
  ·exact hh.rng j x hj
 ·rw [cg] at hx
  by_cases e1:j=p
  ·rw [if_pos e1] at hx; cases hx
  ·rw [if_neg e1] at hx; exact hh.zn j x (hlive j e1 hj) hx
theorem jZ {pl:Option Nat} {o:O} {K:Nat->List O->T α} (hh:HR w0 ν nV nS h lh) (hs:sat LP (dH pl h o K) Q):∃ p h',ν p=none/\p < h'.length/\h'[p]? = some o/\(∀ j,j ≠ p->h'[j]? = h[j]?)/\(pl=none ∨ (pl=some p/\h'=h.set p o/\p < h.length))/\sat LP (K p h') Q:=by
 unfold dH at hs
 split at hs
 ·rw [ba,lZ] at hs
  refine ⟨_,_,hh.dom h.length (Nat.le_refl _),by simp,by simp,fun k hk=>?_,.inl rfl,hs⟩
  rw [List.getElem?_append]; split
  ·rfl
  ·rw [List.getElem?_eq_none (by simp; omega),List.getElem?_eq_none (by omega)]
 ·rename_i p
  rw [aF] at hs
  split at hs
  ·rename_i hd
   rw [eH] at hs
   have hlt:=(List.getElem?_eq_some_iff.1 hd).1
   exact ⟨_,_,(hh.blk p _ hd).1,by simpa using hlt,by simp [hlt],fun k hk=>by simp [hk.symm],.inr ⟨rfl,rfl,hlt⟩,hs⟩
  ·exact hs.elim
theorem E3 {az us:List ab} {off:Nat} (hl:off+us.length<=az.length):wr az off us=az.take off++us++az.drop (off+us.length):=by
 apply List.ext_getElem?
 intro t
 rw [p6 _ _ _ _ hl,List.append_assoc,List.getElem?_append]
 have h1:(az.take off).length=off:=by simp; omega
 rw [h1]
 by_cases h2:t < off
 ·rw [if_neg (by omega),if_pos h2,List.getElem?_take,if_pos h2]
 ·rw [if_neg h2,List.getElem?_append]
  by_cases h3:t < off+us.length
  ·rw [if_pos ⟨by omega,h3⟩,if_pos (by omega)]
  ·rw [if_neg (by omega),if_neg (by omega),List.getElem?_drop]; congr 1; omega
theorem Bz {z:List ab} (n:Nat):(List.replicate n z).flatten.length=n * z.length:=by
 induction n with
 | zero=>simp
 | succ n ih=>rw [List.replicate_succ,List.flatten_cons,List.length_append,ih,Nat.succ_mul]; omega
theorem ly {p j:Nat} {o:O} (hl:aA (h.set p o) j):aA h j ∨ p=j:=by
 by_cases e:p=j
 ·exact .inr e
 ·left; unfold aA cB at *; rw [aF] at *; rw [List.getElem?_set,if_neg e] at hl; exact hl
theorem tK {k j:Nat} (hl:aA (h.set k .hid) j):aA h j:=by
 rcases cy hl with ⟨_,_,g⟩ | ⟨_,_,_,_,g⟩
 ·exact bT (cd g (by simp)).1
 ·exact di (cd g (by simp)).1
theorem uk {p k:Nat} {x y:Option (Nat × Nat × Nat)} (hk:upd ν p x k=some y):ν k=some y ∨ (p=k/\y=x):=by
 rw [cg] at hk
 split at hk
 ·rename_i e; cases hk; exact .inr ⟨e.symm,rfl⟩
 ·exact .inl hk
theorem MDf.put {p b c e:Nat} {o:O} {ob:ac} {wn:List Nat} {pl plA:Option Nat} (hpl:pl=some p) (hplA:plA=some b) (hh:h'=h.set p o) (hl:lh'=lh.set b ob):MDf ν (upd ν p (some (b,c,e))) wn pl plA h h' lh lh':=by
 subst hpl hplA hh hl
 refine ⟨by simp,fun j hj _=>by rw [List.getElem?_set,if_neg (fun e=>hj (by rw [e]))],fun k x hk=>?_,by simp,fun k hk=>?_,rfl⟩
 ·rcases uk hk with h1 | ⟨rfl,rfl⟩
  ·exact .inl h1
  ·exact .inr ⟨rfl,fun y hy=>by cases hy; exact .inl rfl⟩
 ·rcases ly hk with h1 | rfl
  ·exact .inl h1
  ·exact .inr rfl
theorem MDf.hide {k:Nat} {wn:List Nat} {pl plA:Option Nat} (hm:MDf ν ν' wn pl plA (h.set k .hid) h' lh lh'):MDf ν ν' wn pl plA h h' lh lh' :=
 ⟨hm.len,hm.chg,hm.nw,by simpa using hm.hlen,fun j hj=>by
   rcases hm.liv j hj with h1 | h1
   ·exact .inl (tK h1)
   ·exact .inr h1,hm.zz⟩
theorem og {n b:Nat} (hb:b ≠ 0) (h:n * b<=140737488355328):n<=9223372036854775807:=by
 have:n * 1<=n * b:=Nat.mul_le_mul_left n (Nat.one_le_iff_ne_zero.2 hb)
 omega
theorem lN (hh:HR w0 ν nV nS h lh) {pl plA:Option Nat} (hp:plR nV nS pl plA) {ty:TypeId} {esz n m c':Nat} {f g:Nat->List V} {old new zero:List ab} {K:V->List O->T α} {KA:ab->List ac->Prop}
 (hz:zero.length=esz) (ho:old.length=n * esz) (hn:new.length=m * esz) (hc:n+m<=c') (hmx:n+m<=9223372036854775807)
 (h1:∀ i,i < n->okE esz (f i)=true/\vrs w0 ν.z ν (f i) ((old.drop (i * esz)).take esz)) (h2:∀ i,i < m->okE esz (g i)=true/\vrs w0 ν.z ν (g i) ((new.drop (i * esz)).take esz))
 (hs:sat LP (dH pl h (.gl esz (n+m) (bb n f g) ty) fun p h=>K (.gs p (n+m)) h) Q)
 (hK:∀ v h' ν' a lh',(plA ≠ none->∀ wn,MDf ν ν' wn pl plA h h' lh lh')->ν.sub ν'->HR w0 ν' nV nS h' lh'->vr w0 ν'.z ν' v a->sat LP (K v h') Q->KA a lh') :
 place plA lh (.cells (old++new++(List.replicate (c' - (n+m)) zero).flatten) ty) fun b lh'=>KA (.slice (some (.l b 0)) (n+m) c') lh':=by
 refine xw (o:=.gl esz (n+m) (bb n f g) ty) (c:=c') (e:=esz) hh hp (by simp) (fun p b lh' hb hp'=>.inr ⟨b,c',_,bY _ _ _,hb,?_,⟨hc,hmx⟩,fun i hi=>?_⟩) hs (fun p b h' lh' hch hp' hr hs'=>hK _ _ _ _ _ (fun hn wn=>?_) (dN hp') hr ?_ hs')
 ·rw [List.length_append,List.length_append,ho,hn,Bz,hz,← Nat.add_mul,← Nat.add_mul]; congr 1; omega
 ·obtain ⟨g1,g2⟩:=zL rfl ho hn h1 h2 i hi
  exact ⟨g1,gm (dN hp') _ _ g2⟩
 ·rcases hch with ⟨_,e1⟩ | ⟨e1,e2,e3,e4,_⟩
  ·exact (hn e1).elim
  ·exact MDf.put e1 e2 e3 e4
 ·simp only [vr]; exact .inr ⟨b,c',esz,bY _ _ _,rfl,hc⟩
theorem uQ {p:Nat} (hp:ν p=some none):vr w0 lh ν (.gs p 0) (.slice none 0 0):=by
 unfold vr; exact .inl ⟨hp,rfl,rfl⟩
theorem lq (f g:FnV) (i:Nat):bb 0 f g i=g i:=by
 unfold bb
 have:Nat.blt i 0=false:=by
  cases hb:Nat.blt i 0 with
  | false=>rfl
  | true=>have:=Nat.le_of_ble_eq_true hb; omega
 rw [this]; simp
theorem Fv (az:List ab) (off:Nat):wr az off []=az:=rfl
theorem C0 {α:Type} {l:List α} {i:Nat} {x:α} (h:l[i]? = some x):l.set i x=l:=by
 obtain ⟨hi,rfl⟩:=List.getElem?_eq_some_iff.1 h
 exact List.set_getElem_self hi
theorem F8 (hh:HR w0 ν nV nS h lh) {pl plA:Option Nat} (hp:plR nV nS pl plA) {ty:TypeId} {esz bytes:Nat} {zero:List ab} {s x:V} {a a':ab} {K:V->List O->T α} {KA:ab->List ac->Prop}
 (hvs:vr w0 ν.z ν s a) (hvx:vr w0 ν.z ν x a') (hz:zero.length=esz) (hs:sat LP (HD pl h ty esz bytes s x K) Q)
 (hK:∀ v h' ν' a lh',(plA ≠ none->∀ wn,(∀ l,fx h s=some l->∀ k,k ∈ l->k ∈ wn)->MDf ν ν' wn pl plA h h' lh lh')->ν.sub ν'->HR w0 ν' nV nS h' lh'->vr w0 ν'.z ν' v a->sat LP (K v h') Q->KA a lh'):mV w0 lh plA ty esz bytes zero KA a a':=by
 unfold HD at hs
 split at hs
 ·exact hs.elim
 ·rename_i m g q hsrc
  simp only [sat] at hs
  obtain ⟨rfl,hs⟩:=hs
  obtain ⟨q,c2,new,rfl,hnew,hnl,hno,hel⟩:=zy hh hvx hsrc
  have hKp:∀ v h' ν' a lh',(plA ≠ none->∀ wn,MDf ν ν' wn pl plA h h' lh lh')->ν.sub ν'->HR w0 ν' nV nS h' lh'->vr w0 ν'.z ν' v a->sat LP (K v h') Q->KA a lh' :=
   fun v h' ν' a lh' hc=>hK v h' ν' a lh' fun hpl wn _=>hc hpl wn
  have hKh:∀ k v h' ν' a lh',(plA ≠ none->∀ wn,MDf ν ν' wn pl plA (h.set k .hid) h' lh lh')->ν.sub ν'->HR w0 ν' nV nS h' lh'->vr w0 ν'.z ν' v a->sat LP (K v h') Q->KA a lh' :=
   fun k v h' ν' a lh' hc=>hKp v h' ν' a lh' fun hpl wn=>(hc hpl wn).hide
  have hno0:plA ≠ none->pl ≠ none:=fun hn=>by
   rcases hp with ⟨e1,e2⟩ | ⟨p,e1,e2⟩
   ·exact (hn e2).elim
   ·rw [e1]; simp
  have hvirt:∀ {h0 h':List O} {p:Nat} {o:O} {wn:List Nat},plA ≠ none->(pl=none ∨ (pl=some p/\h'=h0.set p o/\p < h0.length))->MDf ν (upd ν p none) wn pl plA h0 h' lh lh:=by
   intro h0 h' p o wn hn hx
   rcases hx with e1 | ⟨e1,e2,_⟩
   ·exact (hno0 hn e1).elim
   ·subst e2
    refine ⟨rfl,fun _ _ _=>rfl,fun k x hk=>?_,by simp,fun k hk=>?_,rfl⟩
    ·rcases uk hk with h1 | ⟨rfl,rfl⟩
     ·exact .inl h1
     ·exact .inr ⟨e1,fun y hy=>by cases hy⟩
    ·rcases ly hk with h1 | rfl
     ·exact .inl h1
     ·exact .inr e1
  have hmove:∀ {k p b c ez c2 e2:Nat} {h':List O} {o:O} {ob:ac} {wn:List Nat},plA ≠ none->ν k=some (some (b,c2,e2))->k ∈ wn->(pl=none ∨ (pl=some p/\h'=(h.set k .hid).set p o/\p < (h.set k .hid).length))->MDf ν (upd ν p (some (b,c,ez))) wn pl plA h h' lh (lh.set b ob):=by
   intro k p b c ez c2 e2 h' o ob wn hn hk hw hx
   rcases hx with e1 | ⟨e1,e3,_⟩
   ·exact (hno0 hn e1).elim
   ·subst e3
    refine ⟨by simp,fun j _ hj=>by rw [List.getElem?_set,if_neg (hj k _ hw hk)],fun k' x hk'=>?_,by simp,fun k' hk'=>?_,rfl⟩
    ·rcases uk hk' with h1 | ⟨rfl,rfl⟩
     ·exact .inl h1
     ·exact .inr ⟨e1,fun y hy=>by cases hy; exact .inr ⟨k,_,hw,hk,rfl⟩⟩
    ·rcases ly hk' with h1 | rfl
     ·exact .inl (tK h1)
     ·exact .inr e1
  split at hs
  ·-- nil
   simp only [sat,Bool.and_eq_true,decide_eq_true_eq,Bool.not_eq_true'] at hs
   obtain ⟨⟨hsz,hb0⟩,hs⟩:=hs
   simp only [vr] at hvs; subst hvs
   have hb:bytes ≠ 0:=fun e=>by subst e; simp at hb0
   refine ⟨new,hnew,fun hle=>?_,fun hlt=>⟨[],by simp [cellsOf],?_,.inr hb,fun c' hc'=>?_⟩⟩
   ·have hm:m=0:=by omega
    subst hm
    obtain ⟨p,h',e1,e2,e3,e4,e6,e5⟩:=jZ hh hs
    obtain ⟨r1,r2⟩:=hh.virt e1 e2 e3 e4
    exact hKp _ _ _ _ _ (fun hn wn=>hvirt hn e6) r2 r1 (uQ (bY _ _ _)) e5
   ·exact growslice_fits hlt (by simpa using hsz)
   ·have e0:bb 0 (fun _=>[]) g=g:=funext fun i=>lq _ g i
    have:=lN (n:=0) (f:=fun _=>[]) (old:=[]) hh hp (K:=K) (KA:=KA) (ty:=ty) (c':=c') (g:=g) (m:=m) hz (by simp) hnl hc' (by rw [Nat.zero_add]; exact og hb (by simpa using hsz)) (fun i hi=>by omega) hel (by rw [e0]; simpa using hs) hKp
    exact this
  ·-- a list
   rename_i k n
   rw [aF] at hs
   split at hs
   ·rename_i e n' f ty' hk
    cases hc:(Nat.beq e esz && Nat.beq ty ty') with
    | false=>rw [hc] at hs; exact hs.elim
    | true =>
      rw [hc] at hs
      simp only [Bool.and_eq_true] at hc
      have:=Nat.eq_of_beq_eq_true hc.1
      subst this
      have:=Nat.eq_of_beq_eq_true hc.2
      subst this
      simp only [cond_true,sat,Bool.and_eq_true,decide_eq_true_eq,Bool.not_eq_true'] at hs
      obtain ⟨⟨⟨hnn,hsz⟩,hb0⟩,hs⟩:=hs
      have hb:bytes ≠ 0:=fun e=>by subst e; simp at hb0
      rw [eH] at hs
      have hlk:=di hk
      have hname:fx h (.gs k n)=some [k]:=by simp only [fx]; unfold aA at hlk; rw [hlk]; rfl
      simp only [vr] at hvs
      rcases hh.blk k _ hk with ⟨h1,h2⟩ | ⟨b,c,az,h1,h2,h3,hn,h5⟩
      ·rcases hvs with ⟨_,h3,h4⟩ | ⟨b,c,e,h3,_⟩
       ·subst h3 h4
        have e0:bb 0 f g=g:=funext fun i=>lq _ g i
        refine ⟨new,hnew,fun hle=>?_,fun hlt=>⟨[],by simp [cellsOf],?_,.inr hb,fun c' hc'=>?_⟩⟩
        ·have hm:m=0:=by omega
         subst hm
         obtain ⟨p,h',e1,e2,e3,e4,e6,e5⟩:=jZ (hh.hide1 k) hs
         obtain ⟨r1,r2⟩:=(hh.hide1 k).virt e1 e2 e3 e4
         exact hKh k _ _ _ _ _ (fun hn wn=>hvirt hn e6) r2 r1 (uQ (bY _ _ _)) e5
        ·exact growslice_fits hlt (by simpa using hsz)
        ·exact lN (n:=0) (f:=f) (old:=[]) (hh.hide1 k) hp (K:=K) (KA:=KA) (c':=c') (g:=g) (m:=m) hz (by simp) hnl hc' (by rw [Nat.zero_add]; exact og hb (by simpa using hsz)) (fun i hi=>by omega) hel (by simpa using hs) (hKh k)
       ·rw [h1] at h3; cases h3
      ·rcases hvs with ⟨h6,_⟩ | ⟨b',c',e',h6,rfl,hnc0⟩
       ·rw [h1] at h6; cases h6
       ·rw [h1] at h6
        obtain ⟨rfl,rfl,rfl⟩:_=b'/\_=c'/\_=e':=by simpa using h6
        have hnc:n * e<=c * e:=Nat.mul_le_mul_right e (by omega)
        have hol:(az.take (n * e)).length=n * e:=by simp; omega
        have hold:∀ i,i < n->okE e (f i)=true/\vrs w0 ν.z ν (f i) (((az.take (n * e)).drop (i * e)).take e):=fun i hi=>by rw [iN hi]; exact h5 i (by omega)
        refine ⟨new,hnew,fun hle=>⟨az,_,h2,hno,?_,?_⟩,fun hlt=>⟨az.take (n * e),?_,?_,.inr hb,fun c' hc'=>?_⟩⟩
        ·rw [Nat.zero_add,hnl,← Nat.add_mul,h3]; exact Nat.mul_le_mul_right e hle
        ·rw [Nat.zero_add]
         obtain ⟨p,h',e1,e2,e3,e4,e6,e5⟩:=jZ (hh.hide1 k) hs
         have hfit:n * e+new.length<=az.length:=by rw [hnl,← Nat.add_mul,h3]; exact Nat.mul_le_mul_right e hle
         obtain ⟨r1,r2⟩:=hh.move (az:=wr az (n * e) new) e1 e2 h1 hlk e3 e4 ⟨_,_,h2⟩ (by rw [kl]; exact h3) ⟨hle,og hb hsz⟩ (zL (E3 hfit) hol hnl hold hel)
         exact hK _ _ _ _ _ (fun hn wn hw=>hmove hn h1 (hw _ hname k List.mem_cons_self) e6) r2 r1 (by simp only [vr]; exact .inr ⟨b,c,e,bY _ _ _,rfl,hle⟩) e5
        ·simp only [cellsOf,lds,h2]; rw [if_pos (by omega)]; simp
        ·exact growslice_fits hlt hsz
        ·exact lN (hh.hide1 k) hp (K:=K) (KA:=KA) (c':=c') hz hol hnl hc' (og hb hsz) hold hel hs (hKh k)
   ·exact hs.elim
  ·-- a block of a known size
   rename_i k off n c
   split at hs
   ·rename_i m' f q' hsrc2
    have hq2:∃ r,xU h esz (.ss k off n c)=some (n,f,true)/\m'=n/\q'=r:=by
     refine ⟨q',?_⟩
     have:=hsrc2
     unfold xU at this
     simp only [aF] at this
     split at this
     ·split at this
      ·cases hd:(List.all _ V.one) with
       | false=>rw [hd] at this; cases this
       | true =>
         rw [hd] at this
         simp only [cond_true] at this
         split at this
         ·cases this; exact ⟨hsrc2,rfl,rfl⟩
         ·cases this; exact ⟨hsrc2,rfl,rfl⟩
      ·cases this
     ·cases this
    obtain ⟨_,hsrc2',rfl,_⟩:=hq2
    obtain ⟨qs,cs,old,e1,hold,hol,hoo,helo⟩:=zy hh hvs hsrc2'
    have hvs':=hvs
    simp only [vr] at hvs'
    obtain ⟨b,c',e',hν,rfl⟩:=hvs'
    cases e1
    split at hs
    ·rename_i hn0 hc0
     rw [aF] at hs
     split at hs
     ·rename_i ty' hk
      cases hc:(Nat.beq ty ty' && Nat.beq off 0) with
      | false=>rw [hc] at hs; exact hs.elim
      | true =>
        rw [hc] at hs
        simp only [Bool.and_eq_true] at hc
        have:=Nat.eq_of_beq_eq_true hc.1
        subst this
        have:=Nat.eq_of_beq_eq_true hc.2
        subst this
        simp only [cond_true,sat,Bool.and_eq_true,decide_eq_true_eq,Bool.not_eq_true'] at hs
        obtain ⟨⟨hsz,hb0⟩,hs⟩:=hs
        have hb:bytes ≠ 0:=fun e=>by subst e; simp at hb0
        rw [eH] at hs
        have hlk:=bT hk
        have hname:fx h (.ss k 0 0 0)=some [k]:=by simp only [fx]; unfold aA at hlk; rw [hlk]; rfl
        obtain ⟨b2,c2',e2',az,h1,h2,h3⟩:=hh.blk k _ hk
        rw [hν] at h1
        obtain ⟨rfl,rfl,rfl⟩:_=b2/\_=c2'/\_=e2':=by simpa using h1
        simp only [vrs] at h3; subst h3
        have e0:bb 0 f g=g:=funext fun i=>lq _ g i
        refine ⟨new,hnew,fun hle=>⟨[],_,h2,hno,?_,?_⟩,fun hlt=>⟨old,hold,?_,.inr hb,fun c' hc'=>?_⟩⟩
        ·have hm:m=0:=by omega
         subst hm
         simp at hnl; subst hnl; simp
        ·have hm:m=0:=by omega
         subst hm
         simp at hnl; subst hnl
         obtain ⟨p,h',e1,e2,e3,e4,e6,e5⟩:=jZ (hh.hide1 k) hs
         -- the block is that of an empty list
         obtain ⟨r1,r2⟩:=hh.renu (az:=[]) e1 e2 hν hlk e3 e4 ⟨_,_,h2⟩ rfl
         exact hK _ _ _ _ _ (fun hn wn hw=>hmove hn hν (hw _ hname k List.mem_cons_self) e6) r2 r1 (by unfold vr; exact .inr ⟨b,0,esz,bY _ _ _,rfl,Nat.le_refl _⟩) e5
        ·exact growslice_fits hlt (by simpa using hsz)
        ·exact lN (n:=0) (f:=f) (hh.hide1 k) hp (K:=K) (KA:=KA) (c':=c') (g:=g) (m:=m) hz hol hnl hc' (by rw [Nat.zero_add]; exact og hb (by simpa using hsz)) (fun i hi=>by omega) hel (by rw [e0]; simpa using hs) (hKh k)
     ·exact hs.elim
    ·have hgr:sat LP (.ob (decide (c < m'+m/\(m'+m) * bytes<=140737488355328) && !Nat.beq bytes 0) (dH pl h (.gl esz (m'+m) (bb m' f g) ty) fun p h=>K (.gs p (m'+m)) h)) Q->mV w0 lh plA ty esz bytes zero KA (.slice (some (.l b off)) m' c) (.slice q m c2):=fun hs=>by
      simp only [sat,Bool.and_eq_true,decide_eq_true_eq,Bool.not_eq_true'] at hs
      obtain ⟨⟨⟨hlt,hsz⟩,hb0⟩,hs⟩:=hs
      have hb:bytes ≠ 0:=fun e=>by subst e; simp at hb0
      refine ⟨new,hnew,fun hle=>by omega,fun _=>⟨old,hold,growslice_fits hlt hsz,.inr hb,fun c' hc'=>?_⟩⟩
      exact lN hh hp (K:=K) (KA:=KA) (c':=c') hz hol hnl hc' (og hb hsz) helo hel hs hKp
     split at hs
     ·simp only [sat] at hs
      cases hm:Nat.beq m 0 with
      | false=>exact hgr (hs.2 hm)
      | true =>
        obtain ⟨hnc,hs2⟩:=hs.1 hm
        have hm0:m=0:=Nat.eq_of_beq_eq_true hm
        have hnc:=Nat.le_of_ble_eq_true hnc
        subst hm0
        rw [Nat.zero_mul] at hnl
        have hnn:new=[]:=List.length_eq_zero_iff.1 hnl
        subst hnn
        have hsr:=hsrc2'
        unfold xU at hsr
        simp only [aF] at hsr
        split at hsr
        ·rename_i csV ty0 hk
         obtain ⟨b2,c2',e2',az,h1,h2,h3⟩:=hh.blk k _ hk
         rw [hν] at h1
         obtain ⟨rfl,rfl,rfl⟩:_=b2/\_=c2'/\_=e2':=by simpa using h1
         have hbd:off+m' * esz<=az.length:=by
          have ho:=hold
          simp only [cellsOf,lds,h2] at ho
          split at ho
          ·assumption
          ·cases ho
         refine ⟨[],hnew,fun _=>⟨az,_,h2,hno,by simpa using hbd,?_⟩,fun hlt=>by omega⟩
         rw [Fv,show lh.set b (.cells az ty0)=lh from C0 h2]
         exact hK _ _ ν _ _ (fun hn wn hw=>MDf.refl ..) (Nu.sub_refl _) hh hvs hs2
        ·cases hsr
     ·exact hgr hs
   ·exact hs.elim
  ·exact hs.elim
end
section
variable {w0:World} {ν ν':Nu} {nV nS N:Nat} {h h':List O} {lh lh':List ac} {α:Type} {LP:db} {Q:α->Prop} {e:Env} {sl:List ab} {ctx:Bool} {S:FuncId->bf}
theorem Hk (c:Bool):∀ {x y z:V} {a b:ab},mrg c x y=some z->(c=true->vr w0 lh ν x a)->(c=false->vr w0 lh ν y b)->vr w0 lh ν z (if c then a else b):=by
 have key:∀ (x:V),(∀ (y z:V) (a b:ab),mrg c x y=some z->(c=true->vr w0 lh ν x a)->(c=false->vr w0 lh ν y b)->vr w0 lh ν z (if c then a else b)):=by
  intro x
  refine V.rec (motive_1:=fun x=>∀ (y z:V) (a b:ab),mrg c x y=some z->(c=true->vr w0 lh ν x a)->(c=false->vr w0 lh ν y b)->vr w0 lh ν z (if c then a else b))
   (motive_2:=fun xs=>∀ (ys zs:List V) (az bs:List ab),Bl c xs ys=some zs->(c=true->vrs w0 lh ν xs az)->(c=false->vrs w0 lh ν ys bs)->vrs w0 lh ν zs (if c then az else bs))
   ?_ ?_ ?_ ?_ ?_ ?_ ?_ ?_ ?_ ?_ ?_ ?_ ?_ ?_ ?_ ?_ ?_ ?_ ?_ ?_ ?_ ?_ x
  case refine_1 =>
   intro k n y z a b hm h1 h2
   cases y <;> simp only [mrg] at hm <;> try cases hm
   split at hm
   ·rename_i he _; subst he; cases hm
    simp only [vr] at *
    cases c
    ·rw [h2 rfl]; rfl
    ·rw [h1 rfl]; rfl
   ·cases hm
  case refine_2 =>
   intro p y z a b hm h1 h2
   simp only [mrg] at hm
   split at hm
   ·rename_i q hq
    cases hm
    cases c
    ·have h2:=h2 rfl
     cases y <;> simp only [kx] at hq <;> cases hq <;> (simp only [vr] at h2 ⊢; subst h2; rfl)
    ·have h1:=h1 rfl
     simp only [vr] at h1 ⊢; subst h1; rfl
   ·cases hm
  case refine_3 =>
   intro p y z a b hm h1 h2
   simp only [mrg] at hm
   split at hm
   ·rename_i q hq
    cases hm
    cases c
    ·have h2:=h2 rfl
     cases y <;> simp only [kx] at hq <;> cases hq <;> (simp only [vr] at h2 ⊢; subst h2; rfl)
    ·have h1:=h1 rfl
     simp only [vr] at h1 ⊢; subst h1; rfl
   ·cases hm
  case refine_4 =>
   intro s y z a b hm h1 h2
   cases y <;> simp only [mrg] at hm <;> try cases hm
   simp only [vr] at *
   cases c
   ·rw [h2 rfl]; rfl
   ·rw [h1 rfl]; rfl
  case refine_5 =>
   intro cs ih y z a b hm h1 h2
   cases y <;> simp only [mrg] at hm <;> try cases hm
   split at hm
   ·rename_i zs hz
    cases hm
    simp only [vr] at *
    cases c
    ·obtain ⟨az,rfl,g⟩:=h2 rfl
     have:=ih _ _ [] az hz (fun h=>by cases h) (fun _=>g)
     exact ⟨az,rfl,by simpa using this⟩
    ·obtain ⟨az,rfl,g⟩:=h1 rfl
     have:=ih _ _ az [] hz (fun _=>g) (fun h=>by cases h)
     exact ⟨az,rfl,by simpa using this⟩
   ·cases hm
  case refine_21 =>
   intro ys zs az bs hm h1 h2
   cases ys <;> simp only [Bl] at hm <;> cases hm
   simp only [vrs] at *
   cases c
   ·simpa using h2 rfl
   ·simpa using h1 rfl
  case refine_22 =>
   intro x xs ihx ihxs ys zs az bs hm h1 h2
   cases ys with
   | nil=>simp [Bl] at hm
   | cons y ys =>
     simp only [Bl] at hm
     split at hm
     ·rename_i z hz
      split at hm
      ·rename_i zs' hzs
       cases hm
       cases c
       ·have h2:=h2 rfl
        simp only [vrs] at h2 ⊢
        obtain ⟨b,bs,rfl,g1,g2⟩:=h2
        have i1:=ihx y z (.any) b hz (fun h=>by cases h) (fun _=>g1)
        have i2:=ihxs ys zs' [] bs hzs (fun h=>by cases h) (fun _=>g2)
        exact ⟨b,bs,rfl,by simpa using i1,by simpa using i2⟩
       ·have h1:=h1 rfl
        simp only [vrs] at h1 ⊢
        obtain ⟨b,bs,rfl,g1,g2⟩:=h1
        have i1:=ihx y z b (.any) hz (fun _=>g1) (fun h=>by cases h)
        have i2:=ihxs ys zs' bs [] hzs (fun _=>g2) (fun h=>by cases h)
        exact ⟨b,bs,rfl,by simpa using i1,by simpa using i2⟩
      ·cases hm
     ·cases hm
  all_goals (intros; rename_i hm _ _; simp [mrg] at hm)
 intro x y z a b h0 h1 h2
 exact key x y z a b h0 h1 h2
theorem Aw:∀ {xs ys:List V} {az bs:List ab} {b:Bool},yV xs ys=some b->vrs w0 lh ν xs az->vrs w0 lh ν ys bs->bX az bs=some b
 | [],[],az,bs,b,hm,h1,h2=>by
   simp only [vrs] at h1 h2; subst h1 h2
   simp only [yV,bX] at *; exact hm
 | [],y::ys,az,bs,b,hm,h1,h2=>by cases y <;> simp [yV] at hm
 | x::xs,[],az,bs,b,hm,h1,h2=>by cases x <;> simp [yV] at hm
 | x :: xs,y::ys,az,bs,b,hm,h1,h2=>by
   cases x <;> cases y <;> simp only [yV] at hm <;> try cases hm
   split at hm
   ·rename_i he _
    subst he
    split at hm
    ·rename_i r hr
     cases hm
     simp only [vrs,vr] at h1 h2
     obtain ⟨_,az,rfl,rfl,h1⟩:=h1
     obtain ⟨_,bs,rfl,rfl,h2⟩:=h2
     simp only [bX,if_true,Aw hr h1 h2,Option.map_some]
    ·cases hm
   ·cases hm
theorem EJ {isMax:Bool} {KA:ab->Prop}:∀ {xs:List V} {x z:V} {az:List ab} {a:ab},mmV isMax x xs=some z->vr w0 lh ν x a->vrs w0 lh ν xs az->(∀ r,vr w0 lh ν z r->KA r)->mm2 isMax a az KA
 | [],x,z,az,a,hm,h1,h2,hK=>by
   simp only [vrs] at h2; subst h2
   cases x <;> (simp only [mmV] at hm; cases hm; unfold mm2; exact hK a h1)
 | y::xs,x,z,az,a,hm,h1,h2,hK=>by
   cases x <;> try (simp [mmV] at hm; done)
   cases y <;> simp only [mmV] at hm <;> try cases hm
   split at hm
   ·rename_i he _
    subst he
    simp only [vrs,vr] at h1 h2
    obtain ⟨_,az,rfl,rfl,h2⟩:=h2
    subst h1
    unfold mm2
    exact ⟨rfl,EJ hm (by simp only [vr]) h2 hK⟩
   ·cases hm
theorem F1 {op:BinOp} {k:IntKind} {x y:Int} {K:V->T α} {KA:ab->Prop} (hc:ctx=true) (hs:sat LP (Du ctx op k x y K) Q) (hK:∀ v a,vr w0 ν.z ν v a->sat LP (K v) Q->KA a):ow op k x y KA:=by
 cases op <;> simp only [Du] at hs <;> simp only [ow]
 case quo=>obtain ⟨h1,h2⟩:=dq hc hs; exact ⟨h1,hK _ _ (by simp only [vr]) h2⟩
 case rem=>obtain ⟨h1,h2⟩:=dq hc hs; exact ⟨h1,hK _ _ (by simp only [vr]) h2⟩
 case shl=>obtain ⟨h1,h2⟩:=dq hc hs; exact ⟨h1,hK _ _ (by simp only [vr]) h2⟩
 case shr=>obtain ⟨h1,h2⟩:=dq hc hs; exact ⟨h1,hK _ _ (by simp only [vr]) h2⟩
 all_goals first | exact hs.elim | exact hK _ _ (by simp only [vr]) hs
theorem Ea {op:BinOp} {x y:V} {a b:ab} {K:V->T α} {KA:ab->Prop} (hc:ctx=true) (h1:vr w0 ν.z ν x a) (h2:vr w0 ν.z ν y b) (hs:sat LP (wV ctx op x y K) Q) (hK:∀ v a,vr w0 ν.z ν v a->sat LP (K v) Q->KA a):Ce op a b KA:=by
 unfold wV at hs
 split at hs
 ·simp only [vr] at h1 h2; subst h1 h2
  split at hs
  ·rename_i he _; subst he
   exact ⟨rfl,F1 hc hs hK⟩
  ·exact hs.elim
 ·simp only [vr] at h1 h2; subst h1 h2
  simp only [Ce]
  split at hs
  ·exact hK _ _ (by simp only [vr]) hs
  ·exact hK _ _ (by simp only [vr]) hs
  ·obtain ⟨g1,g2⟩:=dq hc hs; exact ⟨g1,hK _ _ (by simp only [vr]) g2⟩
  ·exact hs.elim
 ·exact hs.elim
theorem lP {v:V} {a:ab} {b:Bool} (hv:vr w0 lh ν v a) (hb:kx v=some b):a=.bool b:=by
 cases v <;> simp only [kx] at hb <;> cases hb <;> (simp only [vr] at hv; exact hv)
theorem rl {cs ds:List V} {off:Nat} {a:ab} (hv:vr w0 ν.z ν (.pd cs) a) (hd:lY off cs=some ds):∃ p,a=.ptr (some p)/\vr w0 ν.z ν (.pd ds) (.ptr (some (p.add off))):=by
 simp only [vr] at hv
 obtain ⟨p,az,rfl,h1,h2,h3⟩:=hv
 obtain ⟨g1,rfl⟩:=qi hd
 refine ⟨p,rfl,?_⟩
 simp only [vr]
 have:=Ab (i:=off) (m:=cs.length - off) (lh:=ν.z) h2 (by omega) (jw _)
 refine ⟨_,_,rfl,by cases p <;> exact h1,by rw [List.length_drop]; exact this,?_,List.all_eq_true.2 fun x hx=>List.all_eq_true.1 h3.2 x (List.mem_of_mem_drop hx)⟩
 have hl:=mO h2
 rw [List.take_of_length_le (by simp; omega)]
 exact dX off h3.1
theorem fi (y d:Nat) (K:Nat->Prop):bnd none y d K=K d:=rfl
theorem ta {xs:List V} {v:V} (hs:stV h xs v=some h'):∃ k o,h'=h.set k o/\aA h k:=by
 unfold stV at hs
 split at hs
 ·rename_i k off
  rw [aF] at hs
  split at hs
  ·rename_i cs ty hk
   split at hs
   ·cases hs; exact ⟨k,_,eH _ _ _,bT hk⟩
   ·cases hs
  ·cases hs
 ·rename_i k i j
  rw [aF] at hs
  split at hs
  ·rename_i e n f ty hk
   cases hb:Nat.ble (j+aY xs) e with
   | true=>rw [hb] at hs; cases hs; exact ⟨k,_,eH _ _ _,di hk⟩
   | false=>rw [hb] at hs; cases hs
  ·cases hs
 ·cases hs
theorem GO {xs:List V} {v:V} (hs:stV h xs v=some h'):h'.length=h.length:=by
 obtain ⟨k,o,rfl,_⟩:=ta hs; simp
theorem Co {xs:List V} {v:V} {j:Nat} (hs:stV h xs v=some h') (hj:aA h' j):aA h j:=by
 obtain ⟨k,o,rfl,hk⟩:=ta hs
 rcases ly hj with h1 | rfl
 ·exact h1
 ·exact hk
theorem DC:∀ (xs ys cs:List ab) (o:Nat),wr cs o (xs++ys)=wr (wr cs o xs) (o+xs.length) ys
 | [],ys,cs,o=>by simp [wr]
 | x::xs,ys,cs,o=>by simp only [List.cons_append,wr,List.length_cons]; rw [DC xs ys,show o+1+xs.length=o+(xs.length+1) by omega]
theorem BL (n:Nat) (z:List ab):(List.replicate (n+1) z).flatten=(List.replicate n z).flatten++z:=by
 rw [List.replicate_succ',List.flatten_append]; simp
theorem xe {α:Type}:∀ (l z:List α),l.length=z.length->wrV l 0 z=some z
 | [],[],_=>rfl
 | [],_::_,h=>by cases h
 | _::_,[],h=>by cases h
 | x::l,y::z,h=>by simp only [wrV]; rw [xe l z (by simpa using h)]
theorem JG (hh:HR w0 ν nV nS h lh) {k e n' off:Nat} {f:Nat->List V} {ty:TypeId} {z:List V} {za:List ab} (hk:h[k]? = some (.gl e n' f ty)) {b c:Nat} (hν:ν k=some (some (b,c,e))) (hz:vrs w0 ν.z ν z za) (ho:okE e z=true) :
 ∀ n,off+n<=n'->∃ cs,lh[b]? = some (.cells cs ty)/\off * e+n * e<=cs.length/\HR w0 ν nV nS (h.set k (.gl e n' (fun i=>cond (Nat.ble off i && Nat.blt i (off+n)) z (f i)) ty)) (lh.set b (.cells (wr cs (off * e) (List.replicate n za).flatten) ty)):=by
 have hb:=hh.blk k _ hk
 have hoz:=ho
 simp only [okE,Bool.and_eq_true] at hoz
 have hzl:z.length=e:=by have:=Nat.eq_of_beq_eq_true hoz.1; rwa [ba] at this
 have hza:za.length=e:=by rw [aU hz,hzl]
 rcases hb with ⟨h1,_⟩ | ⟨b',c',az,h1,h2,h3,h4,h5⟩
 ·rw [hν] at h1; cases h1
 rw [hν] at h1
 obtain ⟨rfl,rfl⟩:b=b'/\c=c':=by simpa using h1
 intro n
 induction n with
 | zero =>
   intro hn
   refine ⟨az,h2,by rw [h3,Nat.zero_mul,Nat.add_zero]; exact Nat.mul_le_mul_right e (by omega),?_⟩
   have e1:(fun i=>cond (Nat.ble off i && Nat.blt i (off+0)) z (f i))=f:=by
    funext i
    have:(Nat.ble off i && Nat.blt i (off+0))=false:=by
     cases h6:Nat.ble off i with
     | false=>rfl
     | true =>
       have h7:=Nat.le_of_ble_eq_true h6
       cases hb:Nat.blt i (off+0) with
       | false=>rfl
       | true=>have:=Nat.le_of_ble_eq_true hb; omega
    rw [this]; rfl
   rw [e1]
   have e2:h.set k (.gl e n' f ty)=h:=by
    apply List.ext_getElem?; intro j; rw [List.getElem?_set]; split
    ·rename_i e; subst e; obtain ⟨q1,q2⟩:=List.getElem?_eq_some_iff.1 hk; simp [q1,q2]
    ·rfl
   have e3:lh.set b (.cells (wr az (off * e) (List.replicate 0 za).flatten) ty)=lh:=by
    apply List.ext_getElem?; intro j; rw [List.getElem?_set]; split
    ·rename_i e; subst e; obtain ⟨q1,q2⟩:=List.getElem?_eq_some_iff.1 h2; simp [q1,q2,wr]
    ·rfl
   rw [e2,e3]; exact hh
 | succ n ih =>
   intro hn
   obtain ⟨cs,g1,g2,g3⟩:=ih (by omega)
   have hkl:k < h.length:=(List.getElem?_eq_some_iff.1 hk).1
   have hbl:b < lh.length:=(List.getElem?_eq_some_iff.1 h2).1
   have hst:stV (h.set k (.gl e n' (fun i=>cond (Nat.ble off i && Nat.blt i (off+n)) z (f i)) ty)) z (.pe k (off+n) 0)=some (h.set k (.gl e n' (fun i=>cond (Nat.ble off i && Nat.blt i (off+(n+1))) z (f i)) ty)):=by
    have hfl:(cond (Nat.ble off (off+n) && Nat.blt (off+n) (off+n)) z (f (off+n))).length=z.length:=by
     have hf:=(h5 (off+n) (by omega)).1
     simp only [okE,Bool.and_eq_true] at hf
     have:=Nat.eq_of_beq_eq_true hf.1
     rw [ba] at this
     cases (Nat.ble off (off+n) && Nat.blt (off+n) (off+n)) with
     | true=>rfl
     | false=>show (f (off+n)).length=_; rw [this,hzl]
    simp only [stV]
    rw [aF,List.getElem?_set,if_pos rfl,if_pos hkl]
    dsimp only
    have hw:=EI (hfl.trans hzl) 0 z
    rw [xe _ _ hfl] at hw
    unfold wrE at hw
    cases hble:Nat.ble (0+aY z) e with
    | false=>rw [hble] at hw; cases hw
    | true =>
    rw [hble] at hw
    simp only [cond_true,Option.some.injEq] at hw ⊢
    rw [eH,List.set_set]
    congr 3
    funext i
    unfold F2
    rw [hw]
    cases hi:Nat.beq i (off+n) with
    | true =>
      have:=Nat.eq_of_beq_eq_true hi
      subst this
      have h1:Nat.ble off (off+n)=true:=Nat.ble_eq_true_of_le (by omega)
      have h2:Nat.blt (off+n) (off+(n+1))=true:=Nat.ble_eq_true_of_le (by omega)
      rw [h1,h2]; rfl
    | false =>
      have hne:i ≠ off+n:=fun e=>by subst e; rw [Nat.beq_refl] at hi; cases hi
      have : Nat.blt i (off+(n+1))=Nat.blt i (off+n):=by
       cases hb:Nat.blt i (off+n) with
       | true=>have:=Nat.le_of_ble_eq_true hb; exact Nat.ble_eq_true_of_le (by omega)
       | false =>
         cases hb2:Nat.blt i (off+(n+1)) with
         | false=>rfl
         | true =>
           have h7:=Nat.le_of_ble_eq_true hb2
           have:Nat.blt i (off+n)=true:=Nat.ble_eq_true_of_le (by omega)
           rw [this] at hb; cases hb
      rw [this]; rfl
   rw [h2] at g1; cases g1
   obtain ⟨b2,o2,cs2,ty2,k2,c2,e2',e1,e2,e3,e4,e5,e6⟩:=Ej g3 (v:=.pe k (off+n) 0) (a:=.ptr (some (.l b ((off+n) * e+0)))) (by simp only [vr]; exact ⟨b,c,e,hν,rfl⟩) hz hoz.2 hst (fun k1 i1 j1 he e3 n3 f3 ty3 h6=>by
    cases he
    rw [List.getElem?_set,if_pos rfl,if_pos hkl] at h6; cases h6; omega)
   obtain ⟨rfl,rfl⟩:b=b2/\(off+n) * e+0=o2:=by simpa using e1
   rw [List.getElem?_set,if_pos rfl,if_pos hbl] at e2
   cases e2
   refine ⟨az,h2,by rw [kl] at e3; rw [Nat.succ_mul]; rw [Nat.add_mul] at e3; omega,?_⟩
   rw [BL,DC]
   have hfl:(List.replicate n za).flatten.length=n * e:=by simp [hza]
   rw [hfl]
   rw [List.set_set] at e4
   rw [Nat.add_zero,Nat.add_mul] at e4
   exact e4
theorem um {cf:CF α} {md:Bool} {pl plA:Option Nat} {op:IOp} {K:V->List O->T α} {KA:ab->List ac->Prop} {wn:List Nat} (hsl:slR w0 ν N e sl) (hh:HR w0 ν nV nS h lh) (hc:ctx=true) (hcf:ph w0 S LP md cf)
 (hp:plR nV nS pl plA) (hop:md=true->∃ l,opW h e pl op=some l/\∀ k,k ∈ l->k ∈ wn) (hs:sat LP (evI cf ctx pl op e h K) Q)
 (hK:∀ v h' ν' a lh',(md=true->MDf ν ν' wn pl plA h h' lh lh')->(gR op=true->ν'=ν/\h'=h/\lh'=lh)->ν.sub ν'->HR w0 ν' nV nS h' lh'->vr w0 ν'.z ν' v a->sat LP (K v h') Q->KA a lh'):vcI w0 S sl lh plA KA op:=by
 have hK0:∀ v a,vr w0 ν.z ν v a->sat LP (K v h) Q->KA a lh:=fun v a hv hs=>hK v h ν a lh (fun _=>MDf.refl _ _ _ _ _ _) (fun _=>⟨rfl,rfl,rfl⟩) (Nu.sub_refl ν) hh hv hs
 have hplace:∀ {o:O} {az:List ab} {ty:TypeId} {KP:Nat->List O->T α} {F:Nat->ab} {c ez:Nat},(md=true->∃ p,pl=some p)->gR op=false->o ≠ .dead->(∀ p b lh',lh'[b]? = some (.cells az ty)->ν p=none->vq w0 (upd ν p (some (b,c,ez))) nV nS lh' p o) ->
  sat LP (dH pl h o KP) Q->(∀ p b h' lh',ν p=none->HR w0 (upd ν p (some (b,c,ez))) nV nS h' lh'->sat LP (KP p h') Q->∃ v,vr w0 ν.z (upd ν p (some (b,c,ez))) v (F b)/\sat LP (K v h') Q)->place plA lh (.cells az ty) fun b lh'=>KA (F b) lh':=by
  intro o az ty KP F c ez hpl hst hnd hb hs hk
  refine xw hh hp hnd hb hs fun p b h' lh' hch hp' hr hs'=>?_
  obtain ⟨v,hv,hsv⟩:=hk p b h' lh' hp' hr hs'
  refine hK v h' _ _ lh' (fun hm=>?_) (fun e=>by rw [hst] at e; cases e) (dN hp') hr hv hsv
  obtain ⟨p',hp''⟩:=hpl hm
  rcases hch with ⟨g,_⟩ | ⟨e1,e2,e3,e4,_⟩
  ·rw [hp''] at g; cases g
  ·exact MDf.put e1 e2 e3 e4
 have hplN:∀ {z:List Nat},opW h e pl op=some z->(match pl with | some p=>some [p] | none=>none:Option (List Nat))=some z->∃ p,pl=some p:=by
  intro z _ hz
  cases pl with
  | none=>cases hz
  | some p=>exact ⟨p,rfl⟩
 cases op <;> simp only [evI] at hs <;> simp only [vcI]
 case mov x =>
  obtain ⟨u,h1,h2⟩:=aO hsl hc hs
  exact hK0 _ _ h1 h2
 case pick c a b =>
  obtain ⟨u,h1,h2⟩:=aO hsl hc hs
  split at h2
  ·simp only [vr] at h1; rw [h1]
   obtain ⟨v,g1,g2⟩:=aO hsl hc h2
   exact ⟨fun _=>hK0 _ _ g1 g2,fun e=>by cases e⟩
  ·simp only [vr] at h1; rw [h1]
   obtain ⟨v,g1,g2⟩:=aO hsl hc h2
   exact ⟨(fun e=>by cases e),fun _=>hK0 _ _ g1 g2⟩
  ·rename_i c
   simp only [vr] at h1; rw [h1]
   subst hc
   have ha:∀ {x:V} {KK:V->T α} {a:Arg} {cc:Bool},sat LP (rdk (true && cc) (bW e a) KK) Q->∃ u,(cc=true->vr w0 ν.z ν u (arg sl a))/\sat LP (KK u) Q:=by
    intro x KK a cc hs
    have hv:=hsl.arg a
    unfold rdk at hs
    split at hs
    ·rename_i b u hb
     rw [hb] at hv
     simp only [sat] at hs
     simp only [vr] at hv
     exact ⟨u,fun e=>hv.1 (by subst e; simpa using hs.1),hs.2⟩
    ·exact ⟨_,fun _=>hv,hs⟩
   obtain ⟨x,g1,h3⟩:=ha (x:=.any) h2
   obtain ⟨y,g2,h4⟩:=ha (x:=.any) h3
   split at h4
   ·rename_i z hz
    have hm:=Hk (a:=arg sl a) (b:=arg sl b) c hz g1 (fun e=>g2 (by simp [e]))
    refine ⟨fun e=>?_,fun e=>?_⟩
    ·subst e; exact hK0 _ _ (by simpa using hm) h4
    ·subst e; exact hK0 _ _ (by simpa using hm) h4
   ·simp only [sat] at h4
    exact ⟨fun e=>hK0 _ _ (g1 e) (h4.1 e),fun e=>hK0 _ _ (g2 (by simp [e])) (h4.2 e)⟩
  ·exact h2.elim
 case new ty z =>
  refine hplace (o:=.cells (z.map ofA) ty) (c:=0) (ez:=0) (F:=fun b=>.ptr (some (.l b 0))) (fun hm=>?_) rfl (by simp) (fun p b lh' hb hp'=>⟨b,0,0,z,bY _ _ _,hb,kr z⟩) hs (fun p b h' lh' hp' hr hs'=>⟨_,?_,hs'⟩)
  ·obtain ⟨l,g,_⟩:=hop hm; exact hplN g g
  ·simp only [vr]; exact ⟨b,0,0,bY _ _ _,rfl⟩
 case box ty x =>
  obtain ⟨u,h1,h2⟩:=aO hsl hc hs
  cases hf:u.flat with
  | false=>rw [hf] at h2; exact h2.elim
  | true =>
    rw [hf] at h2
    simp only [cond_true] at h2
    obtain ⟨g1,g2⟩:=qB h1 hf
    refine ⟨g1,hplace (o:=.cells u.cells ty) (c:=0) (ez:=0) (F:=fun b=>.ptr (some (.l b 0))) (fun hm=>?_) rfl (by simp) (fun p b lh' hb hp'=>⟨b,0,0,_,bY _ _ _,hb,gm (dN hp') _ _ g2⟩) h2 (fun p b h' lh' hp' hr hs'=>⟨_,?_,hs'⟩)⟩
    ·obtain ⟨l,g,_⟩:=hop hm; exact hplN g g
    ·simp only [vr]; exact ⟨b,0,0,bY _ _ _,rfl⟩
 case agg z ps =>
  exact nW hsl hc (kr z) hs fun cs az g1 g2=>hK0 _ _ (by simp only [vr]; exact ⟨az,rfl,g1⟩) g2
 case bsl ty n z ps =>
  refine nW hsl hc (kr z) hs fun cs az g1 g2=>?_
  refine hplace (o:=.cells cs ty) (c:=0) (ez:=0) (F:=fun b=>.slice (some (.l b 0)) n n) (fun hm=>?_) rfl (by simp) (fun p b lh' hb hp'=>⟨b,0,0,az,bY _ _ _,hb,gm (dN hp') _ _ g1⟩) g2 (fun p b h' lh' hp' hr hs'=>⟨_,?_,hs'⟩)
  ·obtain ⟨l,g,_⟩:=hop hm; exact hplN g g
  ·simp only [vr]; exact ⟨b,0,0,bY _ _ _,rfl⟩
 case ld a =>
  obtain ⟨u,h1,h2⟩:=aO hsl hc hs
  obtain ⟨hpe,h3⟩:=pY hc h2
  split at h3
  ·rename_i v hv
   obtain ⟨p,x,g1,g2,g3⟩:=xQ hh h1 hv hpe
   rw [g1]
   exact ⟨x,g2,hK0 _ _ g3 h3⟩
  ·exact h3.elim
 case lds n a =>
  obtain ⟨u,h1,h2⟩:=aO hsl hc hs
  obtain ⟨hpe,h3⟩:=pY hc h2
  split at h3
  ·rename_i v hv
   obtain ⟨p,x,g1,g2,g3⟩:=AE hh h1 hv hpe
   rw [g1]
   exact ⟨x,g2,hK0 _ _ (by simp only [vr]; exact ⟨x,rfl,g3⟩) h3⟩
  ·exact h3.elim
 case st n a x =>
  obtain ⟨u,h1,h2,hnm⟩:=wE hc (hsl.arg a) hs
  obtain ⟨v,h3,h4⟩:=aO hsl hc h2
  obtain ⟨hpe,h5⟩:=pY hc h4
  cases hf:(v.flat && Nat.beq (aY v.cells) n) with
  | false=>rw [hf] at h5; exact h5.elim
  | true =>
    rw [hf] at h5
    simp only [cond_true] at h5
    simp only [Bool.and_eq_true] at hf
    obtain ⟨g1,g2⟩:=qB h3 hf.1
    have g3:=Nat.eq_of_beq_eq_true hf.2
    rw [ba] at g3
    split at h5
    ·rename_i h' hst
     obtain ⟨b,off,cs,ty,k,c,ez,e1,e2,e3,e4,e5,e6⟩:=Ej hh h1 g2 (yT hf.1) hst hpe
     rw [e1]
     have hl:=aU g2
     refine ⟨cs,ty,e2,g1,by omega,by omega,hK _ _ ν _ _ (fun hm=>?_) (fun e=>by cases e) (Nu.sub_refl ν) e4 (by simp only [vr,vrs]; exact ⟨[],rfl,rfl⟩) h5⟩
     obtain ⟨l,q1,q2⟩:=hop hm
     simp only [opW] at q1
     have:=hnm _ _ q1
     subst this
     rw [e5] at q1; cases q1
     refine ⟨by simp,fun j _ hj=>by rw [List.getElem?_set,if_neg (hj k _ (q2 k List.mem_cons_self) e6)],fun _ _ h=>.inl h,?_,?_,rfl⟩
     ·exact GO hst
     ·exact fun j hj=>.inl (Co hst hj)
    ·exact h5.elim
 case nz x =>
  obtain ⟨u,h1,h2⟩:=aO hsl hc hs
  split at h2
  ·simp only [vr] at h1; obtain ⟨b,c,ez,g1,g2⟩:=h1; rw [g2]; exact hK0 _ _ (by simp only [vr]; exact ⟨b,c,ez,g1,rfl⟩) h2
  ·simp only [vr] at h1; obtain ⟨b,c,ez,g1,g2⟩:=h1; rw [g2]; exact hK0 _ _ (by simp only [vr]; exact ⟨b,c,ez,g1,rfl⟩) h2
  ·simp only [vr] at h1; obtain ⟨p,az,g1,g2,g3,g4⟩:=h1; rw [g1]; exact hK0 _ _ (by simp only [vr]; exact ⟨p,az,rfl,g2,g3,g4⟩) h2
  ·simp only [vr] at h1; obtain ⟨us,vs,g1,g2,g3⟩:=h1; rw [g1]; exact hK0 _ _ (by simp only [vr]; exact ⟨us,vs,rfl,g2,g3⟩) h2
  ·exact h2.elim
 case bin op x y =>
  obtain ⟨u,h1,h2⟩:=aO hsl hc hs
  obtain ⟨v,h3,h4⟩:=aO hsl hc h2
  exact Ea hc h1 h3 h4 fun v a hv hs=>hK0 v a hv hs
 case eqa neg n x y =>
  obtain ⟨u,h1,h2⟩:=aO hsl hc hs
  obtain ⟨v,h3,h4⟩:=aO hsl hc h2
  split at h4
  ·rename_i xs ys
   simp only [vr] at h1 h3
   obtain ⟨az,g1,g2⟩:=h1
   obtain ⟨bs,g3,g4⟩:=h3
   rw [g1,g3]
   split at h4
   ·rename_i b hb
    cases hn:Nat.beq (aY xs) n with
    | false=>rw [hn] at h4; exact h4.elim
    | true =>
      rw [hn] at h4
      have:=Nat.eq_of_beq_eq_true hn
      rw [ba] at this
      exact ⟨by rw [aU g2]; exact this,b,Aw hb g2 g4,hK0 _ _ (by simp only [vr]) h4⟩
   ·exact h4.elim
  ·exact h4.elim
 case eqb neg x y =>
  obtain ⟨u,h1,h2⟩:=aO hsl hc hs
  obtain ⟨v,h3,h4⟩:=aO hsl hc h2
  split at h4
  ·rename_i a b ha hb
   rw [lP h1 ha,lP h3 hb]
   exact hK0 _ _ (by simp only [vr]) h4
  ·exact h4.elim
 case un op x =>
  obtain ⟨u,h1,h2⟩:=aO hsl hc hs
  split at h2
  ·simp only [vr] at h1; rw [h1]; exact hK0 _ _ (by simp only [vr]) h2
  ·simp only [vr] at h1; rw [h1]; exact hK0 _ _ (by simp only [vr]) h2
  ·simp only [vr] at h1; rw [h1]; exact hK0 _ _ (by simp only [vr]) h2
  ·exact h2.elim
 case conv k x =>
  obtain ⟨u,h1,h2⟩:=aO hsl hc hs
  split at h2
  ·simp only [vr] at h1; rw [h1]; exact hK0 _ _ (by simp only [vr]) h2
  ·exact h2.elim
 case mkf f xs ys =>
  split at hs
  ·obtain ⟨us,g1,g2⟩:=ja hsl hc hs
   obtain ⟨vs,g3,g4⟩:=ja hsl hc g2
   exact hK0 _ _ (by simp only [vr]; exact ⟨_,_,rfl,g1,g3⟩) g4
  ·exact hs.elim
 case fa off x =>
  obtain ⟨u,h1,h2⟩:=aO hsl hc hs
  split at h2
  ·simp only [vr] at h1; obtain ⟨b,c,ez,g1,g2⟩:=h1; rw [g2]; exact hK0 _ _ (by simp only [vr]; exact ⟨b,c,ez,g1,rfl⟩) h2
  ·simp only [vr] at h1; obtain ⟨b,c,ez,g1,g2⟩:=h1; rw [g2]; exact hK0 _ _ (by simp only [vr]; exact ⟨b,c,ez,g1,by simp [Ptr.add,Nat.add_assoc]⟩) h2
  ·split at h2
   ·rename_i ds hd
    obtain ⟨p,g1,g2⟩:=rl h1 hd
    rw [g1]; exact hK0 _ _ g2 h2
   ·exact h2.elim
  ·exact h2.elim
 case fld off n x =>
  obtain ⟨u,h1,h2⟩:=aO hsl hc hs
  split at h2
  ·simp only [vr] at h1; obtain ⟨az,g1,g2⟩:=h1; rw [g1]
   split at h2
   ·rename_i n
    split at h2
    ·rename_i ds hd
     obtain ⟨q1,rfl⟩:=mb hd
     exact hK0 _ _ (by simp only [vr]; exact ⟨_,rfl,ew n (dX off g2)⟩) h2
    ·exact h2.elim
   ·split at h2
    ·rename_i v hv
     rw [aF] at hv
     obtain ⟨a,q1,q2⟩:=i7 g2 hv
     exact ⟨a,q1,hK0 _ _ q2 h2⟩
    ·exact h2.elim
  ·exact h2.elim
 case iaA n esz x ix =>
  obtain ⟨u,h1,h2⟩:=aO hsl hc hs
  obtain ⟨v,h3,h4⟩:=aO hsl hc h2
  split at h4
  ·simp only [vr] at h1 h3; obtain ⟨b,c,ez,g1,g2⟩:=h1; rw [g2,h3]
   obtain ⟨⟨q1,q2⟩,q3⟩:=dq hc h4
   exact ⟨q1,q2,hK0 _ _ (by simp only [vr]; exact ⟨b,c,ez,g1,rfl⟩) q3⟩
  ·simp only [vr] at h1 h3; obtain ⟨b,c,ez,g1,g2⟩:=h1; rw [g2,h3]
   obtain ⟨⟨q1,q2⟩,q3⟩:=dq hc h4
   exact ⟨q1,q2,hK0 _ _ (by simp only [vr]; exact ⟨b,c,ez,g1,by simp [Ptr.add,Nat.add_assoc]⟩) q3⟩
  ·simp only [vr] at h3
   split at h4
   ·rename_i ds hd
    obtain ⟨p,g1,g2⟩:=rl h1 hd
    rw [g1,h3]
    obtain ⟨⟨q1,q2⟩,q3⟩:=dq hc h4
    exact ⟨q1,q2,hK0 _ _ g2 q3⟩
   ·exact h4.elim
  ·exact h4.elim
 case iaS esz x ix =>
  obtain ⟨u,h1,h2⟩:=aO hsl hc hs
  obtain ⟨v,h3,h4⟩:=aO hsl hc h2
  split at h4
  ·rename_i n f _ i
   simp only [vr] at h1 h3
   obtain ⟨p,c,ez,g1,g2,g3,g4,g5⟩:=h1
   rw [g1,h3]
   cases hn:Nat.beq (aY (f i.toNat)) esz with
   | false=>rw [hn] at h4; exact h4.elim
   | true =>
     rw [hn] at h4
     have hl:=Nat.eq_of_beq_eq_true hn
     rw [ba] at hl
     obtain ⟨⟨q1,q2⟩,q3⟩:=dq hc h4
     obtain ⟨q,az,k1,k2,k3⟩:=g5 i.toNat (by omega)
     subst k1
     have hez:ez=esz:=by have:=mO k2; have:=aU k3.1; omega
     subst hez
     refine ⟨q1,q2,q,rfl,hK0 _ _ ?_ q3⟩
     simp only [vr]
     exact ⟨_,az,rfl,Ge k2,by rw [hl]; exact k2,k3⟩
  ·simp only [vr] at h1 h3; obtain ⟨b,c,ez,g1,g2⟩:=h1; rw [g2,h3]
   obtain ⟨⟨q1,q2⟩,q3⟩:=dq hc h4
   exact ⟨q1,q2,_,rfl,hK0 _ _ (by simp only [vr]; exact ⟨b,c,ez,g1,rfl⟩) q3⟩
  ·rename_i k n _ i
   rw [aF] at h4
   split at h4
   ·rename_i ez n' f ty hk
    cases hn:Nat.beq ez esz with
    | false=>rw [hn] at h4; exact h4.elim
    | true =>
      rw [hn] at h4
      have hl:=Nat.eq_of_beq_eq_true hn
      subst hl
      obtain ⟨⟨q1,q2,q3⟩,q4⟩:=dq hc h4
      simp only [vr] at h1 h3
      rw [h3]
      rcases h1 with ⟨g1,g2,g3⟩ | ⟨b,c,e',g1,g2,_⟩
      ·omega
      ·rw [g2]
       refine ⟨q1,q2,_,rfl,hK0 _ _ ?_ q4⟩
       simp only [vr]
       rcases hh.blk k _ hk with ⟨k1,_⟩ | ⟨b2,c2,az,k1,_⟩
       ·rw [g1] at k1; cases k1
       ·rw [g1] at k1
        obtain ⟨rfl,rfl,rfl⟩:b=_/\c=_/\e'=_:=by simpa using k1
        exact ⟨b,c,e',g1,by simp [Ptr.add]⟩
   ·exact h4.elim
  ·rename_i k off n _ i
   rw [aF] at h4
   split at h4
   ·rename_i ez n' f ty hk
    cases hn:Nat.beq ez esz with
    | false=>rw [hn] at h4; exact h4.elim
    | true =>
      rw [hn] at h4
      have hl:=Nat.eq_of_beq_eq_true hn
      subst hl
      obtain ⟨⟨q1,q2,q3⟩,q4⟩:=dq hc h4
      simp only [vr] at h1 h3
      rw [h3]
      rcases h1 with ⟨g1,g2,g3⟩ | ⟨b,c,e',o,g1,g2,_,g4⟩
      ·omega
      ·rw [g2,g4 (by omega)]
       refine ⟨q1,q2,_,rfl,hK0 _ _ ?_ q4⟩
       simp only [vr]
       rcases hh.blk k _ hk with ⟨k1,_⟩ | ⟨b2,c2,az,k1,_⟩
       ·rw [g1] at k1; cases k1
       ·rw [g1] at k1
        obtain ⟨rfl,rfl,rfl⟩:b=_/\c=_/\e'=_:=by simpa using k1
        exact ⟨b,c,e',g1,by simp [Ptr.add,Nat.add_mul]⟩
   ·exact h4.elim
  ·obtain ⟨⟨q1,q2⟩,_⟩:=dq hc h4
   omega
  ·exact h4.elim
 case ixA n esz sz x ix =>
  obtain ⟨u,h1,h2⟩:=aO hsl hc hs
  obtain ⟨v,h3,h4⟩:=aO hsl hc h2
  split at h4
  ·simp only [vr] at h1 h3; obtain ⟨az,g1,g2⟩:=h1; rw [g1,h3]
   split at h4
   ·rename_i sz
    split at h4
    ·rename_i ds hd
     obtain ⟨⟨q1,q2⟩,q3⟩:=dq hc h4
     obtain ⟨_,rfl⟩:=mb hd
     exact ⟨q1,q2,hK0 _ _ (by simp only [vr]; exact ⟨_,rfl,ew sz (dX _ g2)⟩) q3⟩
    ·exact h4.elim
   ·split at h4
    ·rename_i w hw
     rw [aF] at hw
     obtain ⟨⟨q1,q2⟩,q3⟩:=dq hc h4
     obtain ⟨a,k1,k2⟩:=i7 g2 hw
     exact ⟨q1,q2,a,k1,hK0 _ _ k2 q3⟩
    ·exact h4.elim
  ·exact h4.elim
 case ixS x ix =>
  obtain ⟨u,h1,h2⟩:=aO hsl hc hs
  obtain ⟨v,h3,h4⟩:=aO hsl hc h2
  split at h4
  ·simp only [vr] at h1 h3; rw [h1,h3]
   obtain ⟨⟨q1,q2⟩,q3⟩:=dq hc h4
   exact ⟨q1,q2,hK0 _ _ (by simp only [vr]) q3⟩
  ·exact h4.elim
 case len x =>
  obtain ⟨u,h1,h2⟩:=aO hsl hc hs
  split at h2
  ·simp only [vr] at h1; obtain ⟨p,c,ez,g1,_,g3,_⟩:=h1; rw [g1]; exact hK0 _ _ (by simp only [vr]) (h2 fun _=>g3)
  ·simp only [vr] at h1; obtain ⟨p,c,ez,g1,g2⟩:=h1; rw [g2]; exact hK0 _ _ (by simp only [vr]) h2
  ·simp only [vr] at h1
   rcases h1 with ⟨g1,g2,g3⟩ | ⟨b,c,e',g1,g2,_⟩
   ·rw [g3]; subst g2; exact hK0 _ _ (by simp only [vr]) h2
   ·rw [g2]; exact hK0 _ _ (by simp only [vr]) h2
  ·simp only [vr] at h1; rw [h1]; exact hK0 _ _ (by simp only [vr]; rfl) h2
  ·simp only [vr] at h1
   rcases h1 with ⟨g1,g2,g3,g4⟩ | ⟨b,c,e',o,g1,g2,_⟩
   ·rw [g4]; subst g2; exact hK0 _ _ (by simp only [vr]) h2
   ·rw [g2]; exact hK0 _ _ (by simp only [vr]) h2
  ·exact h2.elim
 case lenT x =>
  obtain ⟨u,h1,h2⟩:=aO hsl hc hs
  split at h2
  ·simp only [vr] at h1; rw [h1]; exact hK0 _ _ (by simp only [vr]) h2
  ·exact h2.elim
 case lenA n=>exact hK0 _ _ (by simp only [vr]) hs
 case mm b x xs =>
  obtain ⟨u,h1,h2⟩:=aO hsl hc hs
  obtain ⟨us,h3,h4⟩:=ja hsl hc h2
  split at h4
  ·rename_i v hv
   exact EJ hv h1 h3 fun r hr=>hK0 _ _ hr h4
  ·exact h4.elim
 case ext x i =>
  obtain ⟨u,h1,h2⟩:=aO hsl hc hs
  split at h2
  ·simp only [vr] at h1; obtain ⟨az,g1,g2⟩:=h1; rw [g1]
   split at h2
   ·rename_i v hv
    rw [aF] at hv
    obtain ⟨a,q1,q2⟩:=i7 g2 hv
    exact ⟨a,q1,hK0 _ _ q2 h2⟩
   ·exact h2.elim
  ·exact h2.elim
 case slS esz x lo hi mx =>
  obtain ⟨u,h1,h2⟩:=aO hsl hc hs
  obtain ⟨lo',l1,h3⟩:=gK hsl hc h2
  obtain ⟨hi',l2,h4⟩:=gK hsl hc h3
  obtain ⟨mx',l3,h5⟩:=gK hsl hc h4
  split at h5
  ·rename_i n f
   split at h5
   ·simp only [vro] at l3
    rw [l3]
    simp only [vr] at h1
    obtain ⟨p,c,ez,g1,g2,g3,g4,g5⟩:=h1
    rw [g1]
    cases hz:Nat.beq (aY (f 0)) esz with
    | false=>rw [hz] at h5; exact h5.elim
    | true =>
      rw [hz] at h5
      simp only [cond_true] at h5
      have hz:=Nat.eq_of_beq_eq_true hz
      rw [ba] at hz
      dsimp only
      rw [fi]
      refine nA (x:=hi') (y:=n) g2 (cz hc l2 h5 fun b hb1 hb2 h6=>?_)
      have hbn:b<=n:=by
       by_cases e1:hi'=none
       ·have:=hb1 e1; omega
       ·exact hb2 e1
      refine cz hc l1 h6 fun a ha1 ha2 h7=>hK0 _ _ ?_ h7
      have hab:a<=b:=by
       by_cases e1:lo'=none
       ·have:=ha1 e1; omega
       ·exact ha2 e1
      simp only [vr]
      refine ⟨_,c - a,esz,rfl,by omega,by omega,?_,fun i hi=>?_⟩
      ·split
       ·exact g4
       ·cases p with
        | none=>trivial
        | some q=>cases q with
          | l k o =>
            obtain ⟨cs,ty,q1,q2⟩:=g4
            refine ⟨cs,ty,q1,?_⟩
            by_cases ha0:a=0
            ·subst ha0; simpa using q2
            ·obtain ⟨q0,as0,j1,j2,j3⟩:=g5 0 (by omega)
             have hez:ez=esz:=by have:=mO j2; have:=aU j3.1; omega
             obtain ⟨q3,as3,m1,m2,_⟩:=g5 (a - 1) (by omega)
             cases m1
             simp only [Ptr.add,lds,q1] at m2
             split at m2
             ·rename_i hle
              have h3:a * ez=(a - 1) * ez+ez:=by rw [← Nat.succ_mul]; congr 1; omega
              show o+a * esz<=cs.length
              rw [← hez]; omega
             ·cases m2
          | g ad=>trivial
      ·obtain ⟨q,az,k1,k2,k3⟩:=g5 (a+i) (by omega)
       obtain ⟨q0,as0,j1,j2,j3⟩:=g5 0 (by omega)
       have hez:ez=esz:=by have:=mO j2; have:=aU j3.1; omega
       subst hez
       refine ⟨q.add (a * ez),az,?_,?_,k3⟩
       ·rw [if_neg (by omega),k1]; rfl
       ·rw [vV,← Nat.add_mul]; exact k2
   ·exact h5.elim
  ·rename_i k n
   split at h5
   ·simp only [vro] at l1 l3
    rw [l1,l3]
    simp only [vr] at h1
    rcases h1 with ⟨g1,g2,g3⟩ | ⟨b,c,e',g1,g2,g3⟩
    ·rw [g3]
     subst g2
     dsimp only
     rw [fi]
     refine cz hc l2 h5 fun b hb1 hb2 h6=>?_
     have hb:b=0:=by
      by_cases e1:hi'=none
      ·exact hb1 e1
      ·have:=hb2 e1; omega
     subst hb
     rw [fi]
     exact hK0 _ _ (uQ g1) h6
    ·rw [g2]
     dsimp only
     rw [fi]
     refine nA (x:=hi') (y:=n) g3 (cz hc l2 h5 fun b' hb1 hb2 h6=>?_)
     have hbn:b'<=n:=by
      by_cases e1:hi'=none
      ·have:=hb1 e1; omega
      ·exact hb2 e1
     rw [fi]
     refine hK0 _ _ ?_ h6
     simp only [vr]
     refine .inr ⟨b,c,e',g1,?_,by omega⟩
     simp [Ptr.add]
   ·rename_i lo2
    rw [aF] at h5
    split at h5
    ·rename_i e2 n2 f2 ty2 hk
     cases hn:Nat.beq e2 esz with
     | false=>rw [hn] at h5; exact h5.elim
     | true =>
       rw [hn] at h5
       simp only [cond_true] at h5
       have:=Nat.eq_of_beq_eq_true hn
       subst this
       simp only [vro] at l3
       rw [l3]
       simp only [vr] at h1
       rcases h1 with ⟨g1,g2,g3⟩ | ⟨b,c,e',g1,g2,g3⟩
       ·rw [g3]
        subst g2
        dsimp only
        rw [fi]
        refine cz hc l2 h5 fun b hb1 hb2 h6=>?_
        have hb:b=0:=by
         by_cases e1:hi'=none
         ·exact hb1 e1
         ·have:=hb2 e1; omega
        subst hb
        refine cz hc l1 h6 fun a ha1 ha2 h7=>hK0 _ _ ?_ h7
        have ha:a=0:=by have:=ha2 (by simp); omega
        subst ha
        simp only [vr]
        exact .inl ⟨g1,trivial,trivial,by simp⟩
       ·rw [g2]
        dsimp only
        rw [fi]
        refine nA (x:=hi') (y:=n) g3 (cz hc l2 h5 fun b' hb1 hb2 h6=>?_)
        have hbn:b'<=n:=by
         by_cases e1:hi'=none
         ·have:=hb1 e1; omega
         ·exact hb2 e1
        refine cz hc l1 h6 fun a ha1 ha2 h7=>hK0 _ _ ?_ h7
        have hab:a<=b':=ha2 (by simp)
        have he:e'=e2:=by
         rcases hh.blk k _ hk with ⟨k1,_⟩ | ⟨b2,c2,az,k1,_⟩
         ·rw [g1] at k1; cases k1
         ·rw [g1] at k1; simp at k1; exact k1.2.2
        subst he
        simp only [vr]
        by_cases hm:c=a
        ·refine .inr ⟨b,c,e',0,g1,by rw [if_pos hm],⟨by omega,Nat.zero_le _⟩,fun h0=>by omega⟩
        ·refine .inr ⟨b,c,e',a * e',g1,by rw [if_neg hm]; simp [Ptr.add],⟨by omega,Nat.mul_le_mul_right _ (by omega)⟩,fun _=>rfl⟩
    ·exact h5.elim
   ·exact h5.elim
  ·rename_i k o n c
   simp only [vr] at h1
   obtain ⟨b,c',e',g1,g2⟩:=h1
   rw [g2]
   refine cz hc l3 h5 fun m _ _ h6=>cz hc l2 h6 fun b' _ _ h7=>cz hc l1 h7 fun a _ _ h8=>hK0 _ _ ?_ h8
   simp only [vr]
   refine ⟨b,c',e',g1,?_⟩
   unfold Fb
   by_cases hm:m=a
   ·subst hm; simp
   ·rw [if_neg hm]
    have:Nat.beq m a=false:=by
     cases hb:Nat.beq m a with
     | false=>rfl
     | true=>exact (hm (Nat.eq_of_beq_eq_true hb)).elim
    rw [this]; simp [Ptr.add]
  ·split at h5
   ·simp only [vro] at l3
    rw [l3]
    simp only [vr] at h1
    rw [h1]
    dsimp only
    rw [fi]
    refine cz hc l2 h5 fun b hb1 hb2 h6=>?_
    have hb:b=0:=by
     by_cases e1:hi'=none
     ·exact hb1 e1
     ·have:=hb2 e1; omega
    subst hb
    refine cz hc l1 h6 fun a ha1 ha2 h7=>?_
    have ha:a=0:=by
     by_cases e1:lo'=none
     ·exact ha1 e1
     ·have:=ha2 e1; omega
    subst ha
    exact hK0 _ _ (by simp only [vr]; rfl) h7
   ·exact h5.elim
  ·exact h5.elim
 case slA n esz x lo hi mx =>
  obtain ⟨u,h1,h2⟩:=aO hsl hc hs
  obtain ⟨lo',l1,h3⟩:=gK hsl hc h2
  obtain ⟨hi',l2,h4⟩:=gK hsl hc h3
  obtain ⟨mx',l3,h5⟩:=gK hsl hc h4
  split at h5
  ·rename_i k o
   simp only [vr] at h1
   obtain ⟨b,c',e',g1,g2⟩:=h1
   rw [g2]
   refine cz hc l3 h5 fun m _ _ h6=>cz hc l2 h6 fun b' _ _ h7=>cz hc l1 h7 fun a _ _ h8=>hK0 _ _ ?_ h8
   simp only [vr]
   refine ⟨b,c',e',g1,?_⟩
   unfold Fb
   by_cases hm:m=a
   ·subst hm; simp
   ·rw [if_neg hm]
    have:Nat.beq m a=false:=by
     cases hb:Nat.beq m a with
     | false=>rfl
     | true=>exact (hm (Nat.eq_of_beq_eq_true hb)).elim
    rw [this]; simp [Ptr.add]
  ·exact h5.elim
 case slT x lo hi =>
  obtain ⟨u,h1,h2⟩:=aO hsl hc hs
  obtain ⟨lo',l1,h3⟩:=gK hsl hc h2
  obtain ⟨hi',l2,h4⟩:=gK hsl hc h3
  split at h4
  ·simp only [vr] at h1
   rw [h1]
   exact cz hc l2 h4 fun b' _ _ h7=>cz hc l1 h7 fun a _ _ h8=>hK0 _ _ (by simp only [vr]) h8
  ·exact h4.elim
 case app ty esz bytes z s x =>
  obtain ⟨u,h1,h2,hnm⟩:=wE hc (hsl.arg s) hs
  obtain ⟨v,h3,h4⟩:=aO hsl hc h2
  cases hz:Nat.beq (aY z) esz with
  | false=>rw [hz] at h4; exact h4.elim
  | true =>
    rw [hz] at h4
    have hz:=Nat.eq_of_beq_eq_true hz
    rw [ba] at hz
    refine F8 hh hp h1 h3 hz h4 fun v h' ν' a lh' hch g1 g2 g3 g4=>hK v h' ν' a lh' (fun hm=>?_) (fun e=>by cases e) g1 g2 g3 g4
    obtain ⟨l,q1,q2⟩:=hop hm
    simp only [opW] at q1
    split at q1
    ·rename_i l0 p hl0
     cases q1
     have:=hnm _ _ hl0
     subst this
     have hpa:plA ≠ none:=by
      rcases hp with ⟨g,_⟩ | ⟨_,_,g⟩
      ·cases g
      ·rw [g]; simp
     exact hch hpa wn fun l hn k hk=>q2 k (by rw [hl0] at hn; cases hn; exact List.mem_cons_of_mem _ hk)
    ·cases q1
 case mks ty n cs =>
  refine hplace (o:=.cells (cs.map ofA) ty) (c:=0) (ez:=0) (F:=fun b=>.slice (some (.l b 0)) n n) (fun hm=>?_) rfl (by simp) (fun p b lh' hb hp'=>⟨b,0,0,cs,bY _ _ _,hb,kr cs⟩) hs (fun p b h' lh' hp' hr hs'=>⟨_,?_,hs'⟩)
  ·obtain ⟨l,g,_⟩:=hop hm; exact hplN g g
  ·simp only [vr]; exact ⟨b,0,0,bY _ _ _,rfl⟩
 case call f xs =>
  obtain ⟨us,h1,h2⟩:=ja hsl hc hs
  exact hcf f us h K Q ν nV nS _ lh KA h1 hh h2 fun v h' ν' a lh' hm=>hK v h' ν' a lh' (fun h=>by obtain ⟨e1,e2,e3⟩:=hm h; subst e1 e2 e3; exact MDf.refl _ _ _ _ _ _) (fun e=>by cases e)
 case isn neg x =>
  obtain ⟨u,h1,h2⟩:=aO hsl hc hs
  split at h2
  ·simp only [vr] at h1; rw [h1]; exact hK0 _ _ (by simp only [vr]; cases neg <;> rfl) h2
  ·simp only [vr] at h1; obtain ⟨b,c,ez,g1,g2⟩:=h1; rw [g2]; exact hK0 _ _ (by simp only [vr]; cases neg <;> rfl) h2
  ·simp only [vr] at h1
   obtain ⟨p,c,ez,g1,g2,g3,g4,g5⟩:=h1
   rw [g1]
   simp only [sat] at h2
   cases p with
   | none=>exact hK0 _ _ (by simp only [vr]; cases neg <;> rfl) (h2.1 (by
      rename_i n f
      cases n with
      | zero=>rfl
      | succ n=>obtain ⟨q,az,k1,_⟩:=g5 0 (by omega); cases k1))
   | some p=>exact hK0 _ _ (by simp only [vr]; cases neg <;> rfl) h2.2
  ·simp only [vr] at h1
   simp only [sat] at h2
   rcases h1 with ⟨g1,g2,g3⟩ | ⟨b,c,e',g1,g2,_⟩
   ·rw [g3]; exact hK0 _ _ (by simp only [vr]; cases neg <;> rfl) (h2.1 g2)
   ·rw [g2]; exact hK0 _ _ (by simp only [vr]; cases neg <;> rfl) h2.2
  ·exact h2.elim
 case clr esz z x =>
  obtain ⟨u,h1,h2⟩:=aO hsl hc hs
  split at h2
  ·rename_i k off n
   rw [aF] at h2
   split at h2
   ·rename_i e' n' f ty hk
    cases hb:(Nat.beq e' esz && okE e' (z.map ofA)) with
    | false=>rw [hb] at h2; exact h2.elim
    | true =>
      rw [hb] at h2
      simp only [cond_true,sat,decide_eq_true_eq] at h2
      simp only [Bool.and_eq_true] at hb
      have:=Nat.eq_of_beq_eq_true hb.1
      subst this
      obtain ⟨⟨hn0,hle⟩,h3⟩:=h2
      simp only [vr] at h1
      rcases h1 with ⟨_,g2,_⟩ | ⟨b,c,e2,o,g1,g2,g3,g4⟩
      ·omega
      ·rw [g2,g4 hn0]
       have he:e2=e':=by
        rcases hh.blk k _ hk with ⟨k1,_⟩ | ⟨b2,c2,az,k1,_⟩
        ·rw [g1] at k1; cases k1
        ·rw [g1] at k1; simp at k1; exact k1.2.2
       subst he
       obtain ⟨cs,q1,q2,q3⟩:=JG (z:=z.map ofA) (za:=z) hh hk g1 (kr z) hb.2 n hle
       rw [eH] at h3
       refine ⟨cs,ty,q1,by omega,q2,hK _ _ ν _ _ (fun hm=>?_) (fun e=>by cases e) (Nu.sub_refl ν) q3 (by simp only [vr,vrs]; exact ⟨[],rfl,rfl⟩) h3⟩
       obtain ⟨l,q4,_⟩:=hop hm
       cases q4
   ·exact h2.elim
  ·exact h2.elim
 case callv x xs =>
  obtain ⟨u,h1,h2⟩:=aO hsl hc hs
  obtain ⟨us,h3,h4⟩:=ja hsl hc h2
  split at h4
  ·simp only [vr] at h1; obtain ⟨az,bs,g1,g2,g3⟩:=h1; rw [g1]
   rw [gQ,gQ] at h4
   exact hcf _ _ h K Q ν nV nS _ lh KA (gp (gp g2 h3) g3) hh h4 fun v h' ν' a lh' hm=>hK v h' ν' a lh' (fun h=>by obtain ⟨e1,e2,e3⟩:=hm h; subst e1 e2 e3; exact MDf.refl _ _ _ _ _ _) (fun e=>by cases e)
  ·exact h4.elim
end
section
variable {w0:World} {ν ν':Nu} {nV nS N:Nat} {h h':List O} {lh lh':List ac} {α:Type} {LP:db} {Q:α->Prop} {e:Env} {sl:List ab} {ctx:Bool} {S:FuncId->bf}
theorem aV {v:V} {K:V->T α} (hs:sat LP (rdk ctx v K) Q):∃ u,sat LP (K u) Q:=by
 unfold rdk at hs
 split at hs
 ·simp only [sat] at hs; exact ⟨_,hs.2⟩
 ·exact ⟨_,hs⟩
theorem mQ:∀ {xs:List Arg} {K:List V->T α},sat LP (pT ctx e xs K) Q->∃ us,sat LP (K us) Q
 | [],K,hs=>⟨[],hs⟩
 | x::xs,K,hs=>by
   simp only [pT] at hs
   obtain ⟨u,h1⟩:=aV hs
   obtain ⟨us,h2⟩:=mQ h1
   exact ⟨_,h2⟩
theorem ff {x:Option Arg} {K:Option V->T α} (hs:sat LP (pj ctx e x K) Q):∃ u,sat LP (K u) Q:=by
 cases x with
 | none=>exact ⟨none,hs⟩
 | some x=>simp only [pj] at hs; obtain ⟨u,h1⟩:=aV hs; exact ⟨_,h1⟩
theorem dg {p:Prop} [Decidable p] {x:T α} (hs:sat LP (obg ctx p x) Q):sat LP x Q:=by
 simp only [obg,sat] at hs; exact hs.2
theorem cw {x:Option V} {y d:Nat} {K:Nat->T α} (hs:sat LP (je ctx x y d K) Q):∃ n,sat LP (K n) Q:=by
 unfold je at hs
 split at hs
 ·exact ⟨_,hs⟩
 ·exact ⟨_,dg hs⟩
 ·exact hs.elim
theorem qe:∀ {ps:List (Nat × Nat × Arg)} {z:List V} {K:List V->T α},sat LP (kX ctx e ps z K) Q->∃ cs,sat LP (K cs) Q
 | [],z,K,hs=>⟨_,hs⟩
 | (off,n,x)::ps,z,K,hs=>by
   simp only [kX] at hs
   obtain ⟨v,h2⟩:=aV hs
   cases hf:(v.flat && Nat.beq (aY v.cells) n) with
   | false=>rw [hf] at h2; exact h2.elim
   | true =>
     rw [hf] at h2
     simp only [cond_true] at h2
     split at h2
     ·exact qe h2
     ·exact h2.elim
theorem Aq {v:V} {x:T α} (hs:sat LP (chk ctx h v x) Q):sat LP x Q:=by
 unfold chk at hs
 split at hs
 ·split at hs
  ·exact dg hs
  ·exact hs.elim
 ·exact hs
theorem C3 {op:BinOp} {k:IntKind} {x y:Int} {K:V->T α} (hs:sat LP (Du ctx op k x y K) Q):∃ v,sat LP (K v) Q:=by
 cases op <;> simp only [Du] at hs <;> first | exact hs.elim | exact ⟨_,hs⟩ | exact ⟨_,dg hs⟩
theorem BC {op:BinOp} {x y:V} {K:V->T α} (hs:sat LP (wV ctx op x y K) Q):∃ v,sat LP (K v) Q:=by
 unfold wV at hs
 split at hs
 ·split at hs
  ·exact C3 hs
  ·exact hs.elim
 ·split at hs
  ·exact ⟨_,hs⟩
  ·exact ⟨_,hs⟩
  ·exact ⟨_,dg hs⟩
  ·exact hs.elim
 ·exact hs.elim
theorem zq {cf:CF α} {op:IOp} {K:V->List O->T α} (hc0:ctx=false) (hst:gR op=true) (hs:sat LP (evI cf ctx none op e h K) Q):∃ v,sat LP (K v h) Q:=by
 cases op <;> simp only [gR] at hst <;> simp only [evI] at hs <;> try (cases hst; done)
 case mov x=>obtain ⟨u,h1⟩:=aV hs; exact ⟨_,h1⟩
 case pick c a b =>
  obtain ⟨u,h1⟩:=aV hs
  split at h1
  ·obtain ⟨u,h1⟩:=aV h1; exact ⟨_,h1⟩
  ·obtain ⟨u,h1⟩:=aV h1; exact ⟨_,h1⟩
  ·obtain ⟨u,h1⟩:=aV h1
   obtain ⟨u,h1⟩:=aV h1
   split at h1
   ·exact ⟨_,h1⟩
   ·simp only [sat] at h1
    rcases Bool.eq_false_or_eq_true (b:=_) with hb | hb
    ·exact ⟨_,h1.1 hb⟩
    ·exact ⟨_,h1.2 hb⟩
  ·exact h1.elim
 case agg z ps=>obtain ⟨cs,h1⟩:=qe hs; exact ⟨_,h1⟩
 case ld a =>
  obtain ⟨u,h1⟩:=aV hs
  have h1:=Aq h1
  split at h1
  ·exact ⟨_,h1⟩
  ·exact h1.elim
 case lds n a =>
  obtain ⟨u,h1⟩:=aV hs
  have h1:=Aq h1
  split at h1
  ·exact ⟨_,h1⟩
  ·exact h1.elim
 case nz x =>
  obtain ⟨u,h1⟩:=aV hs
  split at h1 <;> first | exact ⟨_,h1⟩ | exact h1.elim
 case bin op x y =>
  obtain ⟨u,h1⟩:=aV hs
  obtain ⟨v,h2⟩:=aV h1
  exact BC h2
 case eqa neg n x y =>
  obtain ⟨u,h1⟩:=aV hs
  obtain ⟨v,h2⟩:=aV h1
  split at h2
  ·rename_i xs ys
   split at h2
   ·rename_i b hb
    cases hn:Nat.beq (aY xs) n with
    | false=>rw [hn] at h2; exact h2.elim
    | true=>rw [hn] at h2; exact ⟨_,h2⟩
   ·exact h2.elim
  ·exact h2.elim
 case eqb neg x y =>
  obtain ⟨u,h1⟩:=aV hs
  obtain ⟨v,h2⟩:=aV h1
  split at h2
  ·exact ⟨_,h2⟩
  ·exact h2.elim
 case un op x =>
  obtain ⟨u,h1⟩:=aV hs
  split at h1 <;> first | exact ⟨_,h1⟩ | exact h1.elim
 case conv k x =>
  obtain ⟨u,h1⟩:=aV hs
  split at h1 <;> first | exact ⟨_,h1⟩ | exact h1.elim
 case mkf f xs ys =>
  split at hs
  ·obtain ⟨us,g1⟩:=mQ hs
   obtain ⟨vs,g2⟩:=mQ g1
   exact ⟨_,g2⟩
  ·exact hs.elim
 case fa off x =>
  obtain ⟨u,h1⟩:=aV hs
  split at h1
  ·exact ⟨_,h1⟩
  ·exact ⟨_,h1⟩
  ·split at h1
   ·exact ⟨_,h1⟩
   ·exact h1.elim
  ·exact h1.elim
 case fld off n x =>
  obtain ⟨u,h1⟩:=aV hs
  split at h1
  ·split at h1
   ·split at h1
    ·exact ⟨_,h1⟩
    ·exact h1.elim
   ·split at h1
    ·exact ⟨_,h1⟩
    ·exact h1.elim
  ·exact h1.elim
 case iaA n esz x ix =>
  obtain ⟨u,h1⟩:=aV hs
  obtain ⟨v,h2⟩:=aV h1
  split at h2
  ·exact ⟨_,dg h2⟩
  ·exact ⟨_,dg h2⟩
  ·split at h2
   ·exact ⟨_,dg h2⟩
   ·exact h2.elim
  ·exact h2.elim
 case iaS esz x ix =>
  obtain ⟨u,h1⟩:=aV hs
  obtain ⟨v,h2⟩:=aV h1
  split at h2
  ·rename_i n f _ i
   cases hn:Nat.beq (aY (f i.toNat)) esz with
   | false=>rw [hn] at h2; exact h2.elim
   | true=>rw [hn] at h2; exact ⟨_,dg h2⟩
  ·exact ⟨_,dg h2⟩
  ·split at h2
   ·rename_i ez n' f ty hk
    cases hn:Nat.beq ez esz with
    | false=>rw [hn] at h2; exact h2.elim
    | true=>rw [hn] at h2; exact ⟨_,dg h2⟩
   ·exact h2.elim
  ·split at h2
   ·rename_i ez n' f ty hk
    cases hn:Nat.beq ez esz with
    | false=>rw [hn] at h2; exact h2.elim
    | true=>rw [hn] at h2; exact ⟨_,dg h2⟩
   ·exact h2.elim
  ·exact ⟨_,dg h2⟩
  ·exact h2.elim
 case ixA n esz sz x ix =>
  obtain ⟨u,h1⟩:=aV hs
  obtain ⟨v,h2⟩:=aV h1
  split at h2
  ·split at h2
   ·split at h2
    ·exact ⟨_,dg h2⟩
    ·exact h2.elim
   ·split at h2
    ·exact ⟨_,dg h2⟩
    ·exact h2.elim
  ·exact h2.elim
 case ixS x ix =>
  obtain ⟨u,h1⟩:=aV hs
  obtain ⟨v,h2⟩:=aV h1
  split at h2
  ·exact ⟨_,dg h2⟩
  ·exact h2.elim
 case len x =>
  obtain ⟨u,h1⟩:=aV hs
  split at h1 <;> first | exact ⟨_,h1 fun e=>by rw [hc0] at e; cases e⟩ | exact ⟨_,h1⟩ | exact h1.elim
 case lenT x =>
  obtain ⟨u,h1⟩:=aV hs
  split at h1 <;> first | exact ⟨_,h1⟩ | exact h1.elim
 case lenA n=>exact ⟨_,hs⟩
 case mm b x xs =>
  obtain ⟨u,h1⟩:=aV hs
  obtain ⟨us,h2⟩:=mQ h1
  split at h2
  ·exact ⟨_,h2⟩
  ·exact h2.elim
 case ext x i =>
  obtain ⟨u,h1⟩:=aV hs
  split at h1
  ·split at h1
   ·exact ⟨_,h1⟩
   ·exact h1.elim
  ·exact h1.elim
 case slS esz x lo hi mx =>
  obtain ⟨u,h1⟩:=aV hs
  obtain ⟨lo',h2⟩:=ff h1
  obtain ⟨hi',h3⟩:=ff h2
  obtain ⟨mx',h4⟩:=ff h3
  split at h4
  ·rename_i n f
   split at h4
   ·cases hz:Nat.beq (aY (f 0)) esz with
    | false=>rw [hz] at h4; exact h4.elim
    | true =>
      rw [hz] at h4
      simp only [cond_true] at h4
      obtain ⟨_,h5⟩:=cw h4
      obtain ⟨_,h6⟩:=cw h5
      exact ⟨_,h6⟩
   ·exact h4.elim
  ·split at h4
   ·obtain ⟨_,h5⟩:=cw h4
    exact ⟨_,h5⟩
   ·split at h4
    ·rename_i ez n' f ty hk
     cases hn:Nat.beq ez esz with
     | false=>rw [hn] at h4; exact h4.elim
     | true =>
       rw [hn] at h4
       simp only [cond_true] at h4
       obtain ⟨_,h5⟩:=cw h4
       obtain ⟨_,h6⟩:=cw h5
       exact ⟨_,h6⟩
    ·exact h4.elim
   ·exact h4.elim
  ·obtain ⟨_,h5⟩:=cw h4
   obtain ⟨_,h6⟩:=cw h5
   obtain ⟨_,h7⟩:=cw h6
   exact ⟨_,h7⟩
  ·split at h4
   ·obtain ⟨_,h5⟩:=cw h4
    obtain ⟨_,h6⟩:=cw h5
    exact ⟨_,h6⟩
   ·exact h4.elim
  ·exact h4.elim
 case isn neg x =>
  obtain ⟨u,h1⟩:=aV hs
  split at h1
  ·exact ⟨_,h1⟩
  ·exact ⟨_,h1⟩
  ·exact ⟨_,h1.2⟩
  ·exact ⟨_,h1.2⟩
  ·exact h1.elim
 case slA n esz x lo hi mx =>
  obtain ⟨u,h1⟩:=aV hs
  obtain ⟨lo',h2⟩:=ff h1
  obtain ⟨hi',h3⟩:=ff h2
  obtain ⟨mx',h4⟩:=ff h3
  split at h4
  ·obtain ⟨_,h5⟩:=cw h4
   obtain ⟨_,h6⟩:=cw h5
   obtain ⟨_,h7⟩:=cw h6
   exact ⟨_,h7⟩
  ·exact h4.elim
 case slT x lo hi =>
  obtain ⟨u,h1⟩:=aV hs
  obtain ⟨lo',h2⟩:=ff h1
  obtain ⟨hi',h3⟩:=ff h2
  split at h3
  ·obtain ⟨_,h5⟩:=cw h3
   obtain ⟨_,h6⟩:=cw h5
   exact ⟨_,h6⟩
  ·exact h3.elim
def bQ (N:Nat):List SOp->Bool
 | []=>true
 | o::l=>(match o.dst with | some d=>Nat.blt d N | none=>true) && bQ N l
theorem DH {N:Nat} {o:SOp} {l:List SOp} (hd:bQ N (o::l)=true):(∀ i,o.dst=some i->i < N)/\bQ N l=true:=by
 simp only [bQ,Bool.and_eq_true] at hd
 refine ⟨fun i hi=>?_,hd.2⟩
 rw [hi] at hd
 exact Nat.le_of_ble_eq_true hd.1
theorem dl {l:List ab} {d:Nat} {a:ab} (hd:l.getD d .any=a) (ha:a ≠ .any):l.set d a=l:=by
 apply List.ext_getElem?
 intro i
 rw [List.getElem?_set]
 split
 ·rename_i e; subst e
  split
  ·rename_i hlt
   simp [List.getD,List.getElem?_eq_getElem hlt] at hd
   simp [hd,List.getElem?_eq_getElem hlt]
  ·rename_i hlt
   simp [List.getD,List.getElem?_eq_none (Nat.le_of_not_lt hlt)] at hd
   exact (ha hd.symm).elim
 ·rfl
theorem uE {b:Bool} {v:V} {a:ab} (hb:b=true) (hv:vr w0 lh ν v a):vr w0 lh ν (.gd b v) a:=by
 simp only [vr]; exact ⟨fun _=>hv,fun e=>by rw [hb] at e; cases e⟩
theorem zw {b:Bool} {v:V} {l:List ab} (hb:b=false):vr w0 lh ν (.gd b v) (.tup l):=by
 simp only [vr]; exact ⟨(fun e=>by rw [hb] at e; cases e),fun _=>⟨l,rfl⟩⟩
theorem zG:vr w0 lh ν (.tup []) (.tup []):=by simp only [vr,vrs]; exact ⟨[],rfl,rfl⟩
theorem rK {b want:Bool} (e:b=want):gB b want=true:=by subst e; cases b <;> rfl
theorem vW {b want:Bool} (e:b=!want):gB b want=false:=by subst e; cases want <;> rfl
theorem eV {cf:CF α} (hcf:ph w0 S LP false cf):∀ (ops:List SOp) (e:Env) (h:List O) (ν:Nu) (sl:List ab) (lh:List ac) (K:Env->List O->T α) (KA:List ab->List ac->Prop),bQ N ops=true ->
 slR w0 ν N e sl->HR w0 ν nV nS h lh->sat LP (dR cf ops e h K) Q->(∀ e' h' ν' sl' lh',ν.sub ν'->slR w0 ν' N e' sl'->HR w0 ν' nV nS h' lh'->sat LP (K e' h') Q->KA sl' lh')->cM w0 S ops sl lh KA
 | [],e,h,ν,sl,lh,K,KA,hd,hsl,hh,hs,hK=>hK e h ν sl lh (Nu.sub_refl ν) hsl hh hs
 | o :: rest,e,h,ν,sl,lh,K,KA,hd,hsl,hh,hs,hK=>by
   obtain ⟨hd1,hd2⟩:=DH hd
   have go:∀ {e0:Env},slR w0 ν N e0 sl->sat LP (evI cf true none o.op e0 h fun v h=>dR cf rest (dE e0 o.dst v) h K) Q->vcI w0 S sl lh none (fun v lh'=>cM w0 S rest (cA sl o.dst v) lh' KA) o.op:=by
    intro e0 hsl0 hs
    refine um (md:=false) (wn:=[]) hsl0 hh rfl hcf (.inl ⟨rfl,rfl⟩) (fun e=>by cases e) hs fun v h' ν' a lh' _ _ g1 g2 g3 g4=>?_
    exact eV hcf rest _ h' ν' _ lh' K KA hd2 ((hsl0.mono g1).put o.dst hd1 g3) g2 g4 fun e' h' ν'' sl' lh' k1=>hK e' h' ν'' sl' lh' (Nu.sub_trans g1 k1)
   have skip:∀ {e0:Env},slR w0 ν N e0 sl->sat LP (dR cf rest (dE e0 o.dst (.tup [])) h K) Q->cM w0 S rest (cA sl o.dst (.tup [])) lh KA:=by
    intro e0 hsl0 hs
    exact eV hcf rest _ h ν _ lh K KA hd2 (hsl0.put o.dst hd1 zG) hh hs hK
   have goS:∀ {b:Bool},gR o.op=true->b=true->sat LP (evI cf b none o.op e h fun v _=>dR cf rest (dE e o.dst (.gd b v)) h K) Q->vcI w0 S sl lh none (fun v lh'=>cM w0 S rest (cA sl o.dst v) lh' KA) o.op:=by
    intro b hst hb hs
    refine um (md:=false) (wn:=[]) hsl hh hb hcf (.inl ⟨rfl,rfl⟩) (fun e=>by cases e) hs fun v h' ν' a lh' _ q g1 g2 g3 g4=>?_
    obtain ⟨rfl,rfl,rfl⟩:=q hst
    exact eV hcf rest _ _ _ _ _ K KA hd2 (hsl.put o.dst hd1 (uE hb g3)) g2 g4 hK
   have skipS:∀ {b:Bool},gR o.op=true->b=false->sat LP (evI cf b none o.op e h fun v _=>dR cf rest (dE e o.dst (.gd b v)) h K) Q->cM w0 S rest (cA sl o.dst (.tup [])) lh KA:=by
    intro b hst hb hs
    obtain ⟨v,g⟩:=zq hb hst hs
    exact eV hcf rest _ h ν _ lh K KA hd2 (hsl.put o.dst hd1 (zw hb)) hh g hK
   simp only [dR] at hs
   simp only [cM]
   split at hs
   ·rename_i hg; rw [hg]; exact go hsl hs
   ·rename_i d want hg
    rw [hg]
    dsimp only
    have hat:=hsl.at' d
    split at hs
    ·rename_i b hb
     rw [hb] at hat
     simp only [vr] at hat
     rw [hat]
     dsimp only
     split at hs
     ·rename_i he _
      subst he
      exact ⟨fun _=>by rw [dl hat (by simp)]; exact go hsl hs,fun e=>by cases b <;> cases e⟩
     ·rename_i he _
      exact ⟨fun e=>(he e).elim,fun e=>by rw [← e,dl hat (by simp)]; exact skip hsl hs⟩
    ·rename_i l hb
     rw [hb] at hat
     simp only [vr] at hat
     obtain ⟨az,hat,_⟩:=hat
     rw [hat]
     dsimp only
     rw [dl hat (by simp)]
     exact skip hsl hs
    ·rename_i k n hb
     rw [hb] at hat
     simp only [vr] at hat
     rw [hat]
     exact skip hsl hs
    ·rename_i b hb
     rw [hb] at hat
     simp only [vr] at hat
     rw [hat]
     dsimp only
     split at hs
     ·rename_i hst
      exact ⟨fun e1=>by rw [← e1,dl hat (by simp)]; exact goS hst (rK e1) hs,fun e1=>by rw [← e1,dl hat (by simp)]; exact skipS hst (vW e1) hs⟩
     ·simp only [sat] at hs
      refine ⟨fun e1=>?_,fun e1=>?_⟩
      ·rw [← e1,dl hat (by simp)]
       exact go (hsl.know (by simp only [vr]; rw [hat,e1])) (hs.1 (rK e1))
      ·rw [← e1,dl hat (by simp)]
       exact skip (hsl.know (by simp only [vr]; rw [hat,e1])) (hs.2 (vW e1))
    ·rename_i c v hb
     rw [hb] at hat
     simp only [vr] at hat
     split at hs
     ·exact hs.elim
     ·rename_i b hbv
      cases c with
      | false =>
        obtain ⟨l,hl⟩:=hat.2 rfl
        rw [hl]
        dsimp only
        rw [dl hl (by simp)]
        split at hs
        ·rename_i hst
         exact skipS hst rfl hs
        ·simp only [sat] at hs
         exact skip hsl (hs.2 rfl)
      | true =>
        have hat:=lP (hat.1 rfl) hbv
        rw [hat]
        dsimp only
        split at hs
        ·rename_i hst
         exact ⟨fun e1=>by rw [← e1,dl hat (by simp)]; exact goS hst (by rw [rK e1]; rfl) hs,fun e1=>by rw [← e1,dl hat (by simp)]; exact skipS hst (by rw [vW e1]; rfl) hs⟩
        ·simp only [sat] at hs
         refine ⟨fun e1=>?_,fun e1=>?_⟩
         ·rw [← e1,dl hat (by simp)]
          exact go (hsl.know (by simp only [vr]; rw [hat,e1])) (hs.1 (by rw [rK e1]; rfl))
         ·rw [← e1,dl hat (by simp)]
          exact skip hsl (hs.2 (by rw [vW e1]; rfl))
    ·exact hs.elim
end
theorem eY {k:Nat}:∀ {l:List Nat},p7 k l=true ↔ k ∈ l
 | []=>by simp [p7]
 | x :: l=>by
   simp only [p7,List.mem_cons]
   by_cases h:k=x
   ·subst h; simp
   ·have:Nat.beq k x=false:=by
     cases hb:Nat.beq k x with
     | false=>rfl
     | true=>exact (h (Nat.eq_of_beq_eq_true hb)).elim
    rw [this,cond_false,eY]; simp [h]
theorem qW:∀ {l W:List Nat},yL l W=true ↔ ∀ k,k ∈ l->k ∈ W
 | [],W=>by simp [yL]
 | x::l,W=>by simp only [yL,Bool.and_eq_true,eY,qW,List.mem_cons,forall_eq_or_imp]
theorem qr:∀ {l W:List Nat},Bi l W=true ↔ ∀ k,k ∈ l->k ∉ W
 | [],W=>by simp [Bi]
 | x::l,W=>by
   simp only [Bi,Bool.and_eq_true,qr,List.mem_cons,forall_eq_or_imp]
   refine and_congr ?_ Iff.rfl
   cases hm:p7 x W with
   | false=>simp; intro h; rw [eY.2 h] at hm; cases hm
   | true=>simp; exact eY.1 hm
theorem iH {Ws:List (List Nat)} {k:Nat}:∀ {un:List Nat},k ∈ js Ws un ↔ ∃ u,u ∈ un/\k ∈ bZ Ws u
 | []=>by simp [js]
 | u::un=>by
   simp only [js,gQ,List.mem_append,iH,List.mem_cons]
   constructor
   ·rintro (h | ⟨v,h1,h2⟩)
    ·exact ⟨u,.inl rfl,h⟩
    ·exact ⟨v,.inr h1,h2⟩
   ·rintro ⟨v,rfl | h1,h2⟩
    ·exact .inl h2
    ·exact .inr ⟨v,h1,h2⟩
theorem mp (X:List Nat):∀ (h:List O) (b k:Nat),(fb X h b)[k]? = (h[k]?).map fun o=>if b+k ∈ X then O.hid else o
 | [],b,k=>by simp [fb]
 | o::h,b,0=>by
   simp only [fb,List.getElem?_cons_zero,Option.map_some,Nat.add_zero]
   cases hm:p7 b X with
   | false=>rw [cond_false,if_neg (fun h=>by rw [eY.2 h] at hm; cases hm)]
   | true=>rw [cond_true,if_pos (eY.1 hm)]
 | o::h,b,k+1=>by
   simp only [fb,List.getElem?_cons_succ]
   rw [mp X h (b+1) k,show b+1+k=b+(k+1) by omega]
theorem sV (X:List Nat) (h:List O) (k:Nat):(fB X h)[k]? = (h[k]?).map fun o=>if k ∈ X then O.hid else o:=by
 unfold fB
 split
 ·cases h[k]? <;> simp
 ·rw [mp]; simp
theorem tp (X:List Nat) (h:List O):(fB X h).length=h.length:=by
 have gen:∀ (h:List O) (b:Nat),(fb X h b).length=h.length:=fun h=>by
  induction h with
  | nil=>intro b; rfl
  | cons o h ih=>intro b; simp [fb,ih]
 unfold fB; split
 ·rfl
 ·exact gen h 0
theorem oO (W:List Nat) (l:List O):∀ (h:List O) (b k:Nat),(gS W l h b)[k]? = (h[k]?).map fun o=>if b+k ∈ W then l.getD (b+k) o else o
 | [],b,k=>by simp [gS]
 | o :: h,b,0=>by
   simp only [gS,List.getElem?_cons_zero,Option.map_some,Nat.add_zero]
   cases hm:p7 b W with
   | false=>rw [cond_false,if_neg (fun h=>by rw [eY.2 h] at hm; cases hm)]
   | true =>
     rw [cond_true,if_pos (eY.1 hm),aF]
     simp only [List.getD]
     cases l[b]? <;> rfl
 | o::h,b,k+1=>by
   simp only [gS,List.getElem?_cons_succ]
   rw [oO W l h (b+1) k,show b+1+k=b+(k+1) by omega]
theorem ra (W:List Nat) (h l:List O) (k:Nat):(yz W h l)[k]? = (h[k]?).map fun o=>if k ∈ W then l.getD k o else o:=by
 unfold yz; rw [oO]; simp
theorem CQ (W:List Nat) (h l:List O):(yz W h l).length=h.length:=by
 have gen:∀ (h:List O) (b:Nat),(gS W l h b).length=h.length:=fun h=>by
  induction h with
  | nil=>intro b; rfl
  | cons o h ih=>intro b; simp [gS,ih]
 exact gen h 0
theorem p0:∀ (h:List O) (k:Nat),(undead h)[k]? = (h[k]?).map fun o=>match o with | .dead=>O.hid | o=>o
 | [],k=>by simp [undead]
 | o::h,0=>by cases o <;> rfl
 | o::h,k+1=>by simp only [undead,List.getElem?_cons_succ]; exact p0 h k
theorem la:∀ (h:List O),(undead h).length=h.length
 | []=>rfl
 | o::h=>by simp [undead,la h]
theorem kh:∀ (n k:Nat),(deads n)[k]? = if k < n then some O.dead else none
 | 0,k=>by simp [deads]
 | n+1,0=>by simp [deads]
 | n+1,k+1=>by simp [deads,kh n k]
theorem kd (X:List Nat) (lh:List ac) (k:Nat):(hide X lh)[k]? = (lh[k]?).map fun o=>if k ∈ X then ac.hid else o:=by
 unfold hide; rw [List.getElem?_mapIdx]
theorem ry (W:List Nat) (lh l:List ac) (k:Nat):(mix W lh l)[k]? = (lh[k]?).map fun o=>if k ∈ W then l.getD k o else o:=by
 unfold mix; rw [List.getElem?_mapIdx]
section
variable {w0:World} {ν ν' ν0:Nu} {nV nS N:Nat} {h h' h0:List O} {lh lh' lh0:List ac} {α:Type} {LP:db} {Q:α->Prop} {e:Env} {sl:List ab} {ctx:Bool} {S:FuncId->bf}
theorem HR.undead {a b:Nat} (hh:HR w0 ν a b h lh) (nV nS:Nat):HR w0 ν nV nS (undead h) lh:=by
 have hl:∀ k (o:O),(Dx.undead h)[k]? = some o->o ≠ .hid->h[k]? = some o/\o ≠ .dead:=fun k o hk ho=>by
  rw [p0] at hk
  cases hg:h[k]? with
  | none=>rw [hg] at hk; cases hk
  | some o' =>
    rw [hg] at hk
    simp only [Option.map_some,Option.some.injEq] at hk
    cases o' <;> simp at hk <;> subst hk <;> first | exact (ho rfl).elim | exact ⟨rfl,by simp⟩
 have hlive:∀ k,aA (Dx.undead h) k->aA h k:=fun k hk=>by
  rcases cy hk with ⟨_,_,g⟩ | ⟨_,_,_,_,g⟩
  ·exact bT (hl k _ g (by simp)).1
  ·exact di (hl k _ g (by simp)).1
 refine ⟨fun k o hk=>?_,fun k k' x x' h1 h2=>hh.inj k k' x x' (hlive k h1) (hlive k' h2),fun k hk=>hh.dom k (by rw [la] at hk; exact hk),hh.rng,hh.zl,fun k x hk hx=>hh.zn k x (hlive k hk) hx⟩
 by_cases ho:o=.hid
 ·subst ho; trivial
 ·obtain ⟨g1,g2⟩:=hl k o hk ho
  have:=hh.blk k o g1
  cases o with
  | dead=>exact (g2 rfl).elim
  | hid=>trivial
  | cells cs ty=>exact this
  | gl esz n f ty=>exact this
theorem HR.deads (hh:HR w0 ν nV nS h lh) (hV:nV=h.length) (hS:nS=lh.length) (m:Nat):HR w0 ν nV nS (h++deads m) (lh++List.replicate m .dead):=by
 subst hV hS
 have hl:∀ k,aA (h++Dx.deads m) k->aA h k:=fun k hk=>by
  unfold aA cB at *
  rw [aF] at *
  rw [List.getElem?_append] at hk
  split at hk
  ·rename_i q hq
   split at hq
   ·rw [hq]
   ·rw [kh] at hq; split at hq <;> cases hq
  ·rename_i q hq
   split at hq
   ·rw [hq]
   ·rw [kh] at hq; split at hq <;> cases hq
  ·cases hk
 refine ⟨fun k o hk=>?_,fun k k' x x' h1 h2=>hh.inj k k' x x' (hl k h1) (hl k' h2),fun k hk=>hh.dom k (by simp at hk; omega),fun k x hx=>by have:=hh.rng k x hx; simp; omega,fun j az ty hj=>by have q:=hh.zl j az ty hj; rw [List.getElem?_append_left (List.getElem?_eq_some_iff.1 q).1]; exact q,fun k x hk hx=>hh.zn k x (hl k hk) hx⟩
 rw [List.getElem?_append] at hk
 split at hk
 ·rename_i hlt
  have:=hh.blk k o hk
  cases o with
  | dead=>obtain ⟨g1,g2,g3⟩:=this; omega
  | hid=>trivial
  | cells cs ty=>exact bS (Nu.sub_refl ν) (by simp) (fun b az ty' q _=>by rw [List.getElem?_append_left (List.getElem?_eq_some_iff.1 q).1]; exact q) this
  | gl esz n f ty=>exact bS (Nu.sub_refl ν) (by simp) (fun b az ty' q _=>by rw [List.getElem?_append_left (List.getElem?_eq_some_iff.1 q).1]; exact q) this
 ·rename_i hge
  rw [kh] at hk
  split at hk
  ·rename_i hlt
   cases hk
   refine ⟨hh.dom k (by omega),by omega,?_⟩
   rw [List.getElem?_append_right (by omega),List.getElem?_replicate,if_pos (by omega)]
  ·cases hk
def nmu (ν0:Nu) (nV nS k:Nat):Option Nat:=if k < nV then (match ν0 k with | some (some x)=>some x.1 | _=>none) else some (nS+(k - nV))
structure WR (ν0:Nu) (nV nS:Nat) (h0:List O) (Ws WsS:List (List Nat)):Prop where
 rel:∀ i j,j ∈ wOf WsS i ↔ ∃ k,k ∈ bZ Ws i/\nmu ν0 nV nS k=some j
 live:∀ i k,k ∈ bZ Ws i->k < nV->aA h0 k
structure DI (w0:World) (ν0:Nu) (h0:List O) (nV nS:Nat) (Ws:List (List Nat)) (rk:Nat->Bool) (cur:Nat) (ν:Nu) (h:List O) (lh:List ac):Prop where
 hr:HR w0 ν nV nS h lh
 old:∀ k,k < nV->ν k=ν0 k
 zc:ν.z=ν0.z
 liv:∀ k,k < nV->aA h k->aA h0 k
 nw:∀ k x,nV<=k->ν k=some (some x)->x.1=nS+(k - nV) ∨ ∃ i k0,rk i=true/\i < cur/\k ∈ bZ Ws i/\k0 ∈ bZ Ws i/\nmu ν0 nV nS k0=some x.1
def yQ (Ws:List (List Nat)) (rk:Nat->Bool) (cur:Nat) (Y:List Nat):Prop:=∀ i,i < cur->rk i=true->(∀ k,k ∈ bZ Ws i->k ∉ Y) ∨ ∀ k,k ∈ bZ Ws i->k ∈ Y
theorem pH (H0:HR w0 ν0 nV nS h0 lh0) (hS:nS=lh0.length) {k k' j:Nat} (hk:k < nV->aA h0 k) (hk':k' < nV->aA h0 k') (h1:nmu ν0 nV nS k=some j) (h2:nmu ν0 nV nS k'=some j):k=k':=by
 unfold nmu at h1 h2
 split at h1
 ·rename_i l1
  split at h1
  ·rename_i x hx
   have e1:x.1=j:=by simpa using h1
   split at h2
   ·rename_i l2
    split at h2
    ·rename_i x' hx'
     have e2:x'.1=j:=by simpa using h2
     exact H0.inj k k' x x' (hk l1) (hk' l2) hx hx' (by rw [e1,e2])
    ·cases h2
   ·have e2:nS+(k' - nV)=j:=by simpa using h2
    have:=H0.rng k x hx
    omega
  ·cases h1
 ·rename_i l1
  have e1:nS+(k - nV)=j:=by simpa using h1
  split at h2
  ·split at h2
   ·rename_i x' hx'
    have e2:x'.1=j:=by simpa using h2
    have:=H0.rng k' x' hx'
    omega
   ·cases h2
  ·have e2:nS+(k' - nV)=j:=by simpa using h2
   omega
section
variable {Ws WsS:List (List Nat)} {rk:Nat->Bool} {cur:Nat}
theorem DI.nmu_of (hd:DI w0 ν0 h0 nV nS Ws rk cur ν h lh) {k:Nat} {x:Nat × Nat × Nat} (hx:ν k=some (some x)):nmu ν0 nV nS k=some x.1 ∨ ∃ i k0,rk i=true/\i < cur/\k ∈ bZ Ws i/\k0 ∈ bZ Ws i/\nmu ν0 nV nS k0=some x.1:=by
 by_cases hk:k < nV
 ·left; unfold nmu; rw [if_pos hk,← hd.old k hk,hx]
 ·rcases hd.nw k x (by omega) hx with h1 | h1
  ·left; unfold nmu; rw [if_neg hk,h1]
  ·exact .inr h1
theorem DI.into (hd:DI w0 ν0 h0 nV nS Ws rk cur ν h lh) (H0:HR w0 ν0 nV nS h0 lh0) (hS:nS=lh0.length) (hw:WR ν0 nV nS h0 Ws WsS) {Y:List Nat} (hY:yQ Ws rk cur Y) (hYw:∀ k,k ∈ Y->∃ u,k ∈ bZ Ws u)
 {k k':Nat} {x:Nat × Nat × Nat} (hl:aA h k) (hx:ν k=some (some x)) (hk':k' ∈ Y) (hm:nmu ν0 nV nS k'=some x.1):k ∈ Y:=by
 obtain ⟨u,hu⟩:=hYw k' hk'
 rcases hd.nmu_of hx with h1 | ⟨i,k0,g1,g2,g3,g4,g5⟩
 ·have:=pH H0 hS (fun hlt=>hd.liv k hlt hl) (fun hlt=>hw.live u k' hu hlt) h1 hm
  rw [this]; exact hk'
 ·have:=pH H0 hS (fun hlt=>hw.live i k0 g4 hlt) (fun hlt=>hw.live u k' hu hlt) g5 hm
  subst this
  rcases hY i g2 g1 with q | q
  ·exact absurd hk' (q k0 g4)
  ·exact q k g3
theorem DI.outof (hd:DI w0 ν0 h0 nV nS Ws rk cur ν h lh) {Y:List Nat} (hY:yQ Ws rk cur Y) {k:Nat} {x:Nat × Nat × Nat} (hx:ν k=some (some x)) (hk:k ∈ Y):∃ k',k' ∈ Y/\nmu ν0 nV nS k'=some x.1:=by
 rcases hd.nmu_of hx with h1 | ⟨i,k0,g1,g2,g3,g4,g5⟩
 ·exact ⟨k,hk,h1⟩
 ·rcases hY i g2 g1 with q | q
  ·exact absurd hk (q k g3)
  ·exact ⟨k0,q k0 g4,g5⟩
theorem wR (H0:HR w0 ν0 nV nS h0 lh0) (hS:nS=lh0.length) {k k':Nat} (hk:nV<=k) (hm:nmu ν0 nV nS k'=some (nS+(k - nV))):k'=k:=by
 unfold nmu at hm
 split at hm
 ·split at hm
  ·rename_i x hx
   have:=H0.rng k' x hx
   have e1:x.1=nS+(k - nV):=by simpa using hm
   omega
  ·cases hm
 ·have e1:nS+(k' - nV)=nS+(k - nV):=by simpa using hm
  omega
theorem He (H0:HR w0 ν0 nV nS h0 lh0) (hS:nS=lh0.length) {k j:Nat} (hk:k < nV->aA h0 k) (h1:nmu ν0 nV nS k=some j):isCells ν0.z[j]? = false:=by
 unfold nmu at h1
 split at h1
 ·rename_i l1
  split at h1
  ·rename_i x hx
   have e1:x.1=j:=by simpa using h1
   rw [← e1]; exact H0.zn k x (hk l1) hx
  ·cases h1
 ·have e1:nS+(k - nV)=j:=by simpa using h1
  refine Ag H0.zl ?_
  rw [List.getElem?_eq_none (by omega)]; rfl
theorem DI.hide (hd:DI w0 ν0 h0 nV nS Ws rk cur ν h lh) (H0:HR w0 ν0 nV nS h0 lh0) (hS:nS=lh0.length) (hw:WR ν0 nV nS h0 Ws WsS) {X XS:List Nat} (hX:yQ Ws rk cur X) (hXw:∀ k,k ∈ X->∃ u,k ∈ bZ Ws u)
 (hXS:∀ j,j ∈ XS ↔ ∃ k,k ∈ X/\nmu ν0 nV nS k=some j):HR w0 ν nV nS (fB X h) (Sx.hide XS lh):=by
 have hl:∀ k (o:O),(fB X h)[k]? = some o->o ≠ .hid->h[k]? = some o/\k ∉ X:=fun k o hk ho=>by
  rw [sV] at hk
  cases hg:h[k]? with
  | none=>rw [hg] at hk; cases hk
  | some o' =>
    rw [hg] at hk
    simp only [Option.map_some,Option.some.injEq] at hk
    split at hk
    ·exact (ho hk.symm).elim
    ·rename_i hn; subst hk; exact ⟨rfl,hn⟩
 have hlive:∀ k,aA (fB X h) k->aA h k:=fun k hk=>by
  rcases cy hk with ⟨_,_,g⟩ | ⟨_,_,_,_,g⟩
  ·exact bT (hl k _ g (by simp)).1
  ·exact di (hl k _ g (by simp)).1
 refine ⟨fun k o hk=>?_,fun k k' x x' h1 h2=>hd.hr.inj k k' x x' (hlive k h1) (hlive k' h2),fun k hk=>hd.hr.dom k (by rw [tp] at hk; exact hk),fun k x hx=>by have:=hd.hr.rng k x hx; unfold Sx.hide; simpa using this,fun j az ty hj=>?_,fun k x hk hx=>hd.hr.zn k x (hlive k hk) hx⟩
 case refine_2 =>
  rw [kd,hd.hr.zl j az ty hj]
  simp only [Option.map_some]
  rw [if_neg]
  intro hm
  obtain ⟨k',e1,e2⟩:=(hXS _).1 hm
  obtain ⟨u,hu⟩:=hXw k' e1
  have:=He H0 hS (fun hlt=>hw.live u k' hu hlt) e2
  rw [← hd.zc] at this
  exact iu this _ _ hj
 by_cases ho:o=.hid
 ·subst ho; trivial
 ·obtain ⟨g1,g2⟩:=hl k o hk ho
  have hb:=hd.hr.blk k o g1
  by_cases hdd:o=.dead
  ·subst hdd
   obtain ⟨q1,q2,q3⟩:=hb
   refine ⟨q1,q2,?_⟩
   rw [kd,q3]
   simp only [Option.map_some]
   rw [if_neg]
   intro hm
   obtain ⟨k',e1,e2⟩:=(hXS _).1 hm
   rw [wR H0 hS q2 e2] at e1
   exact g2 e1
  ·have hlk:aA h k:=by
    unfold aA cB; rw [aF,g1]
    cases o <;> first | rfl | exact (hdd rfl).elim | exact (ho rfl).elim
   refine bS (Nu.sub_refl ν) hdd (fun b az ty q1 q2=>?_) hb
   obtain ⟨c,ez,q3⟩:=q2
   rw [kd,q1]
   simp only [Option.map_some]
   rw [if_neg]
   intro hm
   obtain ⟨k',e1,e2⟩:=(hXS _).1 hm
   exact g2 (hd.into H0 hS hw hX hXw hlk q3 e1 e2)
theorem DI.mix (hd : DI w0 ν0 h0 nV nS Ws rk cur ν h lh) (H0:HR w0 ν0 nV nS h0 lh0) (hS:nS=lh0.length) (hw:WR ν0 nV nS h0 Ws WsS) {X XS:List Nat} (hX:yQ Ws rk cur X)
 (hW:yQ Ws rk cur (bZ Ws cur)) (hdis:∀ k,k ∈ bZ Ws cur->k ∉ X) (hhid:HR w0 ν nV nS (fB X h) (Sx.hide XS lh)) {pl plA:Option Nat} (hpl:∀ p,pl=some p->p ∈ bZ Ws cur/\nV<=p/\plA=some (nS+(p - nV))/\rk cur=true) (hpl0:pl=none->plA=none)
 {h1:List O} {l1:List ac} (hsub:ν.sub ν') (hr:HR w0 ν' nV nS h1 l1) (hm:MDf ν ν' (bZ Ws cur) pl plA (fB X h) h1 (Sx.hide XS lh) l1) :
 fJ (wOf WsS cur) l1 (Sx.hide XS lh)/\DI w0 ν0 h0 nV nS Ws rk (cur+1) ν' (yz (bZ Ws cur) h h1) (mix (wOf WsS cur) lh l1):=by
 have hlenl:l1.length=lh.length:=by rw [hm.len]; simp [Sx.hide]
 have hlenh:h1.length=h.length:=by rw [hm.hlen,tp]
 have hplS:∀ j,plA=some j->j ∈ wOf WsS cur:=fun j hj=>by
  cases hp:pl with
  | none=>rw [hpl0 hp] at hj; cases hj
  | some p =>
    obtain ⟨q1,q2,q3,_⟩:=hpl p hp
    rw [q3] at hj; cases hj
    exact (hw.rel cur _).2 ⟨p,q1,by unfold nmu; rw [if_neg (by omega)]⟩
 have hWS:∀ k x,k ∈ bZ Ws cur->ν k=some (some x)->x.1 ∈ wOf WsS cur:=fun k x hk hx=>by
  obtain ⟨k',e1,e2⟩:=hd.outof hW hx hk
  exact (hw.rel cur _).2 ⟨k',e1,e2⟩
 have hold:∀ k,k < nV->ν' k=ν0 k:=fun k hk=>by
  cases hv:ν k with
  | some x=>rw [hsub.1 k x hv,← hd.old k hk,hv]
  | none =>
    rw [← hd.old k hk,hv]
    cases hv':ν' k with
    | none=>rfl
    | some x =>
      rcases hm.nw k x hv' with q | ⟨q,_⟩
      ·rw [hv] at q; cases q
      ·have:=(hpl k q).2.1; omega
 have hnw : ∀ k x, nV <= k -> ν' k=some (some x)->x.1=nS+(k - nV) ∨ ∃ i k0,rk i=true/\i < cur+1/\k ∈ bZ Ws i/\k0 ∈ bZ Ws i/\nmu ν0 nV nS k0=some x.1:=fun k x hk hx=>by
  rcases hm.nw k _ hx with q | ⟨q1,q2⟩
  ·rcases hd.nw k x hk q with g | ⟨i,k0,g1,g2,g3⟩
   ·exact .inl g
   ·exact .inr ⟨i,k0,g1,by omega,g3⟩
  ·obtain ⟨p1, p2, p3, p4⟩ := hpl k q1
   rcases q2 x rfl with g | ⟨k0,z,g1,g2,g3⟩
   ·rw [p3] at g; exact .inl (by have:nS+(k - nV)=x.1:=by simpa using g
                                 omega)
   ·obtain ⟨k',e1,e2⟩:=hd.outof hW g2 g1
    exact .inr ⟨cur,k',p4,by omega,p1,e1,by rw [← g3]; exact e2⟩
 have hsame:∀ j,j ∉ wOf WsS cur->l1[j]? = (Sx.hide XS lh)[j]? := fun j hj=>hm.chg j (fun e=>hj (hplS j e)) (fun k x hk hx e=>hj (by rw [← e]; exact hWS k x hk hx))
 refine ⟨⟨hm.len,hsame⟩,?_⟩
 -- which blocks are live
 have hlive:∀ k,aA (yz (bZ Ws cur) h h1) k->(k ∉ bZ Ws cur/\aA h k) ∨ (k ∈ bZ Ws cur/\aA h1 k):=fun k hk=>by
  by_cases hkw:k ∈ bZ Ws cur
  ·right
   refine ⟨hkw,?_⟩
   unfold aA cB at *
   rw [aF] at *
   rw [ra] at hk
   cases hg:h[k]? with
   | none=>rw [hg] at hk; cases hk
   | some o =>
     rw [hg] at hk
     simp only [Option.map_some,if_pos hkw,List.getD] at hk
     have hlt:k < h1.length:=by rw [hlenh]; exact (List.getElem?_eq_some_iff.1 hg).1
     rw [List.getElem?_eq_getElem hlt] at hk ⊢
     exact hk
  ·left
   refine ⟨hkw,?_⟩
   unfold aA cB at *
   rw [aF] at *
   rw [ra] at hk
   cases hg:h[k]? with
   | none=>rw [hg] at hk; cases hk
   | some o=>rw [hg] at hk; simp only [Option.map_some,if_neg hkw] at hk; exact hk
 have hget:∀ k o,(yz (bZ Ws cur) h h1)[k]? = some o->(k ∉ bZ Ws cur/\h[k]? = some o) ∨ (k ∈ bZ Ws cur/\h1[k]? = some o):=fun k o hk=>by
  rw [ra] at hk
  cases hg:h[k]? with
  | none=>rw [hg] at hk; cases hk
  | some o' =>
    rw [hg] at hk
    simp only [Option.map_some] at hk
    by_cases hkw:k ∈ bZ Ws cur
    ·right
     refine ⟨hkw,?_⟩
     have hlt:k < h1.length:=by rw [hlenh]; exact (List.getElem?_eq_some_iff.1 hg).1
     rw [if_pos hkw] at hk
     simp only [List.getD,List.getElem?_eq_getElem hlt] at hk ⊢
     exact hk
    ·left; rw [if_neg hkw] at hk; exact ⟨hkw,hk⟩
 have hmixin:∀ b,b ∈ wOf WsS cur->(Sx.mix (wOf WsS cur) lh l1)[b]? = l1[b]? := fun b hb=>by
  rw [ry]
  cases hg:lh[b]? with
  | none =>
    have:=List.getElem?_eq_none_iff.1 hg
    rw [List.getElem?_eq_none (by omega)]; rfl
  | some o =>
    have hlt:b < l1.length:=by rw [hlenl]; exact (List.getElem?_eq_some_iff.1 hg).1
    simp only [Option.map_some,if_pos hb,List.getD,List.getElem?_eq_getElem hlt]; rfl
 have hmixout:∀ b,b ∉ wOf WsS cur->(Sx.mix (wOf WsS cur) lh l1)[b]? = lh[b]? := fun b hb=>by
  rw [ry]; cases hg:lh[b]? <;> simp [hb]
 -- a live block of ours outside of the set has a name outside of it
 have hout:∀ k x,k ∉ bZ Ws cur->aA h k->ν k=some (some x)->x.1 ∉ wOf WsS cur:=fun k x hk hl hx hmem=>by
  obtain ⟨k',e1,e2⟩:=(hw.rel cur _).1 hmem
  exact hk (hd.into H0 hS hw hW (fun k hk=>⟨cur,hk⟩) hl hx e1 e2)
 have hin:∀ k x,k ∈ bZ Ws cur->ν' k=some (some x)->x.1 ∈ wOf WsS cur:=fun k x hk hx=>by
  rcases hm.nw k _ hx with q | ⟨q1,q2⟩
  ·exact hWS k x hk q
  ·rcases q2 x rfl with g | ⟨k0,z,g1,g2,g3⟩
   ·exact hplS _ g
   ·rw [← g3]; exact hWS k0 z g1 g2
 have hν:∀ k,k ∉ bZ Ws cur->ν' k=ν k:=fun k hk=>by
  cases hv:ν k with
  | some x=>exact hsub.1 k x hv
  | none =>
    cases hv':ν' k with
    | none=>rfl
    | some x =>
      rcases hm.nw k x hv' with q | ⟨q,_⟩
      ·rw [hv] at q; cases q
      ·exact absurd (hpl k q).1 hk
 refine ⟨⟨fun k o hk=>?_,fun k k' x x' g1 g2 hx hx' he=>?_,fun k hk=>?_,fun k x hx=>?_,fun j az ty hj=>?_,fun k x hl hx=>?_⟩,hold,hm.zz.trans hd.zc,fun k hk hl=>?_,hnw⟩
 ·rcases hget k o hk with ⟨q1,q2⟩ | ⟨q1,q2⟩
  ·have hb:=hd.hr.blk k o q2
   by_cases ho:o=.hid
   ·subst ho; trivial
   ·by_cases hdd:o=.dead
    ·subst hdd
     obtain ⟨e1,e2,e3⟩:=hb
     refine ⟨by rw [hν k q1]; exact e1,e2,?_⟩
     rw [hmixout]
     ·exact e3
     ·intro hmem
      obtain ⟨k',f1,f2⟩:=(hw.rel cur _).1 hmem
      rw [wR H0 hS e2 f2] at f1
      exact q1 f1
    ·have hlk:aA h k:=by
      unfold aA cB; rw [aF,q2]
      cases o <;> first | rfl | exact (hdd rfl).elim | exact (ho rfl).elim
     refine bS hsub hdd (fun b az ty e1 e2=>?_) hb
     obtain ⟨c,ez,e3⟩:=e2
     rw [hmixout b (hout k _ q1 hlk e3)]; exact e1
  ·have hb:=hr.blk k o q2
   by_cases ho:o=.hid
   ·subst ho; trivial
   ·by_cases hdd:o=.dead
    ·subst hdd
     obtain ⟨e1,e2,e3⟩:=hb
     refine ⟨e1,e2,?_⟩
     rw [hmixin]
     ·exact e3
     ·exact (hw.rel cur _).2 ⟨k,q1,by unfold nmu; rw [if_neg (by omega)]⟩
    ·refine bS (Nu.sub_refl ν') hdd (fun b az ty e1 e2=>?_) hb
     obtain ⟨c,ez,e3⟩:=e2
     rw [hmixin b (hin k _ q1 e3)]; exact e1
 ·rcases hlive k g1 with ⟨a1,a2⟩ | ⟨a1,a2⟩ <;> rcases hlive k' g2 with ⟨b1,b2⟩ | ⟨b1,b2⟩
  ·rw [hν k a1] at hx; rw [hν k' b1] at hx'
   exact hd.hr.inj k k' x x' a2 b2 hx hx' he
  ·rw [hν k a1] at hx
   exact absurd (by rw [he]; exact hin k' x' b1 hx') (hout k x a1 a2 hx)
  ·rw [hν k' b1] at hx'
   exact absurd (by rw [← he]; exact hin k x a1 hx) (hout k' x' b1 b2 hx')
  ·exact hr.inj k k' x x' a2 b2 hx hx' he
 ·exact hr.dom k (by rw [CQ] at hk; omega)
 ·have:=hr.rng k x hx
  unfold Sx.mix; simp; omega
 ·rw [hm.zz] at hj
  rw [hmixout j fun hmem=>?_]
  ·exact hd.hr.zl j az ty hj
  ·obtain ⟨k',e1,e2⟩:=(hw.rel cur _).1 hmem
   have:=He H0 hS (fun hlt=>hw.live cur k' e1 hlt) e2
   rw [← hd.zc] at this
   exact iu this _ _ hj
 ·rcases hlive k hl with ⟨a1,a2⟩ | ⟨a1,a2⟩
  ·rw [hν k a1] at hx; rw [hm.zz]; exact hd.hr.zn k x a2 hx
  ·exact hr.zn k x a2 hx
 ·rcases hlive k hl with ⟨_,a2⟩ | ⟨_,a2⟩
  ·exact hd.liv k hk a2
  ·rcases hm.liv k a2 with q | q
   ·refine hd.liv k hk ?_
    unfold aA cB at *
    rw [aF] at *
    rw [sV] at q
    cases hg:h[k]? with
    | none=>rw [hg] at q; cases q
    | some o =>
      rw [hg] at q
      simp only [Option.map_some] at q
      split at q
      ·rename_i hq
       split at hq
       ·cases hq
       ·cases hq; rfl
      ·rename_i hq
       split at hq
       ·cases hq
       ·cases hq; rfl
      ·cases q
   ·have:=(hpl k q).2.1; omega
end
end
section
variable {w0:World} {ν ν' ν0:Nu} {nV nS N:Nat} {h h' h0:List O} {lh lh' lh0:List ac} {α:Type} {LP:db} {Q:α->Prop} {e:Env} {sl:List ab} {ctx:Bool} {S:FuncId->bf}
theorem AX {k:Nat} (hl:aA h k):k < h.length:=by
 rcases cy hl with ⟨_,_,g⟩ | ⟨_,_,_,_,g⟩ <;> exact (List.getElem?_eq_some_iff.1 g).1
theorem xH (hV:nV=h.length) {v:V} {a:ab} {l:List Nat} (hv:vr w0 ν.z ν v a) (hn:fx h v=some l) :
 (∀ j,j ∈ pS a ↔ ∃ k,k ∈ l/\nmu ν nV nS k=some j)/\∀ k,k ∈ l->k < nV->aA h k:=by
 have one:∀ {k b:Nat} {x:Nat × Nat},aA h k->ν k=some (some (b,x))->∀ j,j ∈ [b] ↔ ∃ k',k' ∈ [k]/\nmu ν nV nS k'=some j:=fun {k b x} hl hk j=>by
  have hlt:k < nV:=by rw [hV]; exact AX hl
  simp only [List.mem_singleton,exists_eq_left]
  unfold nmu
  rw [if_pos hlt,hk]
  simp [eq_comm]
 have lv:∀ {k:Nat},aA h k->∀ k',k' ∈ [k]->k' < nV->aA h k':=fun hl k' hk' _=>by
  rw [List.mem_singleton.1 hk']; exact hl
 cases v <;> simp only [fx] at hn <;> try cases hn
 case pl k off =>
  cases hl:cB h k with
  | false=>rw [hl] at hn; cases hn
  | true =>
    rw [hl] at hn; cases hn
    simp only [vr] at hv
    obtain ⟨b,c,ez,g1,rfl⟩:=hv
    exact ⟨one hl g1,lv hl⟩
 case pe k i j =>
  cases hl:cB h k with
  | false=>rw [hl] at hn; cases hn
  | true =>
    rw [hl] at hn; cases hn
    simp only [vr] at hv
    obtain ⟨b,c,ez,g1,rfl⟩:=hv
    exact ⟨one hl g1,lv hl⟩
 case ss k off n c =>
  cases hl:cB h k with
  | false=>rw [hl] at hn; cases hn
  | true =>
    rw [hl] at hn; cases hn
    simp only [vr] at hv
    obtain ⟨b,c,ez,g1,rfl⟩:=hv
    exact ⟨one hl g1,lv hl⟩
 case gs k n =>
  cases hl:cB h k with
  | false=>rw [hl] at hn; cases hn
  | true =>
    rw [hl] at hn; cases hn
    simp only [vr] at hv
    rcases hv with ⟨g1,g2,rfl⟩ | ⟨b,c,ez,g1,rfl,_⟩
    ·refine ⟨fun j=>?_,lv hl⟩
     have hlt:k < nV:=by rw [hV]; exact AX hl
     simp only [pS,List.not_mem_nil,false_iff,not_exists,not_and]
     intro k' hk'
     rw [List.mem_singleton.1 hk']
     unfold nmu
     rw [if_pos hlt,g1]; simp
    ·exact ⟨one hl g1,lv hl⟩
 case ns =>
  simp only [vr] at hv; subst hv
  exact ⟨fun j=>by simp [pS],fun k hk=>by cases hk⟩
theorem Cy (hh:HR w0 ν nV nS h lh) (hV:nV=h.length) (hsl:slR w0 ν N e sl) {s:vU} {l:List Nat} (hn:Aj h e nV s=some l) :
 (∀ j,j ∈ F9 w0 lh sl nS s ↔ ∃ k,k ∈ l/\nmu ν nV nS k=some j)/\∀ k,k ∈ l->k < nV->aA h k:=by
 cases s with
 | fresh r =>
   simp only [Aj] at hn; cases hn
   refine ⟨fun j=>?_,fun k hk hlt=>?_⟩
   ·simp only [F9,List.mem_singleton,exists_eq_left]
    unfold nmu
    rw [if_neg (by omega),show nS+(nV+r - nV)=nS+r by omega]
    simp [eq_comm]
   ·rw [List.mem_singleton.1 hk] at hlt; omega
 | slot s=>exact xH hV (hsl.at' s) hn
 | load s off =>
   have hat:=hsl.at' s
   simp only [Aj] at hn
   split at hn
   ·rename_i k o hk
    rw [hk] at hat
    simp only [vr] at hat
    obtain ⟨b,c,ez,g1,g2⟩:=hat
    split at hn
    ·rename_i v hv
     obtain ⟨p,x,e1,e2,e3⟩:=xQ hh (v:=.pl k (o+off)) (a:=.ptr (some (.l b (o+off)))) (by simp only [vr]; exact ⟨b,c,ez,g1,rfl⟩) hv (fun _ _ _ he=>by cases he)
     cases e1
     have:=xH (nS:=nS) hV e3 hn
     simp only [F9,g2,Ptr.add,e2]
     exact this
    ·cases hn
   ·cases hn
theorem sH (hh:HR w0 ν nV nS h lh) (hV:nV=h.length) (hsl:slR w0 ν N e sl):∀ {ss:List vU} {l:List Nat},nY h e nV ss=some l ->
 (∀ j,j ∈ o9 w0 lh sl nS ss ↔ ∃ k,k ∈ l/\nmu ν nV nS k=some j)/\∀ k,k ∈ l->k < nV->aA h k
 | [],l,hn=>by simp only [nY] at hn; cases hn; exact ⟨fun j=>by simp [o9],fun k hk=>by cases hk⟩
 | s :: ss,l,hn=>by
   simp only [nY] at hn
   split at hn
   ·rename_i a b ha hb
    cases hn
    obtain ⟨g1,g2⟩:=Cy hh hV hsl ha
    obtain ⟨g3,g4⟩:=sH hh hV hsl hb
    refine ⟨fun j=>?_,fun k hk=>?_⟩
    ·simp only [o9,List.mem_append,gQ,g1 j,g3 j]
     constructor
     ·rintro (⟨k,h1,h2⟩ | ⟨k,h1,h2⟩)
      ·exact ⟨k,.inl h1,h2⟩
      ·exact ⟨k,.inr h1,h2⟩
     ·rintro ⟨k,h1 | h1,h2⟩
      ·exact .inl ⟨k,h1,h2⟩
      ·exact .inr ⟨k,h1,h2⟩
    ·rw [gQ,List.mem_append] at hk
     rcases hk with hk | hk
     ·exact g2 k hk
     ·exact g4 k hk
   ·cases hn
theorem pR {h:List O} {e:Env} {n0:Nat}:∀ {ds:List DOp} {Ws:List (List Nat)},m9 h e n0 ds=some Ws->∀ i,match ds[i]? with | some d=>nY h e n0 d.ws=some (bZ Ws i) | none=>bZ Ws i=[]
 | [],Ws,hn,i=>by simp only [m9] at hn; cases hn; simp [bZ,nth]
 | d::ds,Ws,hn,i=>by
   simp only [m9] at hn
   split at hn
   ·rename_i a b ha hb
    cases hn
    cases i with
    | zero=>simp [bZ,nth,ha]
    | succ i=>simpa [bZ,nth] using pR hb i
   ·cases hn
theorem NJ (hh:HR w0 ν nV nS h lh) (hV:nV=h.length) (hsl:slR w0 ν N e sl) {ds:List DOp} {Ws:List (List Nat)} (hn:m9 h e nV ds=some Ws):WR ν nV nS h Ws (gN w0 lh sl nS ds):=by
 have key:∀ i,(∀ j,j ∈ wOf (gN w0 lh sl nS ds) i ↔ ∃ k,k ∈ bZ Ws i/\nmu ν nV nS k=some j)/\∀ k,k ∈ bZ Ws i->k < nV->aA h k:=fun i=>by
  have h1:=pR hn i
  have h2:=kj w0 lh sl nS ds i
  unfold wOf
  rw [h2]
  cases hd:ds[i]? with
  | none=>rw [hd] at h1; dsimp only at h1 ⊢; rw [h1]; exact ⟨fun j=>by simp,fun k hk=>by cases hk⟩
  | some d=>rw [hd] at h1; exact sH hh hV hsl h1
 exact ⟨fun i=>(key i).1,fun i=>(key i).2⟩
theorem zh {WsS:List (List Nat)} {un:List Nat} {j:Nat}:j ∈ xOf WsS un ↔ ∃ u,u ∈ un/\j ∈ wOf WsS u:=by
 unfold xOf; simp [List.mem_flatMap]
def qD (w0:World) (S:FuncId->bf) (LP:db) (cp:CP α):Prop:=∀ (f:FuncId) (vs:List V) (h:List O) (K:V->T α) (Q:α->Prop) (ν:Nu) (nV nS:Nat) (args:List ab) (lh:List ac) (KA:ab->List ac->Prop),
 vrs w0 ν.z ν vs args->HR w0 ν nV nS h lh->sat LP (cp f vs h K) Q->(∀ v a,vr w0 ν.z ν v a->sat LP (K v) Q->KA a lh)->S f w0 args lh KA
theorem qD.cf {cp:CP α} (hc:qD w0 S LP cp) (md:Bool):ph w0 S LP md (fun f vs h K=>cp f vs h fun v=>K v h):=fun f vs h K Q ν nV nS args lh KA h1 h2 h3 h4 =>
 hc f vs h _ Q ν nV nS args lh KA h1 h2 h3 fun v a hv hs=>h4 v h ν a lh (fun _=>⟨rfl,rfl,rfl⟩) (Nu.sub_refl ν) h2 hv hs
theorem CM {op:IOp} {pl:Option Nat} {KA:ab->List ac->Prop} (hst:gR op=true) (hv:vcI w0 S sl lh none KA op):vcI w0 S sl lh pl KA op:=by
 cases op <;> first | exact hv | cases hst
def pU (N:Nat):List DOp->Bool
 | []=>true
 | d::l=>(match d.o.dst with | some d=>Nat.blt d N | none=>true) && pU N l
theorem z8 {N:Nat} {d:DOp} {l:List DOp} (hd:pU N (d::l)=true):(∀ i,d.o.dst=some i->i < N)/\pU N l=true:=by
 simp only [pU,Bool.and_eq_true] at hd
 refine ⟨fun i hi=>?_,hd.2⟩
 rw [hi] at hd
 exact Nat.le_of_ble_eq_true hd.1
theorem qP {Ws:List (List Nat)} {Y:List Nat} {all:List DOp} {j:Nat}:∀ {l:List DOp} {i:Nat},(∀ t,l[t]? = all[i+t]?)->qO Ws Y l i j=true->∀ i',i<=i'->i' < j->(match all[i']? with | some d=>d.rk.isSome | none=>false)=true ->
 (∀ k,k ∈ bZ Ws i'->k ∉ Y) ∨ ∀ k,k ∈ bZ Ws i'->k ∈ Y
 | [],i,hl,hc,i',h1,h2,h3=>by
   have:=hl (i' - i)
   rw [show i+(i' - i)=i' by omega] at this
   rw [← this] at h3; simp at h3
 | d :: l,i,hl,hc,i',h1,h2,h3=>by
   simp only [qO] at hc
   have hb:Nat.blt i j=true:=Nat.ble_eq_true_of_le (by omega:i+1<=j)
   rw [hb] at hc
   simp only [cond_true,Bool.and_eq_true] at hc
   have h0:=hl 0
   simp only [List.getElem?_cons_zero,Nat.add_zero] at h0
   by_cases e1:i'=i
   ·subst e1
    rw [← h0] at h3
    dsimp only at h3
    cases hr:d.rk with
    | none=>rw [hr] at h3; cases h3
    | some r =>
      have hc1:=hc.1
      rw [hr] at hc1
      simp only [Bool.or_eq_true] at hc1
      rcases hc1 with q | q
      ·exact .inl (qr.1 q)
      ·exact .inr (qW.1 q)
   ·exact qP (fun t=>by have:=hl (t+1); rw [List.getElem?_cons_succ] at this; rw [this,show i+(t+1)=i+1+t by omega]) hc.2 i' (by omega) h2 h3
theorem xz {Ws:List (List Nat)} {all:List DOp}:∀ {l:List DOp} {j:Nat},(∀ t,l[t]? = all[j+t]?)->tl Ws all l j=true->∀ j' d,j<=j'->all[j']? = some d->qO Ws (bZ Ws j') all 0 j'=true/\qO Ws (js Ws d.un) all 0 j'=true
 | [],j,hl,hc,j',d,h1,h2=>by
   have:=hl (j' - j)
   rw [show j+(j' - j)=j' by omega,h2] at this; simp at this
 | d::l,j,hl,hc,j',d',h1,h2=>by
   simp only [tl,Bool.and_eq_true] at hc
   have h0:=hl 0
   simp only [List.getElem?_cons_zero,Nat.add_zero] at h0
   by_cases e1:j'=j
   ·subst e1
    rw [← h0] at h2; cases h2
    exact hc.1
   ·exact xz (fun t=>by have:=hl (t+1); rw [List.getElem?_cons_succ] at this; rw [this,show j+(t+1)=j+1+t by omega]) hc.2 j' d' (by omega) h2
theorem oq {Ws:List (List Nat)} {all:List DOp}:∀ {l:List DOp} {j:Nat},(∀ t,l[t]? = all[j+t]?)->oA Ws l j=true->∀ j' d,j<=j'->all[j']? = some d->∀ k,k ∈ bZ Ws j'->k ∉ js Ws d.un
 | [],j,hl,hc,j',d,h1,h2=>by
   have:=hl (j' - j)
   rw [show j+(j' - j)=j' by omega,h2] at this; simp at this
 | d::l,j,hl,hc,j',d',h1,h2=>by
   simp only [oA,Bool.and_eq_true] at hc
   have h0:=hl 0
   simp only [List.getElem?_cons_zero,Nat.add_zero] at h0
   by_cases e1:j'=j
   ·subst e1
    rw [← h0] at h2; cases h2
    exact qr.1 hc.1
   ·exact oq (fun t=>by have:=hl (t+1); rw [List.getElem?_cons_succ] at this; rw [this,show j+(t+1)=j+1+t by omega]) hc.2 j' d' (by omega) h2
def rkB (ds:List DOp) (i:Nat):Bool:=match ds[i]? with
 | some d=>d.rk.isSome
 | none=>false
theorem iG {cp:CP α} (hcp:qD w0 S LP cp) {ds:List DOp} {Ws WsS:List (List Nat)} (H0:HR w0 ν0 nV nS h0 lh0) (hS:nS=lh0.length) (hw:WR ν0 nV nS h0 Ws WsS) (hcons:tl Ws ds ds 0=true) (hall:oA Ws ds 0=true) :
 ∀ (rest:List DOp) (i:Nat) (e:Env) (h:List O) (ν:Nu) (sl:List ab) (lh:List ac) (K:Env->List O->T α) (KA:List ab->List ac->Prop),(∀ t,rest[t]? = ds[i+t]?)->pU N rest=true ->
 DI w0 ν0 h0 nV nS Ws (rkB ds) i ν h lh->slR w0 ν N e sl->sat LP (dp cp Ws nV rest i e h K) Q ->
 (∀ e' h' ν' sl' lh',ν.sub ν'->slR w0 ν' N e' sl'->HR w0 ν' nV nS h' lh'->sat LP (K e' h') Q->KA sl' lh')->d9 w0 S WsS nS KA rest i sl lh
 | [],i,e,h,ν,sl,lh,K,KA,hr,hd,hdi,hsl,hs,hK=>hK e h ν sl lh (Nu.sub_refl ν) hsl hdi.hr hs
 | d :: rest,i,e,h,ν,sl,lh,K,KA,hr,hd,hdi,hsl,hs,hK=>by
   obtain ⟨hd1,hd2⟩:=z8 hd
   have hdsi:ds[i]? = some d:=by have:=hr 0; simpa using this.symm
   have hr':∀ t,rest[t]? = ds[i+1+t]? := fun t=>by have:=hr (t+1); rw [List.getElem?_cons_succ] at this; rw [this,show i+(t+1)=i+1+t by omega]
   obtain ⟨hc1,hc2⟩:=xz (j:=0) (fun t=>by simp) hcons i d (Nat.zero_le _) hdsi
   have hdis:=oq (j:=0) (fun t=>by simp) hall i d (Nat.zero_le _) hdsi
   have hCW:yQ Ws (rkB ds) i (bZ Ws i):=fun i' h1 h2=>qP (i:=0) (fun t=>by simp) hc1 i' (Nat.zero_le _) h1 h2
   have hCX:yQ Ws (rkB ds) i (js Ws d.un):=fun i' h1 h2=>qP (i:=0) (fun t=>by simp) hc2 i' (Nat.zero_le _) h1 h2
   have hXw:∀ k,k ∈ js Ws d.un->∃ u,k ∈ bZ Ws u:=fun k hk=>by obtain ⟨u,_,g⟩:=iH.1 hk; exact ⟨u,g⟩
   have hXS:∀ j,j ∈ xOf WsS d.un ↔ ∃ k,k ∈ js Ws d.un/\nmu ν0 nV nS k=some j:=fun j=>by
    rw [zh]
    constructor
    ·rintro ⟨u,h1,h2⟩
     obtain ⟨k,g1,g2⟩:=(hw.rel u j).1 h2
     exact ⟨k,iH.2 ⟨u,h1,g1⟩,g2⟩
    ·rintro ⟨k,h1,h2⟩
     obtain ⟨u,g1,g2⟩:=iH.1 h1
     exact ⟨u,g1,(hw.rel u j).2 ⟨k,g2,h2⟩⟩
   have hhid:=hdi.hide H0 hS hw hCX hXw hXS
   have hsucc:DI w0 ν0 h0 nV nS Ws (rkB ds) (i+1) ν h lh:=⟨hdi.hr,hdi.old,hdi.zc,hdi.liv,fun k x h1 h2=>by
    rcases hdi.nw k x h1 h2 with g | ⟨a,b,g1,g2,g3⟩
    ·exact .inl g
    ·exact .inr ⟨a,b,g1,by omega,g3⟩⟩
   have hmixid:mix (wOf WsS i) lh (hide (xOf WsS d.un) lh)=lh:=by
    apply List.ext_getElem?
    intro j
    rw [ry]
    cases hg:lh[j]? with
    | none=>rfl
    | some o =>
      simp only [Option.map_some]
      by_cases hj:j ∈ wOf WsS i
      ·rw [if_pos hj]
       simp only [List.getD,kd,hg,Option.map_some,Option.getD_some]
       rw [if_neg]
       intro hx
       obtain ⟨k,g1,g2⟩:=(hw.rel i j).1 hj
       obtain ⟨k',g3,g4⟩:=(hXS j).1 hx
       obtain ⟨u,_,g5⟩:=iH.1 g3
       have:=pH H0 hS (fun hlt=>hw.live i k g1 hlt) (fun hlt=>hw.live u k' g5 hlt) g2 g4
       subst this
       exact hdis k g1 g3
      ·rw [if_neg hj]
   -- an operation is run
   have run:∀ {e0:Env} {ctx:Bool} {W:V->V},ctx=true->(∀ v a,vr w0 ν.z ν v a->vr w0 ν.z ν (W v) a)->gR d.o.op=true->slR w0 ν N e0 sl ->
    sat LP (evI (fun f vs h K=>cp f vs h fun v=>K v h) ctx none d.o.op e0 (fB (js Ws d.un) h) fun v _=>dp cp Ws nV rest (i+1) (dE e0 d.o.dst (W v)) h K) Q ->
    vcI w0 S sl (hide (xOf WsS d.un) lh) (d.rk.map (nS+·)) (fun v l=>fJ (wOf WsS i) l (hide (xOf WsS d.un) lh)/\d9 w0 S WsS nS KA rest (i+1) (cA sl d.o.dst v) (mix (wOf WsS i) lh l)) d.o.op:=by
    intro e0 ctx W hc hWv hst hsl0 hs
    refine CM hst (um (md:=false) (wn:=[]) hsl0 hhid hc (hcp.cf false) (.inl ⟨rfl,rfl⟩) (fun e=>by cases e) hs fun v h' ν' a lh' _ q g1 g2 g3 g4=>?_)
    obtain ⟨rfl,rfl,rfl⟩:=q hst
    refine ⟨⟨rfl,fun _ _=>rfl⟩,?_⟩
    rw [hmixid]
    exact iG hcp H0 hS hw hcons hall rest (i+1) _ _ _ _ _ K KA hr' hd2 hsucc (hsl0.put d.o.dst hd1 (hWv _ _ g3)) g4 hK
   have runM:∀ {e0:Env},slR w0 ν N e0 sl->sat LP (evM cp Ws nV d i e0 h fun v h=>dp cp Ws nV rest (i+1) (dE e0 d.o.dst v) h K) Q ->
    vcI w0 S sl (hide (xOf WsS d.un) lh) (d.rk.map (nS+·)) (fun v l=>fJ (wOf WsS i) l (hide (xOf WsS d.un) lh)/\d9 w0 S WsS nS KA rest (i+1) (cA sl d.o.dst v) (mix (wOf WsS i) lh l)) d.o.op:=by
    intro e0 hsl0 hs
    unfold evM at hs
    split at hs
    ·rename_i hst
     exact run (W:=id) rfl (fun _ _ h=>h) hst hsl0 hs
    ·rename_i hst
     split at hs
     ·exact hs.elim
     ·rename_i l hl
      cases hsb:yL (plL (d.rk.map (nV+·)) l) (bZ Ws i) with
      | false=>rw [hsb] at hs; exact hs.elim
      | true =>
        rw [hsb] at hs
        simp only [cond_true] at hs
        have hsb:=qW.1 hsb
        have hlW:∀ k,k ∈ l->k ∈ bZ Ws i:=fun k hk=>hsb k (by unfold plL; split <;> simp [hk])
        have hpR:plR nV nS (d.rk.map (nV+·)) (d.rk.map (nS+·)):=by
         cases hr:d.rk with
         | none=>exact .inl ⟨rfl,rfl⟩
         | some r=>exact .inr ⟨nV+r,rfl,by simp⟩
        refine um (md:=true) (wn:=bZ Ws i) hsl0 hhid rfl (hcp.cf true) hpR (fun _=>⟨l,hl,hlW⟩) hs fun v h' ν' a lh' hm _ g1 g2 g3 g4=>?_
        obtain ⟨q1,q2⟩:=hdi.mix H0 hS hw hCX hCW hdis hhid (pl:=d.rk.map (nV+·)) (plA:=d.rk.map (nS+·)) (fun p hp=>by
         cases hr:d.rk with
         | none=>rw [hr] at hp; cases hp
         | some r =>
           rw [hr] at hp
           simp only [Option.map_some,Option.some.injEq] at hp
           subst hp
           refine ⟨hsb _ (by rw [hr]; simp [plL]),by omega,by simp,?_⟩
           unfold rkB; rw [hdsi]; dsimp only; rw [hr]; rfl) (fun hp=>by
         cases hr:d.rk with
         | none=>rfl
         | some r=>rw [hr] at hp; cases hp) g1 g2 (hm rfl)
        exact ⟨q1,iG hcp H0 hS hw hcons hall rest (i+1) _ _ _ _ _ K KA hr' hd2 q2 ((hsl0.mono g1).put d.o.dst hd1 g3) g4 fun e' h' ν'' sl' lh' k1=>hK e' h' ν'' sl' lh' (Nu.sub_trans g1 k1)⟩
   have skip:∀ {e0:Env},slR w0 ν N e0 sl->sat LP (dp cp Ws nV rest (i+1) (dE e0 d.o.dst (.tup [])) h K) Q->d9 w0 S WsS nS KA rest (i+1) (cA sl d.o.dst (.tup [])) lh:=by
    intro e0 hsl0 hs
    exact iG hcp H0 hS hw hcons hall rest (i+1) _ _ _ _ _ K KA hr' hd2 hsucc (hsl0.put d.o.dst hd1 zG) hs hK
   have skipS:∀ {b:Bool},gR d.o.op=true->b=false->sat LP (evI (fun f vs h K=>cp f vs h fun v=>K v h) b none d.o.op e (fB (js Ws d.un) h) fun v _=>dp cp Ws nV rest (i+1) (dE e d.o.dst (.gd b v)) h K) Q->d9 w0 S WsS nS KA rest (i+1) (cA sl d.o.dst (.tup [])) lh:=by
    intro b hst hb hs
    obtain ⟨v,g⟩:=zq hb hst hs
    exact iG hcp H0 hS hw hcons hall rest (i+1) _ _ _ _ _ K KA hr' hd2 hsucc (hsl.put d.o.dst hd1 (zw hb)) g hK
   simp only [dp] at hs
   simp only [d9,vcM,jq]
   split at hs
   ·rename_i hg; rw [hg]; exact runM hsl hs
   ·rename_i g want hg
    rw [hg]
    dsimp only
    have hat:=hsl.at' g
    split at hs
    ·rename_i b hb
     rw [hb] at hat
     simp only [vr] at hat
     rw [hat]
     dsimp only
     split at hs
     ·rename_i he _
      subst he
      exact ⟨fun _=>runM hsl hs,fun e=>by cases b <;> cases e⟩
     ·rename_i he _
      exact ⟨fun e=>(he e).elim,fun e=>skip hsl hs⟩
    ·rename_i l hb
     rw [hb] at hat
     simp only [vr] at hat
     obtain ⟨az,hat,_⟩:=hat
     rw [hat]
     exact skip hsl hs
    ·rename_i k n hb
     rw [hb] at hat
     simp only [vr] at hat
     rw [hat]
     exact skip hsl hs
    ·rename_i b hb
     rw [hb] at hat
     simp only [vr] at hat
     rw [hat]
     dsimp only
     split at hs
     ·rename_i hst
      exact ⟨fun e1=>run (rK e1) (fun _ _ hv=>uE (rK e1) hv) hst hsl hs,fun e1=>skipS hst (vW e1) hs⟩
     ·simp only [sat] at hs
      exact ⟨fun e1=>runM (hsl.know (by simp only [vr]; rw [hat,e1])) (hs.1 (rK e1)),fun e1=>skip (hsl.know (by simp only [vr]; rw [hat,e1])) (hs.2 (vW e1))⟩
    ·rename_i c v hb
     rw [hb] at hat
     simp only [vr] at hat
     split at hs
     ·exact hs.elim
     ·rename_i b hbv
      cases c with
      | false =>
        obtain ⟨l,hl⟩:=hat.2 rfl
        rw [hl]
        dsimp only
        split at hs
        ·rename_i hst
         exact skipS hst rfl hs
        ·simp only [sat] at hs
         exact skip hsl (hs.2 rfl)
      | true =>
        have hat:=lP (hat.1 rfl) hbv
        rw [hat]
        dsimp only
        split at hs
        ·rename_i hst
         exact ⟨fun e1=>run (by rw [rK e1]; rfl) (fun _ _ hv=>uE (by rw [rK e1]; rfl) hv) hst hsl hs,fun e1=>skipS hst (by rw [vW e1]; rfl) hs⟩
        ·simp only [sat] at hs
         exact ⟨fun e1=>runM (hsl.know (by simp only [vr]; rw [hat,e1])) (hs.1 (by rw [rK e1]; rfl)),fun e1=>skip hsl (hs.2 (by rw [vW e1]; rfl))⟩
    ·exact hs.elim
theorem nK {cp:CP α} (hcp:qD w0 S LP cp) {ds:List DOp} {a b:Nat} {K:Env->List O->T α} {KA:List ab->List ac->Prop} (hd:pU N ds=true) (hsl:slR w0 ν N e sl) (hh:HR w0 ν a b h lh)
 (hs:sat LP (nm cp ds e h K) Q) (hK:∀ e' h' ν' sl' lh' nV nS,ν.sub ν'->slR w0 ν' N e' sl'->HR w0 ν' nV nS h' lh'->sat LP (K e' h') Q->KA sl' lh'):jT w0 S ds sl lh KA:=by
 unfold nm at hs
 split at hs
 ·exact hs.elim
 ·rename_i Ws hW
  cases hc:(oA Ws ds 0 && tl Ws ds ds 0) with
  | false=>rw [hc] at hs; exact hs.elim
  | true =>
    rw [hc] at hs
    simp only [cond_true] at hs
    simp only [Bool.and_eq_true] at hc
    have hlen:aY h=(undead h).length:=by rw [ba,la]
    rw [hlen] at hs hW
    have H0:=hh.undead (undead h).length lh.length
    have hw:=NJ H0 rfl hsl hW
    have H1:=H0.deads rfl rfl (news ds)
    rw [gQ] at hs
    refine ⟨?_,?_⟩
    ·-- the sets are apart there,too
     have gen:∀ (l:List DOp) (j:Nat),(∀ t,l[t]? = ds[j+t]?)->wI (gN w0 lh sl lh.length ds) l j:=by
      intro l
      induction l with
      | nil=>intro j _; trivial
      | cons d l ih =>
        intro j hl
        have hdj:ds[j]? = some d:=by have:=hl 0; simpa using this.symm
        have hdis:=oq (j:=0) (fun t=>by simp) hc.1 j d (Nat.zero_le _) hdj
        refine ⟨?_,ih (j+1) fun t=>by have:=hl (t+1); rw [List.getElem?_cons_succ] at this; rw [this,show j+(t+1)=j+1+t by omega]⟩
        have disj_of:∀ (A B:List Nat),(∀ k,k ∈ A->k ∉ B)->Di A B:=by
         intro A B hAB
         induction A with
         | nil=>trivial
         | cons x A ihA =>
           refine ⟨?_,ihA fun k hk=>hAB k (List.mem_cons_of_mem _ hk)⟩
           have hx:=hAB x List.mem_cons_self
           clear ihA hAB
           induction B with
           | nil=>trivial
           | cons y B ihB=>exact ⟨fun e=>hx (by rw [e]; exact List.mem_cons_self),ihB fun hm=>hx (List.mem_cons_of_mem _ hm)⟩
        refine disj_of _ _ fun s hs1 hs2=>?_
        obtain ⟨k,g1,g2⟩:=(hw.rel j s).1 hs1
        obtain ⟨u,g3,g4⟩:=zh.1 hs2
        obtain ⟨k',g5,g6⟩:=(hw.rel u s).1 g4
        have:=pH H0 rfl (fun hlt=>hw.live j k g1 hlt) (fun hlt=>hw.live u k' g5 hlt) g2 g6
        subst this
        exact hdis k g1 (iH.2 ⟨u,g3,g5⟩)
     exact gen ds 0 fun t=>by simp
    ·refine iG hcp H0 rfl hw hc.2 hc.1 ds 0 e _ ν sl _ K KA (fun t=>by simp) hd ⟨H1,fun _ _=>rfl,rfl,fun k hk hl=>?_,fun k x hk hx=>?_⟩ hsl hs fun e' h' ν' sl' lh'=>hK e' h' ν' sl' lh' _ _
     ·unfold aA cB at *
      rw [aF] at *
      rw [List.getElem?_append_left hk] at hl; exact hl
     ·rw [H0.dom k hk] at hx; cases hx
end
end Go.Dx
