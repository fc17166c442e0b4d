/- Part Pad of the proof of ButtTexts: lemmas. -/
import Derived.Test.YthgephlghkjiaaaGreatDoorPac
set_option maxRecDepth 100000
set_option maxHeartbeats 4000000
set_option linter.all false
namespace Go.Nk
noncomputable section
open Go Go.Conc Go.Proofs
open Bool renaming false->q9,true->J,and_eq_true->vh
open Go renaming TypeId->ta,Value->o5,undef->vk,Operand->su,IntKind->E1,FuncId->vb,Program->tb,Addr->vm,Oper->sa
open Go.Instr renaming alloc->awp,box->axj,loadAt->avF,sureAddr->avI,storeAt->aub,indexAt->auX,fieldAt->at3,extract->avo
open Nat renaming beq->td,mod->aug,div->at0,ble->vd,blt->Kf,testBit->atE,lt_succ_self->awR,lt_or_ge->vy,lt_of_lt_of_le->auj
open Option renaming none->o0,some->C
section
inductive dp(α:Type) where
 |nil
 |node (v:Option α) (l r:dp α)
namespace dp
variable{α β:Type}
def get:dp α->Nat->Option α
 | .nil,_=>o0
 | .node v l r,n=>match n with
  | 0=>v
  |n+1=>cond (td (aug n 2) 0) (l.get (at0 n 2)) (r.get (at0 n 2))
def iI(x:α):Nat->dp α->Nat->(dp α->β)->β
 | 0,t,_,k=>k t
 |f+1,.nil,n,k=>match n with
  | 0=>k (.node (C x) .nil .nil)
  |n+1=>cond (td (aug n 2) 0) (iI x f .nil (at0 n 2) λl=>k (.node o0 l .nil)) (iI x f .nil (at0 n 2) λr=>k (.node o0 .nil r))
 |f+1,.node v l r,n,k=>match n with
  | 0=>k (.node (C x) l r)
  |n+1=>cond (td (aug n 2) 0) (iI x f l (at0 n 2) λl=>k (.node v l r)) (iI x f r (at0 n 2) λr=>k (.node v l r))
end dp
def jW{β:Type}(m:Nat)(k:Nat->β):β:=match m with|0=>k 0|m+1=>k (m+1)
def GN{β:Type}(m:Int)(k:Int->β):β:=match m with|.ofNat m=>jW m λm=>k (.ofNat m)|.negSucc m=>jW m λm=>k (.negSucc m)
inductive cj where
 |cs (own loose:Bool) (t:ta) (c:List o5)
 |mp (own:Bool) (es:List (o5×o5×Nat)) (clock:Nat)
 |dead
structure aE where
 t:dp cj
 an:Nat
 cg:Nat
 bQ:List (Nat×Nat)
def c9:List (Nat×Nat)->Nat->Bool
 | [],_=>q9
 | (a,b)::l,n=>cond (vd a n) (cond (vd b n) (c9 l n) J) (c9 l n)
def aE.get(H:aE)(b:Nat):Option cj:=cond (c9 H.bQ b) o0 (H.t.get b)
def aE.iI{β:Type}(H:aE)(b:Nat)(x:cj)(k:aE->β):β:=dp.iI x (b+1) H.t b λt=>k {H with t:=t}
def aE.pC{β:Type}(H:aE)(x:cj)(k:Nat->aE->β):β:=jW H.an λn=>dp.iI x (n+1) H.t n λt=>k n {H with t:=t,an:=n+1}
abbrev cL:=dp o5
def cL.rd(e:cL)(t:Nat):o5:=match dp.get e t with|some v=>v|none=>vk
def bW(e:cL):su->o5
 | .tmp t=>e.rd t
 | .const v=>v
 | .global g=>.pointer (C ⟨g,0,o0⟩)
 | .func f=>.func (.func f) #[] #[]
def xB(e:cL):List su->List o5
 | []=>[]
 |o::l=>bW e o::xB e l
inductive BT where
 |int|bool|string|slice|flat (n:Nat)|fn
inductive dh where
 |mv (x:su)
 |pick (c x y:su)
 |alloc (t:ta) (z:List o5)
 |box (t n:Nat) (x:su)
 |build (z:List o5) (bc:List (Nat×Nat×su))
 |buildSlice (t size len:Nat) (z:List o5) (bc:List (Nat×Nat×su))
 |BU (x:su)
 |BV (n:Nat) (x:su)
 |st (n:Nat) (x y:su)
 |BW (x:su)
 |bin (op:BinOp) (k:BT) (x y:su)
 |un (op:UnOp) (x:su)
 |conv (k:E1) (x:su)
 |BX (t:ta) (x:su)
 |GO (f:vb) (xs kG:List su)
 |mkMap
 |mkSlice (t size bytes:Nat) (z:List o5) (x y:su)
 |rG (x:su) (lo hi:Option su)
 |sl (t size:Nat) (x:su) (lo hi aZ:Option su)
 |BY (n size:Nat) (x:su) (lo hi aZ:Option su)
 |BZ (off:Nat) (x:su)
 |idx (size:Nat) (x y:su)
 |B7 (n size:Nat) (x y:su)
 |zK (n size:Nat) (agg:Bool) (x y:su)
 |B8 (x y:su)
 |lookup (str:Bool) (z:o5) (ok:Bool) (x y:su)
 |B9 (str:Bool) (m k v:su)
 |ext (x:su) (i:Nat)
 |call (f:vb) (b1:List su)
 |GP (x:su) (b1:List su)
 |Ca (x:su)
 |Cb (x:su)
 |GQ (n:Nat)
 |max2 (x y:su)
 |app (t size bytes:Nat) (x y:su)
 |copy (size:Nat) (x y:su)
 |clear (z:List o5) (x:su)
 |bad
structure mY where
 dst:Option Nat
 g:Option (Nat×Bool)
 op:dh
inductive mx where
 |skip
 |seq (x y:mx)
 |cond (c:su) (x y:mx)
 |block (id:Nat) (x:mx)
 |loop (x:mx)
 |exit (id:Nat)
 |ret
 |reg (ops:List mY)
 |draw (ops:List mY) (bef:List Nat) (cC:List (Nat×Nat))
 |bad
structure vz where
 n:Nat
 body:mx
 res:List (Nat×Option (Bool×Nat))
def eD:o5->List o5
 | .agg ⟨l⟩=>l
 |v=>[v]
def df:Nat:=4611686018427387904
def lx(c:Nat):Bool:=vd 2305843009213693952 c
def mZ{α:Type}:List α->Nat->Option α
 | [],_=>o0
 |a::l,n=>match n with|0=>C a|n+1=>mZ l n
def vA{α β:Type}:Nat->List α->(List α->Option β)->Option β
 | 0,_,k=>k []
 |_+1,[],_=>o0
 |n+1,a::l,k=>vA n l λr=>k (a::r)
def vB{α:Type}:Nat->List α->List α
 | 0,l=>l
 |_+1,[]=>[]
 |n+1,_::l=>vB n l
def ny{β:Type}:Nat->List o5->List o5->(List o5->Option β)->Option β
 |_,l,[],k=>k l
 | 0,[],_::_,_=>o0
 | 0,_::l,v::vs,k=>ny 0 l vs λr=>k (v::r)
 |_+1,[],_::_,_=>o0
 |n+1,a::l,v::vs,k=>ny n l (v::vs) λr=>k (a::r)
def pD:List o5->Bool
 | []=>J
 |v::l=>cond (jG v) (pD l) q9
def pE{β:Type}(H:aE)(b o n:Nat)(k:List o5->Option β):Option β:=match H.get b with
 |some (.cs _ _ _ c)=>vA n (vB o c) k
 |_=>o0
def sK{β:Type}(H:aE)(b o:Nat)(vs:List o5)(k:aE->Option β):Option β:=match H.get b with
 |some (.cs J lo t c)=>cond (vd H.cg b) (cond (pD vs) (ny o c vs λc=>H.iI b (.cs J lo t c) k) o0) o0
 |_=>o0
def wr(k:E1)(n:Int):Int:=match n with
 | .ofNat m=>cond (Kf m 128) n (match k with|.i64=>cond (Kf m 9223372036854775808) n (k.wrap n)|.u64=>cond (Kf m 18446744073709551616) n (k.wrap n)|_=>k.wrap n)
 | .negSucc m=>match k with|.i64=>cond (Kf m 9223372036854775808) n (k.wrap n)|_=>k.wrap n
def vC:E1->E1->Bool
 | .i64,.i64=>J
 | .i32,.i32=>J
 | .i16,.i16=>J
 | .i8,.i8=>J
 | .u64,.u64=>J
 | .u32,.u32=>J
 | .u16,.u16=>J
 | .u8,.u8=>J
 |_,_=>q9
def xC:Int->Int->Bool
 | .ofNat a,.ofNat b=>td a b
 | .negSucc a,.negSucc b=>td a b
 |_,_=>q9
def GR:Bool->Bool->Bool
 |true,J=>J
 |false,q9=>J
 |_,_=>q9
def vD:o5->o5->Option Bool
 | .int k a,.int k' b=>cond (vC k k') (C (xC a b)) o0
 |_,_=>o0
def oQ:List o5->List o5->Option Bool
 | [],[]=>C J
 |a::l,b::m=>match vD a b with|some J=>oQ l m|r=>r
 |_,_=>o0
def xD:List UInt8->List UInt8->Bool
 | [],[]=>J
 |a::l,b::m=>cond (td a.toNat b.toNat) (xD l m) q9
 |_,_=>q9
def zL:Int->Int->Bool
 | .ofNat a,.ofNat b=>vd a b
 | .negSucc a,.negSucc b=>vd b a
 | .negSucc _,.ofNat _=>J
 | .ofNat _,.negSucc _=>q9
def zM(a b:Int):Bool:=not (zL b a)
def pF(k:E1)(n:Int)(f:o5->Option (o5×aE)):Option (o5×aE):=GN (wr k n) λn=>f (.int k n)
def my(b:Bool)(f:o5->Option (o5×aE)):Option (o5×aE):=match b with|true=>f (.bool J)|false=>f (.bool q9)
def tY(op:BinOp)(c:BT)(x y:o5)(f:o5->Option (o5×aE)):Option (o5×aE):=match c with
 | .int=>match x,y with
  | .int k a,.int k' b=>match op with
   | .shl=>match a,b with|.ofNat a,.ofNat b=>cond (vd b k.bits) (pF k (.ofNat (Nat.mul a (Nat.pow 2 b))) f) o0|_,_=>o0
   | .shr=>match a,b with|.ofNat a,.ofNat b=>cond (vd b k.bits) (jW (at0 a (Nat.pow 2 b)) λn=>f (.int k (.ofNat n))) o0|_,_=>o0
   |_=>cond (vC k k') (match op with
    | .add=>pF k (a+b) f
    | .sub=>pF k (a- b) f
    | .mul=>pF k (a*b) f
    | .eql=>my (xC a b) f
    | .neq=>my (not (xC a b)) f
    | .lss=>my (zM a b) f
    | .leq=>my (zL a b) f
    | .gtr=>my (zM b a) f
    | .geq=>my (zL b a) f
    | .rem=>match a,b with|.ofNat a,.ofNat b=>cond (td b 0) o0 (jW (aug a b) λn=>f (.int k (.ofNat n)))|_,_=>o0
    | .quo=>match a,b with|.ofNat a,.ofNat b=>cond (td b 0) o0 (pF k (.ofNat (at0 a b)) f)|_,_=>o0
    | .and=>match a,b with|.ofNat a,.ofNat b=>pF k (.ofNat (Nat.land a b)) f|_,_=>o0
    | .or=>match a,b with|.ofNat a,.ofNat b=>pF k (.ofNat (Nat.lor a b)) f|_,_=>o0
    |_=>o0) o0
  |_,_=>o0
 | .bool=>match x,y with
  | .bool a,.bool b=>match op with
   | .eql=>my (GR a b) f
   | .neq=>my (not (GR a b)) f
   |_=>o0
  |_,_=>o0
 | .string=>match x,y with
  | .string ⟨⟨a⟩⟩,.string ⟨⟨b⟩⟩=>match op with
   | .eql=>my (xD a b) f
   | .neq=>my (not (xD a b)) f
   |_=>o0
  |_,_=>o0
 | .slice=>match x,y with
  | .slice a _ _,.slice o0 _ _=>match op with
   | .eql=>my a.isNone f
   | .neq=>my (not a.isNone) f
   |_=>o0
  |_,_=>o0
 | .flat n=>match x,y with
  | .agg ⟨a⟩,.agg ⟨b⟩=>cond (td a.length n&&td b.length n) (match oQ a b with
   |some r=>match op with
    | .eql=>my r f
    | .neq=>my (not r) f
    |_=>o0
   |none=>o0) o0
  |_,_=>o0
 | .fn=>o0
def GU(n:Nat)(a:Bool)(cs:List o5)(o:Nat)(f:o5->Option (o5×aE)):Option (o5×aE):=match a with
 |true=>vA n (vB o cs) λr=>f (.agg ⟨r⟩)
 |false=>match mZ cs o with|some v=>f v|none=>o0
def vE{β:Type}(e:cL)(cells:List o5):List (Nat×Nat×su)->(List o5->Option β)->Option β
 | [],k=>k cells
 | (o,n,x)::l,k=>match eD (bW e x)with
  |vs=>cond (td vs.length n) (ny o cells vs λc=>vE e c l k) o0
def lW(z:List o5):Nat->List o5
 | 0=>[]
 |n+1=>z++lW z n
def zN(str:Bool)(x y:o5):Option Bool:=match str with
 |true=>match x,y with|.string ⟨⟨a⟩⟩,.string ⟨⟨b⟩⟩=>C (xD a b)|_,_=>o0
 |false=>match x,y with|.int k a,.int k' b=>cond (vC k k') (C (xC a b)) o0|_,_=>o0
def vF(str:Bool)(x:o5):List (o5×o5×Nat)->Option (Option o5)
 | []=>C o0
 | (k,v,_)::l=>match zN str x k with|some J=>C (C v)|some q9=>vF str x l|none=>o0
def vG(str:Bool)(x v:o5):List (o5×o5×Nat)->List (o5×o5×Nat)
 | []=>[]
 | (k,w,n)::l=>match zN str x k with|some J=>(x,v,n)::l|_=>(k,w,n)::vG str x v l
def kI(e:cL)(d:Nat):Option su->Option Nat
 |none=>C d
 |some o=>match bW e o with|.int _ (.ofNat n)=>C n|_=>o0
def cy(call:vb->List o5->aE->Option (o5×aE))(e:cL)(H:aE)(op:dh):Option (o5×aE):=let d (v:o5):Option (o5×aE):=C (v,H)
 match op with
 | .mv x=>d (bW e x)
 | .pick c x y=>match bW e c with|.bool J=>d (bW e x)|.bool q9=>d (bW e y)|_=>o0
 | .alloc t z=>H.pC (.cs J q9 t z) λn H=>C (.pointer (C ⟨n,0,o0⟩),H)
 | .box t n x=>match eD (bW e x)with
  |vs=>cond (td vs.length n) (H.pC (.cs J q9 t vs) λn H=>C (.pointer (C ⟨n,0,o0⟩),H)) o0
 | .build z bc=>vE e z bc λc=>d (.agg ⟨c⟩)
 | .buildSlice t g q z bc=>vE e (lW z q) bc λc=>H.pC (.cs J q9 t c) λn H=>C (.slice (C ⟨n,0,o0⟩) q q,H)
 | .BU x=>match bW e x with
  | .pointer (C ⟨b,o,o0⟩)=>pE H b o 1 λc=>match c with|[v]=>d v|_=>o0
  |_=>o0
 | .BV n x=>match bW e x with
  | .pointer (C ⟨b,o,o0⟩)=>pE H b o n λc=>d (.agg ⟨c⟩)
  |_=>o0
 | .st n x y=>match bW e x with
  | .pointer (C ⟨b,o,o0⟩)=>match eD (bW e y)with
   |vs=>cond (td vs.length n) (sK H b o vs λH=>C (vk,H)) o0
  |_=>o0
 | .BW x=>match bW e x with
  | .pointer (C a)=>d (.pointer (C a))
  | .func f a b=>d (.func f a b)
  |_=>o0
 | .bin op k x y=>tY op k (bW e x) (bW e y) d
 | .un op x=>match op,bW e x with
  | .not,.bool J=>d (.bool q9)
  | .not,.bool q9=>d (.bool J)
  | .neg,.int k n=>pF k (0- n) d
  |_,_=>o0
 | .conv k x=>match bW e x with
  | .int _ n=>pF k n d
  |_=>o0
 | .BX t x=>d (.iface t (bW e x))
 | .GO f xs kG=>d (.func (.func f) ⟨xB e xs⟩ ⟨xB e kG⟩)
 | .mkMap=>H.pC (.mp J [] 0) λn H=>C (.map (C n),H)
 | .mkSlice t _ bytes z x y=>match bW e x,bW e y with
  | .int _ (.ofNat l),.int _ (.ofNat c)=>cond (vd l c&&vd c 1000&&vd bytes 1000) (H.pC (.cs J q9 t (lW z c)) λn H=>C (.slice (C ⟨n,0,o0⟩) l c,H)) o0
  |_,_=>o0
 | .rG x lo hi=>match bW e x with
  | .string ⟨⟨s⟩⟩=>match kI e s.length hi with
   |some h=>match kI e 0 lo with
    |some l=>cond (vd h s.length&&vd l h) (vA (h- l) (vB l s) λr=>d (.string ⟨⟨r⟩⟩)) o0
    |none=>o0
   |none=>o0
  |_=>o0
 | .sl t g x lo hi aZ=>match bW e x with
  | .slice (C ⟨b,o,o0⟩) q p=>match kI e p aZ with
   |some m=>match kI e q hi with
    |some h=>match kI e 0 lo with
     |some l=>match(match lx p with
       |false=>cond (vd l h&&vd h m&&vd m p) (C J) o0
       |true=>match H.get b with
        |some (.cs _ J w c)=>cond (td w t&&vd p df&&td o ((df- p)*g)&&vd l h&&vd (o+h*g) c.length&&(match aZ with
          |none=>lx (m- l)&&(td l 0||Kf (o+l*g) c.length)
          |some _=>vd h m&&vd (o+m*g) c.length&&not (lx m))) (C J) o0
        |_=>o0)with
      |some _=>jW (h- l) λn=>jW (m- l) λc=>cond (td m l) (d (.slice (C ⟨b,o,o0⟩) n c)) (jW (o+l*g) λo=>d (.slice (C ⟨b,o,o0⟩) n c))
      |none=>o0
     |none=>o0
    |none=>o0
   |none=>o0
  | .slice o0 0 0=>match kI e 0 aZ,kI e 0 hi,kI e 0 lo with
   |some 0,C 0,C 0=>d (.slice o0 0 0)
   |_,_,_=>o0
  |_=>o0
 | .BY n g x lo hi aZ=>match bW e x with
  | .pointer (C ⟨b,o,o0⟩)=>match kI e n aZ with
   |some m=>match kI e n hi with
    |some h=>match kI e 0 lo with
     |some l=>cond (vd l h&&vd h m&&vd m n)
      (jW (h- l) λn=>jW (m- l) λc=>cond (td m l) (d (.slice (C ⟨b,o,o0⟩) n c)) (jW (o+l*g) λo=>d (.slice (C ⟨b,o,o0⟩) n c))) o0
     |none=>o0
    |none=>o0
   |none=>o0
  |_=>o0
 | .BZ B x=>match bW e x with
  | .pointer (C ⟨b,o,o0⟩)=>jW (o+B) λo=>d (.pointer (C ⟨b,o,o0⟩))
  |_=>o0
 | .idx g x y=>match bW e x,bW e y with
  | .slice (C ⟨b,o,o0⟩) n _,.int _ (.ofNat i)=>cond (Kf i n) (jW (o+i*g) λo=>d (.pointer (C ⟨b,o,o0⟩))) o0
  |_,_=>o0
 | .B7 n g x y=>match bW e x,bW e y with
  | .pointer (C ⟨b,o,o0⟩),.int _ (.ofNat i)=>cond (Kf i n) (jW (o+i*g) λo=>d (.pointer (C ⟨b,o,o0⟩))) o0
  |_,_=>o0
 | .zK n g D x y=>match bW e x,bW e y with
  | .agg ⟨cs⟩,.int _ (.ofNat i)=>cond (Kf i n) (GU g D cs (i*g) d) o0
  |_,_=>o0
 | .B8 x y=>match bW e x,bW e y with
  | .string ⟨⟨s⟩⟩,.int _ (.ofNat i)=>match mZ s i with|some b=>jW b.toNat λb=>d (.int .u8 (.ofNat b))|none=>o0
  |_,_=>o0
 | .lookup A z k x y=>match bW e x with
  | .map (C r)=>match H.get r with
   |some (.mp _ es _)=>match vF A (bW e y) es with
    |some (C v)=>match k with|true=>d (.tuple ⟨[v,.bool J]⟩)|false=>d v
    |some o0=>match k with|true=>d (.tuple ⟨[z,.bool q9]⟩)|false=>d z
    |none=>o0
   |_=>o0
  |_=>o0
 | .B9 A m k v=>match bW e m with
  | .map (C r)=>match H.get r with
   |some (.mp J es c)=>cond (vd H.cg r) (match vF A (bW e k) es with
    |some (C _)=>H.iI r (.mp J (vG A (bW e k) (bW e v) es) c) λH=>C (vk,H)
    |some o0=>H.iI r (.mp J (es++[(bW e k,bW e v,c)]) (c+1)) λH=>C (vk,H)
    |none=>o0) o0
   |_=>o0
  |_=>o0
 | .ext x i=>match bW e x with
  | .tuple ⟨l⟩=>match mZ l i with|some v=>d v|none=>o0
  |_=>o0
 | .call f b1=>call f (xB e b1) H
 | .GP x b1=>match bW e x with
  | .func (.func f) ⟨a⟩ ⟨c⟩=>call f (a++(xB e b1++c)) H
  |_=>o0
 | .Ca x=>match bW e x with
  | .slice _ n _=>jW n λn=>d (.int .i64 (.ofNat n))
  |_=>o0
 | .Cb x=>match bW e x with
  | .string ⟨⟨s⟩⟩=>jW s.length λn=>d (.int .i64 (.ofNat n))
  |_=>o0
 | .GQ n=>d (.int .i64 (.ofNat n))
 | .max2 x y=>match bW e x,bW e y with
  | .int k a,.int _ b=>cond (zM a b) (d (.int k b)) (d (.int k a))
  |_,_=>o0
 | .app t g bytes x y=>match bW e y with
  | .slice bE m _=>(match bE with
   |some ⟨b,o,o0⟩=>pE H b o (m*g)
   |_=>λk=>cond (td m 0) (k []) o0) λnew=>match bW e x with
    | .slice o0 0 0=>match m with
     | 0=>d (.slice o0 0 0)
     |_+1=>cond (vd m 200&&vd bytes 1000) (H.pC (.cs J J t new) λn H=>C (.slice (C ⟨n,0,o0⟩) m df,H)) o0
    | .slice (C ⟨b,o,o0⟩) q p=>jW (q+m) λu=>cond (vd u 200&&vd bytes 1000)
     (cond (lx p)
      (match H.get b with
       |some (.cs J J w c)=>cond (vd (o+u*g) c.length)
         (cond (td w t&&vd p df&&td o ((df- p)*g)) (sK H b (o+q*g) new λH=>C (.slice (C ⟨b,o,o0⟩) u p,H)) o0)
         (cond (td o 0&&td c.length (q*g)&&vd H.cg b&&td p df&&td w t&&pD new)
         (H.iI b .dead λH=>H.pC (.cs J J t (c++new)) λn H=>C (.slice (C ⟨n,0,o0⟩) u df,H)) o0)
       |_=>o0)
      (cond (vd u p)
       (sK H b (o+q*g) new λH=>C (.slice (C ⟨b,o,o0⟩) u p,H))
       (pE H b o (q*g) λE=>H.pC (.cs J J t (E++new)) λn H=>C (.slice (C ⟨n,0,o0⟩) u df,H)))) o0
    |_=>o0
  |_=>o0
 | .copy g x y=>match bW e x,bW e y with
  | .slice (C ⟨b,o,o0⟩) n _,.slice (C ⟨bG,F,o0⟩) m _=>jW (cond (vd m n) m n) λj=>pE H bG F (j*g) λc=>sK H b o c λH=>C (.int .i64 (.ofNat j),H)
  |_,_=>o0
 | .clear z x=>match bW e x with
  | .slice _ 0 _=>d (.tuple ⟨[]⟩)
  | .slice (C ⟨b,o,o0⟩) n _=>sK H b o (lW z n) λH=>C (.tuple ⟨[]⟩,H)
  |_=>o0
 | .bad=>o0
inductive jX where
 |fail
 |ok (x:eM) (e:cL) (H:aE)
def sL{β:Type}(e:cL)(d:Option Nat)(v:o5)(k:cL->β):β:=match d with|some d=>dp.iI v (d+1) e d k|none=>k e
def ko(e:cL):Option (Nat×Bool)->Bool
 |none=>J
 |some (t,w)=>match e.rd t with
  | .bool J=>w
  | .bool q9=>not w
  |_=>q9
section
variable(call:vb->List o5->aE->Option (o5×aE))
def ix:List mY->cL->aE->jX
 | [],e,H=>.ok .cx e H
 |o::l,e,H=>cond (ko e o.g)
   (match cy call e H o.op with
    |some (v,H)=>sL e o.dst v λe=>ix l e H
    |none=>.fail)
   (sL e o.dst vk λe=>ix l e H)
def lX(b:Nat):List (Nat×Nat×Nat)->List (Nat×Nat)->List (Nat×Nat)
 | [],l=>l
 | (i,lo,hi)::r,l=>cond (atE b i||td lo hi) (lX b r l) ((lo,hi)::lX b r l)
def lz(bef:List Nat)(i k:Nat):Bool:=not (td i k)&&not (atE ((mZ bef i).getD 0) k)&&not (atE ((mZ bef k).getD 0) i)
def nA:o5->Option Nat
 | .pointer (C ⟨b,_,o0⟩)=>C b
 |_=>o0
def lA(bef:List Nat)(e:cL)(i:Nat):List (Nat×Nat)->List (Nat×Nat)->List (Nat×Nat)
 | [],l=>l
 | (k,w)::r,l=>cond (lz bef i k) (match nA (e.rd w)with|some b=>(b,b+1)::lA bef e i r l|none=>lA bef e i r l) (lA bef e i r l)
def Cc(i:Nat):List (Nat×Nat)->Option Nat
 | []=>o0
 | (k,w)::r=>cond (td i k) (C w) (Cc i r)
def vI(e:cL)(w:Nat):dh->Bool
 | .st _ x _=>match nA (bW e x),nA (e.rd w)with|some a,C b=>td a b|_,_=>q9
 |_=>q9
def oR(bef:List Nat)(cC:List (Nat×Nat))(c:Nat->Bool):Nat->List mY->List Nat->List (Nat×Nat×Nat)->cL->aE->jX
 |_,[],_,_,e,H=>.ok .cx e H
 |i,o::l,b::bs,a,e,H=>cond (ko e o.g)
   (match Cc i cC with
    |none=>(match cy call e {H with cg:=cond (c i) H.cg (cond (vd H.an H.cg) H.cg H.an),bQ:=lX b a (lA bef e i cC H.bQ)} o.op with
     |some (v,H')=>sL e o.dst v λe=>oR bef cC c (i+1) l bs ((i,H.an,H'.an)::a) e {H' with cg:=H.cg,bQ:=H.bQ}
     |none=>.fail)
    |some w=>cond (vI e w o.op) (match cy call e {H with bQ:=lX b a (lA bef e i cC H.bQ)} o.op with
     |some (v,H')=>sL e o.dst v λe=>oR bef cC c (i+1) l bs a e {H' with bQ:=H.bQ}
     |none=>.fail) .fail)
   (sL e o.dst vk λe=>oR bef cC c (i+1) l bs a e H)
 |_,_::_,[],_,_,_=>.fail
def full(n:Nat):Nat:=2^n- 1
def sM(bs:List Nat)(i:Nat):Bool:=td ((mZ bs i).getD 0) (full i)&&(vB (i+1) bs).all λb=>atE b i
def Cd(f:cL->aE->jX):Nat->cL->aE->jX
 | 0,_,_=>.fail
 |n+1,e,H=>match f e H with
  | .ok .cx e H=>Cd f n e H
  |r=>r
def gK:mx->cL->aE->jX
 | .skip,e,H=>.ok .cx e H
 | .seq x y,e,H=>match gK x e H with
  | .ok .cx e H=>gK y e H
  |r=>r
 | .cond c x y,e,H=>match bW e c with
  | .bool J=>gK x e H
  | .bool q9=>gK y e H
  |_=>.fail
 | .block id x,e,H=>match gK x e H with
  | .ok (.ext i) e H=>cond (td i id) (.ok .cx e H) (.ok (.ext i) e H)
  |r=>r
 | .loop x,e,H=>Cd (gK x) 5000 e H
 | .exit id,e,H=>.ok (.ext id) e H
 | .ret,e,H=>.ok .ret e H
 | .reg ops,e,H=>ix call ops e H
 | .draw ops bef cC,e,H=>oR call bef cC (sM bef) 0 ops bef [] e H
 | .bad,_,_=>.fail
end
def sN:Nat->List o5->cL->cL
 |_,[],e=>e
 |i,v::l,e=>dp.iI v (i+1) e i λe=>sN (i+1) l e
def qA(e:cL)(H:aE):List (Nat×Option (Bool×Nat))->(List o5->Option (o5×aE))->Option (o5×aE)
 | [],k=>k []
 | (t,o0)::l,k=>qA e H l λr=>k (e.rd t::r)
 | (t,C (a,n))::l,k=>match e.rd t with
  | .pointer (C ⟨b,o,o0⟩)=>pE H b o n λc=>match a with
   |true=>qA e H l λr=>k (.agg ⟨c⟩::r)
   |false=>match c with|[v]=>qA e H l λr=>k (v::r)|_=>o0
  |_=>o0
def eP(a:vb->Option vz)(orc:vb->List o5->aE->Option (Option (o5×aE))):Nat->vb->List o5->aE->Option (o5×aE)
 | 0,_,_,_=>o0
 |n+1,f,b1,H=>match orc f b1 H with
  |some r=>r
  |none=>match a f with
   |none=>o0
   |some F=>cond (vd b1.length F.n) (match gK (eP a orc n) F.body (sN 0 b1 .nil) H with
    | .ok (.ext _) _ _=>o0
    | .ok _ e H=>qA e H F.res λvs=>match vs with|[v]=>C (v,H)|vs=>C (.tuple ⟨vs⟩,H)
    | .fail=>o0) o0
end
section
variable{P:tb}{h:ae}
def GV{t:ta}{z:o5}(a:fw P t=C z)[K:KK o5]:al P (awp t J (.tuple #[])) h=∀c,h c=o0->K.f (.pointer (C ⟨c,0,o0⟩)) (h.put c ⟨.cells z.cells t,J⟩):=by simp only[al,awp,aJ,kH,a,newVar,newRow,qo,aR]
def vJ{t:ta}{v:o5}[K:KK o5]:al P (axj t v) h=∀c,h c=o0->K.f (.pointer (C ⟨c,0,o0⟩)) (h.put c ⟨.cells v.cells t,J⟩):=by simp only[al,axj,aJ,newVar,newRow,qo,aR]
def tZ(o:Option o5)[K:xu o5 Prop]:Prop:=match o with|some v=>K.f v|none=>False
def Ce(v:o5)(K:o5->Prop):@tZ (C v) ⟨K⟩=K v:=rfl
def Cf(o:Option (List o5))[K:xu o5 Prop]:Prop:=match o with|some vs=>K.f (.agg vs.toArray)|none=>False
def Zp(v:List o5)(K:o5->Prop):@Cf (C v) ⟨K⟩=K (.agg v.toArray):=rfl
def GW{t:ta}(a:fS P t=C o0){A:vm}[K:KK o5]:al P (avF t (.pointer (C A))) h=@tZ (h.cell? A) ⟨λv=>K.f v h⟩:=by simp only[al,avF,avI,aJ,aR,rF,a,pB];rfl
def ua{main:Bool}{ai:Type}{S:Sys ai}{b:aS}{s:ai}{t:ta}{A:vm}{x:dL}(hb:h A.block=C x)[K:hA ai]:eX P main S b t (.pointer (C A)) s h=@al P _ (avF t (.pointer (C A))) h ⟨λv h=>K.f s h v⟩:=by simp[eX,hb]
def zO{t:ta}{m:Nat}(a:fS P t=C (C m)){A:vm}[K:KK o5]:al P (avF t (.pointer (C A))) h=@Cf (h.iS A 0 m) ⟨λv=>K.f v h⟩:=by simp only[al,avF,avI,aJ,aR,rF,a,pB];rfl
class Zq where
 f:ae->Prop
def ub(b:Bool)(A:vm)(i:Nat)(vs:List o5)(h:ae)[K:Zq]:Prop:=b=J/\nx h A i vs K.f
def xE{t:ta}{m:Nat}(a:cu P t=C m){A:vm}{v:o5}[K:KK Unit]:al P (aub t (.pointer (C A)) v) h=@ub (v.cells.size==m) A 0 v.cells.toList h ⟨K.f ()⟩:=by simp only[al,aub,avI,aJ,aR,Ou,a,ub,Option.some.injEq,beq_iff_eq]
def zP{A:vm}{i:Nat}{K:ae->Prop}:@ub J A i [] h ⟨K⟩=K h:=by simp[ub,nx]
def xF{b i:Nat}{c:Array o5}{t:ta}{v:o5}{vs:List o5}{K:ae->Prop}{a:Nat}:@ub J ⟨b,a,o0⟩ i (v::vs) (h.put b ⟨.cells c t (0,0),J⟩) ⟨K⟩=((jG v&&decide (a+i<c.size))=J/\@ub J ⟨b,a,o0⟩ (i+1) vs (h.put b ⟨.cells (c.setIfInBounds (a+i) v) t (0,0),J⟩) ⟨K⟩):=by
 have d:(⟨b,a,o0⟩:vm).add i=⟨b,a+i,o0⟩:=by unfold Addr.add;split<;>simp_all
 simp only[ub,nx,d,true_and,ae.BR,ae.owns,rv,ae.cell?,ae.frozen?,ae.setCell,Option.isSome_none,Bool.false_eq_true,if_false,vh,decide_eq_true_eq];have e:(h.put b ⟨.cells c t (0,0),J⟩).put b ⟨.cells (c.setIfInBounds (a+i) v) t (0,0),J⟩=h.put b ⟨.cells (c.setIfInBounds (a+i) v) t (0,0),J⟩:=by funext x;simp only[ae.put];split<;>rfl
 rw[e];by_cases hs:a+i<c.size
 .simp[hs]
 .simp[hs]
def oS(b:Nat)(x y:dL):(h.put b x).put b y=h.put b y:=by funext c;simp only[ae.put];split<;>rfl
def vK(b c:Nat)(x:dL):h.put b x c=if c=b then C x else h c:=rfl
def Zr{b c:Nat}{x:dL}:(h.put b x c=o0)=(((c=b)=False/\(b=c)=False)/\h c=o0):=by
 simp only[ae.put];by_cases hc:c=b
 .subst hc;simp
 .simp[hc,Ne.symm hc]
def zQ{A:vm}{i:Nat}:h.iS A i 0=C []:=rfl
def qB(o:Option o5)(l:Option (List o5)):Option (List o5):=match o,l with|some v,C vs=>C (v::vs)|_,_=>o0
def Cg(v:o5)(vs:List o5):qB (C v) (C vs)=C (v::vs):=rfl
def kU{b a i:Nat}:(⟨b,a,o0⟩:vm).add i=⟨b,a+i,o0⟩:=by unfold Addr.add;split<;>simp_all
def pG{b a i n:Nat}:h.iS ⟨b,a,o0⟩ i (n+1)=qB (h.cell? ⟨b,a+i,o0⟩) (h.iS ⟨b,a,o0⟩ (i+1) n):=by
 simp only[ae.iS,kU];cases h.cell? ⟨b,a+i,o0⟩with
 |none=>rfl
 |some v=>cases h.iS ⟨b,a,o0⟩ (i+1) n<;>rfl
def uf{t ty:ta}{d:ta}(b:P.underlying t=C (.slice d)){a:Option vm}{n c:Nat}[K:KK o5]:al P (Builtin.len_ #[t] ty #[.slice a n c]) h=K.f (.int .i64 n) h:=by simp[al,Builtin.len_,aJ,c0,b,aR,goInt]
def Oy{t ty:ta}(a:P.underlying t=C .string){x:ByteArray}[K:KK o5]:al P (Builtin.len_ #[t] ty #[.string x]) h=K.f (.int .i64 x.size) h:=by simp[al,Builtin.len_,aJ,c0,a,aR,goInt]
def Ch{t a:ta}{d:Nat}(g:P.underlying t=C (.slice a))(hs:cu P a=C d){b e n c:Nat}{k:E1}{i:Int}[K:KK o5]:al P (auX t (.slice (C ⟨b,e,o0⟩) n c) (.int k i)) h=((decide (0<=i)&&decide (i<n))=J/\K.f (.pointer (C ⟨b,e+i.toNat*d,o0⟩)) h):=by
 simp only[al,auX,asIntOf,aJ,aR,c0,g,Gz,gD,hs,kU,vh,decide_eq_true_eq];by_cases hi:0<=i/\i<n
 .simp[hi]
 .have:aH P (boundsPanic k i (↑n) BoundsCode.index:Sem o5) h K.f=False:=by
   have j:∀s,∀(Q:o5->ae->Prop),∀h,aH P (runtimePanic (.bounds (IntKind.i64.wrap i) n s .index):Sem o5) h Q=False:=by intro s Q h;simp[runtimePanic,aJ,mq,goPanic,aH]
   unfold boundsPanic;split<;>simp[aJ,xc,j,Question.forced]
  simp only[hi,if_false,this,false_and];simp
def m1{t ft:ta}{fs:Array Field}{f:Field}{m i:Nat}(a:P.underlying t=C (.struct fs))(b:fs[i]? =C f)(c:f.type=ft)(hs:cu P ft=C (m+1)){A:vm}[K:KK o5]:al P (at3 t (.pointer (C A)) i) h=K.f (.pointer (C (A.add f.offset))) h:=by
 subst c;simp[al,at3,avI,aJ,aR,c0,a,b,fieldPlace,gD,hs]
def dg{vs:Array o5}{i:Nat}[K:KK o5]:al P (avo (.tuple vs) i) h=@tZ vs[i]? ⟨λv=>K.f v h⟩:=by simp only[al,avo];cases vs[i]? <;>rfl
def Zt{t:Bool}[K:KK o5]:al P (Op.unary .not (.bool t)) h=K.f (.bool !t) h:=rfl
end
def Zu(t w:Bool):zE (.bool t) w=(t==w):=by cases t<;>cases w<;>rfl
def Zv(h:ae):h.ar h:=λ_ _ e=>e
def bu{P:tb}{fn:Func}{t n:Nat}(a:fn.results=#[.tmp t])(b:t<n){ai:Type}{Post:ai->ae->o5->Prop}{e:Env}{s:ai}{h:ae}(p:Post s h (e t)):dT P fn Post n e [] s h:=by simp only[dT,jU,results,a,aJ];simp[aR,b,Array.getD];exact p
section
@[simp] theorem jI {β:Type} (m:Nat) (k:Nat->β):jW m k=k m:=by cases m<;>rfl
@[simp] theorem Zw {β:Type} (m:Int) (k:Int->β):GN m k=k m:=by cases m<;>simp[GN]
def vL{α:Type}:∀(n:Nat) (l:List α),vB n l=l.drop n
 | 0,_=>rfl
 |_+1,[]=>rfl
 |n+1,_::l=>by simp[vB,vL n l]
def rH{α:Type}:∀(l:List α) (n:Nat),mZ l n=l[n]?
 | [],_=>by simp[mZ]
 |a::l,0=>rfl
 |a::l,n+1=>by simp[mZ,rH l n]
def xG{α β:Type}:∀(n:Nat) (l:List α) (k:List α->Option β) (r:β),vA n l k=C r->n<=l.length/\k (l.take n)=C r
 | 0,l,k,r,h=>⟨Nat.zero_le _,by simpa[vA]using h⟩
 |n+1,[],k,r,h=>by simp[vA]at h
 |n+1,a::l,k,r,h=>by obtain⟨h1,b⟩:=xG n l _ r h;exact⟨atB,by simpa using b⟩
def ib(j:Nat)(vs l:List o5):List o5:=l.take j++vs++l.drop (j+vs.length)
def xH(j:Nat)(l:List o5):ib j [] l=l:=by simp[ib]
def Oz{j:Nat}{vs l:List o5}(h:j+vs.length<=l.length):(ib j vs l).length=l.length:=by simp[ib];omega
def OA(v:o5)(vs:List o5)(a:o5)(l:List o5):ib 0 (v::vs) (a::l)=v::ib 0 vs l:=by simp[ib,Nat.add_comm]
def Ci(j:Nat)(vs:List o5)(a:o5)(l:List o5):ib (j+1) vs (a::l)=a::ib j vs l:=by simp only[ib,List.take_succ_cons,List.cons_append];rw[(U:j+1+vs.length=(j+vs.length)+1),List.drop_succ_cons]
def xI{β:Type}:∀(n:Nat) (l vs:List o5) (k:List o5->Option β) (r:β),ny n l vs k=C r->(vs=[]\/n+vs.length<=l.length)/\k (ib n vs l)=C r
 |n,l,[],k,r,h=>⟨.inl rfl,by rw[xH];unfold ny at h;exact h⟩
 | 0,[],_::_,k,r,h=>by simp[ny]at h
 | 0,a::l,v::vs,k,r,h=>by
  obtain⟨h1,b⟩:=xI 0 l vs _ r (by simpa[ny]using h);refine⟨.inr ?_,by rw[OA];exact b⟩;rcases h1 with rfl|h1
  .simp
  .simp at h1 ⊢;omega
 |n+1,[],_::_,k,r,h=>by simp[ny]at h
 |n+1,a::l,v::vs,k,r,h=>by
  obtain⟨h1,b⟩:=xI n l (v::vs) _ r (by simpa[ny]using h);refine⟨.inr ?_,by rw[Ci];exact b⟩;rcases h1 with h1|h1
  .cases h1
  .simp at h1 ⊢;omega
def OB{j:Nat}{v:o5}{vs l:List o5}(h:j<l.length):ib (j+1) vs (l.set j v)=ib j (v::vs) l:=by
 induction l generalizing j with
 |nil=>simp at h
 |cons a l b=>
  cases j with
  |zero=>rw[OA,List.set_cons_zero,Ci]
  |succ j=>rw[List.set_cons_succ,Ci,b (by simpa using h),Ci]
namespace dp
variable{α β:Type}
def set(x:α)(f:Nat)(t:dp α)(n:Nat):dp α:=iI x f t n id
def nB(x:α):∀(f:Nat) {β:Type} (t:dp α) (n:Nat) (k:dp α->β),iI x f t n k=k (set x f t n):=by
 intro f
 induction f with
 |zero=>intro β t n k;rfl
 |succ f a=>
  intro β t n k;cases t with
  |nil=>
   cases n with
   |zero=>rfl
   |succ n=>show cond _ (iI x f .nil _ _) (iI x f .nil _ _)=k (cond _ (iI x f .nil _ _) (iI x f .nil _ _));cases td (aug n 2) 0<;>simp only[cond_true,cond_false]<;>rw[a,a]<;>rfl
  |node v l r=>
   cases n with
   |zero=>rfl
   |succ n=>show cond _ (iI x f l _ _) (iI x f r _ _)=k (cond _ (iI x f l _ _) (iI x f r _ _));cases td (aug n 2) 0<;>simp only[cond_true,cond_false]<;>rw[a,a]<;>rfl
def Zx(x:α)(f:Nat):set x (f+1) .nil 0=.node (C x) .nil .nil:=rfl
def Zy(x:α)(f n:Nat):set x (f+1) .nil (n+1)=cond (td (aug n 2) 0) (.node o0 (set x f .nil (at0 n 2)) .nil) (.node o0 .nil (set x f .nil (at0 n 2))):=by simp only[set,iI];cases td (aug n 2) 0<;>simp only[cond_true,cond_false]<;>rw[nB]<;>rfl
def ZA(x:α)(f:Nat)(v:Option α)(l r:dp α):set x (f+1) (.node v l r) 0=.node (C x) l r:=rfl
def ZB(x:α)(f n:Nat)(v:Option α)(l r:dp α):set x (f+1) (.node v l r) (n+1)=cond (td (aug n 2) 0) (.node v (set x f l (at0 n 2)) r) (.node v l (set x f r (at0 n 2))):=by simp only[set,iI];cases td (aug n 2) 0<;>simp only[cond_true,cond_false]<;>rw[nB]<;>rfl
def get_nil(n:Nat):(dp.nil:dp α).get n=o0:=rfl
def GX(v:Option α)(l r:dp α):(dp.node v l r).get 0=v:=rfl
def zR(v:Option α)(l r:dp α)(n:Nat):(dp.node v l r).get (n+1)=cond (td (aug n 2) 0) (l.get (at0 n 2)) (r.get (at0 n 2)):=rfl
def beq_iff(a b:Nat):(td a b=J)↔a=b:=⟨Nat.eq_of_beq_eq_true,λh=>by subst h;simp⟩
def sO(x:α):∀(f:Nat) (t:dp α) (n:Nat),n<f->∀m,(set x f t n).get m=if m=n then C x else t.get m:=by
 intro f
 induction f with
 |zero=>intro t n c;omega
 |succ f p=>
  intro t n c m;have key:∀(v:Option α) (l r:dp α) (n:Nat),n+1<f+1->(cond (td (aug n 2) 0) (dp.node v (set x f l (at0 n 2)) r) (.node v l (set x f r (at0 n 2)))).get m=if m=n+1 then C x else(dp.node v l r).get m:=by
   intro v l r n c;have hd:at0 n 2<f:=by have:at0 n 2=n/2:=rfl;omega
   cases m with
   |zero=>cases td (aug n 2) 0<;>simp[GX]
   |succ m=>
    have i:aug m 2=m%2:=rfl;have j:aug n 2=n%2:=rfl;have k:at0 m 2=m/2:=rfl;have o:at0 n 2=n/2:=rfl;cases b:td (aug n 2) 0<;>cases a:td (aug m 2) 0<;>simp only[cond_true,cond_false,zR,a,p _ _ hd]
    .have h1:¬n%2=0:=λh=>by rw[j,h]at b;cases b
     have g:¬m%2=0:=λh=>by rw[i,h]at a;cases a
     rw[k,o];by_cases e:m=n
     .subst e;simp
     .rw[if_neg U,if_neg U]
    .have h1:¬n%2=0:=λh=>by rw[j,h]at b;cases b
     have g:m%2=0:=(beq_iff _ _).1 a;rw[if_neg U]
    .have h1:n%2=0:=(beq_iff _ _).1 b;have g:¬m%2=0:=λh=>by rw[i,h]at a;cases a
     rw[if_neg U]
    .have h1:n%2=0:=(beq_iff _ _).1 b;have g:m%2=0:=(beq_iff _ _).1 a;rw[k,o];by_cases e:m=n
     .subst e;simp
     .rw[if_neg U,if_neg U]
  cases t with
  |nil=>
   cases n with
   |zero=>
    rw[Zx];cases m with
    |zero=>simp[GX]
    |succ m=>rw[zR];simp[get_nil]
   |succ n=>
    rw[Zy,key o0 .nil .nil n c];by_cases d:m=n+1
    .rw[if_pos d,if_pos d]
    .rw[if_neg d,if_neg d];cases m with
     |zero=>rfl
     |succ m=>rw[zR];simp[get_nil]
  |node v l r=>
   cases n with
   |zero=>
    rw[ZA];cases m with
    |zero=>simp[GX]
    |succ m=>simp[zR]
   |succ n=>rw[ZB,key v l r n c]
end dp
namespace aE
def set(H:aE)(b:Nat)(x:cj):aE:= {H with t:=dp.set x (b+1) H.t b}
def new(H:aE)(x:cj):aE:= {H with t:=dp.set x (H.an+1) H.t H.an,an:=H.an+1}
def nB{β:Type}(H:aE)(b:Nat)(x:cj)(k:aE->β):H.iI b x k=k (H.set b x):=by rw[aE.iI,dp.nB];rfl
def qD{β:Type}(H:aE)(x:cj)(k:Nat->aE->β):H.pC x k=k H.an (H.new x):=by rw[aE.pC,jI,dp.nB];rfl
def vM(H:aE)(b c:Nat)(x:cj):(H.set b x).t.get c=if c=b then C x else H.t.get c:=dp.sO x _ _ _ (awR _) _
def ug(H:aE)(c:Nat)(x:cj):(H.new x).t.get c=if c=H.an then C x else H.t.get c:=dp.sO x _ _ _ (awR _) _
def get_eq(H:aE)(c:Nat):H.get c=if c9 H.bQ c=J then o0 else H.t.get c:=by unfold aE.get;cases c9 H.bQ c<;>rfl
def get_some{H:aE}{c:Nat}{x:cj}(h:H.get c=C x):c9 H.bQ c=q9/\H.t.get c=C x:=by
 rw[get_eq]at h;split at h
 .cases h
 .rename_i a;exact⟨by simpa using a,h⟩
def sO{H:aE}{b:Nat}{y:cj}(hb:H.get b=C y)(c:Nat)(x:cj):(H.set b x).get c=if c=b then C x else H.get c:=by
 rw[get_eq,get_eq,vM];show(if c9 H.bQ c=J then o0 else _)=_;by_cases hc:c=b
 .subst hc;rw[(get_some hb).1];simp
 .simp[hc]
def vN{H:aE}(c:Nat)(x:cj):(H.new x).get c=if c=H.an then(if c9 H.bQ c=J then o0 else C x)else H.get c:=by
 rw[get_eq,get_eq,ug];show(if c9 H.bQ c=J then o0 else _)=_;by_cases hc:c=H.an
 .subst hc;simp
 .simp[hc]
end aE
abbrev aX:=Nat->Option (Nat×Nat)
def aX.ar(ρ bq:aX):Prop:=∀c x,ρ c=C x->bq c=C x
def aX.ar.refl(ρ:aX):ρ.ar ρ:=λ_ _ h=>h
def aX.ar.trans{a b c:aX}(h:a.ar b)(k:b.ar c):a.ar c:=λx y e=>k x y (h x y e)
def jr(k c:Nat):Nat:=bif lx c then k- (df- c)else c
mutual
inductive bj(ρ:aX):o5->o5->Prop
 |bool (b:Bool):bj ρ (.bool b) (.bool b)
 |int (k:E1) (n:Int):bj ρ (.int k n) (.int k n)
 |string (s:ByteArray):bj ρ (.string s) (.string s)
 |GY:bj ρ (.pointer o0) (.pointer o0)
 |ptr {c b k:Nat} (o:Nat) (e:ρ c=C (b,k)):bj ρ (.pointer (C ⟨c,o,o0⟩)) (.pointer (C ⟨b,o,o0⟩))
 |uh (n c:Nat):bj ρ (.slice o0 n c) (.slice o0 n c)
 |sl {c b k:Nat} (o n m:Nat) (e:ρ c=C (b,k)):bj ρ (.slice (C ⟨c,o,o0⟩) n m) (.slice (C ⟨b,o,o0⟩) n (jr k m))
 |GZ:bj ρ (.map o0) (.map o0)
 |map {c b k:Nat} (e:ρ c=C (b,k)):bj ρ (.map (C c)) (.map (C b))
 |func (f:vb) {x x' y cY:List o5} (h:cT ρ x x') (k:cT ρ y cY):bj ρ (.func (.func f) ⟨x⟩ ⟨y⟩) (.func (.func f) ⟨x'⟩ ⟨cY⟩)
 |nilFunc:bj ρ .nilFunc .nilFunc
 |iface (t:ta) {v bF:o5} (h:bj ρ v bF):bj ρ (.iface t v) (.iface t bF)
 |nilIface:bj ρ .nilIface .nilIface
 |agg {x x':List o5} (h:cT ρ x x'):bj ρ (.agg ⟨x⟩) (.agg ⟨x'⟩)
 |tuple {x x':List o5} (h:cT ρ x x'):bj ρ (.tuple ⟨x⟩) (.tuple ⟨x'⟩)
inductive cT(ρ:aX):List o5->List o5->Prop
 |nil:cT ρ [] []
 |cons {v bF:o5} {l dw:List o5} (h:bj ρ v bF) (k:cT ρ l dw):cT ρ (v::l) (bF::dw)
end
section
variable{ρ bq:aX}
def bj.mono(le:ρ.ar bq){v bF:o5}(h:bj ρ v bF):bj bq v bF:=bj.rec (motive_1:=λv bF _=>bj bq v bF) (motive_2:=λl d _=>cT bq l d) (λb=>.bool b) (λk n=>.int k n) (λs=>.string s) .GY (λo e=>.ptr o (le _ _ e)) (λn c=>.uh n c) (λo n m e=>.sl o n m (le _ _ e)) .GZ (λe=>.map (le _ _ e))
  (λf {_ _ _ _} _ _ a b=>.func f a b) .nilFunc (λt {_ _} _ a=>.iface t a) .nilIface (λ{_ _} _ a=>.agg a) (λ{_ _} _ a=>.tuple a) .nil (λ{_ _ _ _} _ _ a b=>.cons a b) h
def cT.mono(le:ρ.ar bq){l dw:List o5}(h:cT ρ l dw):cT bq l dw:=by
 induction l generalizing dw with
 |nil=>cases h;exact .nil
 |cons v l c=>cases h with|cons a b=>exact .cons (a.mono le) (c b)
def cT.length{l c:List o5}(h:cT ρ l c):c.length=l.length:=by
 induction l generalizing c with
 |nil=>cases h;rfl
 |cons v l d=>cases h with|cons a b=>simp[d b]
def cT.append{a c b bG:List o5}(h:cT ρ a c)(k:cT ρ b bG):cT ρ (a++b) (c++bG):=by
 induction a generalizing c with
 |nil=>cases h;exact k
 |cons v l d=>cases h with|cons x y=>exact .cons x (d y)
def cT.take{l a:List o5}(h:cT ρ l a)(n:Nat):cT ρ (l.take n) (a.take n):=by
 induction l generalizing a n with
 |nil=>cases h;simpa using cT.nil
 |cons v l b=>cases h with|cons x y=>cases n with|zero=>exact .nil|succ n=>exact .cons x (b y n)
def cT.drop{l a:List o5}(h:cT ρ l a)(n:Nat):cT ρ (l.drop n) (a.drop n):=by
 induction l generalizing a n with
 |nil=>cases h;simpa using cT.nil
 |cons v l b=>cases h with|cons x y=>cases n with|zero=>exact .cons x y|succ n=>exact b y n
def cT.ib{l b vs a:List o5}(h:cT ρ l b)(k:cT ρ vs a)(j:Nat):cT ρ (ib j vs l) (ib j a b):=by unfold Nk.ib;rw[<- k.length];exact((h.take j).append k).append (h.drop _)
def cT.get{l b:List o5}(h:cT ρ l b){n:Nat}{v:o5}(e:l[n]? =C v):∃bF,b[n]? =C bF/\bj ρ v bF:=by
 induction l generalizing b n with
 |nil=>simp at e
 |cons a l c=>
  cases h with
  |cons x y=>
   cases n with
   |zero=>simp at e;subst e;exact⟨_,rfl,x⟩
   |succ n=>exact c y (by simpa using e)
def cT.one{v a:o5}(h:bj ρ v a):cT ρ [v] [a]:=.cons h .nil
def bj.cells{v a:o5}(h:bj ρ v a):cT ρ (eD v) a.cells.toList:=by
 cases h<;>simp only[eD,Value.cells]<;>first
  |assumption
  |exact .one (by constructor<;>assumption)
  |exact .one (by constructor)
def bj.one{v a:o5}(h:bj ρ v a):jG a=jG v:=by cases h<;>rfl
def cT.OC{l a:List o5}(h:cT ρ l a):pD a=pD l:=by
 induction l generalizing a with
 |nil=>cases h;rfl
 |cons v l b=>cases h with|cons x y=>simp[pD,x.one,b y]
def bj.undef:bj ρ vk vk:=.tuple .nil
end
def cj.live:cj->Bool
 | .dead=>q9
 |_=>J
def lY(ρ:aX):List (o5×o5×Nat)->List MapEntry->Prop
 | [],[]=>True
 | (k,v,n)::l,e::m=>bj ρ k e.key/\bj ρ v e.val/\e.born=n/\lY ρ l m
 |_,_=>False
def lY.mono{ρ bq:aX}(le:ρ.ar bq):∀{l:List (o5×o5×Nat)} {m:List MapEntry},lY ρ l m->lY bq l m
 | [],[],_=>trivial
 | (k,v,n)::l,e::m,⟨a,b,c,d⟩=>⟨a.mono le,b.mono le,c,lY.mono le d⟩
 | [],_::_,h=>h.elim
 |_::_,[],h=>h.elim
def Bk(P:tb)(ρ:aX)(k:Nat)(x:cj)(o:Option dL):Prop:=match x with
 | .dead=>True
 | .cs own lo t c=>∃arr fu bJ rest,o=C ⟨.cells arr t (0,0),fu⟩/\(own=J->fu=J)/\arr.toList=bJ++rest/\cT ρ c bJ/\(lo=q9->rest=[])/\(lo=J->∃b,cu P t=C b/\arr.size=k*b)
 | .mp own es d=>∃a fu,o=C ⟨.map a d,fu⟩/\(own=J->fu=J)/\lY ρ es a.toList
def Bk.mono{P:tb}{ρ bq:aX}(le:ρ.ar bq){k:Nat}{x:cj}{o:Option dL}(h:Bk P ρ k x o):Bk P bq k x o:=by
 cases x with
 |dead=>trivial
 |cs own lo t c=>obtain⟨arr,fu,bJ,rest,h1,a,b,e,f⟩:=h;exact⟨arr,fu,bJ,rest,h1,a,b,e.mono le,f⟩
 |mp own es g=>obtain⟨d,fu,h1,a,b⟩:=h;exact⟨d,fu,h1,a,b.mono le⟩
def Bk.isSome{P:tb}{ρ:aX}{k:Nat}{x:cj}{o:Option dL}(h:Bk P ρ k x o)(a:x.live=J):∃y,o=C y:=by
 cases x with
 |dead=>cases a
 |cs own lo t c=>obtain⟨arr,fu,bJ,rest,h1,_⟩:=h;exact⟨_,h1⟩
 |mp own es d=>obtain⟨b,fu,h1,_⟩:=h;exact⟨_,h1⟩
structure cD(P:tb)(aQ:Nat)(ρ:aX)(G:Nat->Option cj)(an:Nat)(h:ae):Prop where
 blk:∀c x,G c=C x->∃b k,ρ c=C (b,k)/\Bk P ρ k x (h b)
 inj:∀c d x y b k k',G c=C x->G d=C y->x.live=J->y.live=J->ρ c=C (b,k)->ρ d=C (b,k')->c=d
 dX:∀c,an<=c->ρ c=o0
 rI:∀g,g<aQ->ρ g=C (g,0)
def gL(H:aE)(c:Nat):Prop:=H.cg<=c/\∃x,H.get c=C x/\x.live=J
structure gq(H:aE)(ρ:aX)(h:ae)(H':aE)(bq:aX)(h':ae):Prop where
 le:ρ.ar bq
 old:∀c,c<H.an->bq c=ρ c
 an:H.an<=H'.an
 cg:H'.cg=H.cg
 bQ:H'.bQ=H.bQ
 can:∀c,c<H.an->¬gL H c->H'.t.get c=H.t.get c
 lZ:∀b x,h b=C x->(∀c k,gL H c->ρ c≠C (b,k))->h' b=C x
 lB:∀c x b k,H'.get c=C x->H.an<=c->x.live=J->bq c=C (b,k)->h b=o0\/∃dy k0,gL H dy/\ρ dy=C (b,k0)
def gq.refl{P:tb}{aQ:Nat}{H:aE}{ρ:aX}{h:ae}(S:cD P aQ ρ H.get H.an h):gq H ρ h H ρ h:=⟨.refl ρ,λ_ _=>rfl,Nat.le_refl _,rfl,rfl,λ_ _ _=>rfl,λ_ _ e _=>e,λc x b k f d g a=>by rw[S.dX c d]at a;cases a⟩
def gL.back{H H':aE}{ρ bq:aX}{h h':ae}(F:gq H ρ h H' bq h'){c:Nat}(hc:c<H.an)(d:gL H' c):gL H c:=by refine Classical.byContradiction λb=>b ?_;obtain⟨h1,x,a,f⟩:=d;have e:=F.can c hc b;refine⟨by rw[<- F.cg];exact h1,x,?_,f⟩;rw[aE.get_eq]at a ⊢;rw[F.bQ,e]at a;exact a
def gq.trans{P:tb}{aQ:Nat}{H H' q:aE}{ρ bq r:aX}{h h' s:ae}(S:cD P aQ ρ H.get H.an h)(t:cD P aQ bq H'.get H'.an h')(F:gq H ρ h H' bq h')(K:gq H' bq h' q r s):gq H ρ h q r s:=by
 have u:∀a b k0,gL H' a->bq a=C (b,k0)->h b=o0\/∃c1 p,gL H c1/\ρ c1=C (b,p):=λa b k0 d f=>by
  rcases vy a H.an with hc|hc
  .have v:=gL.back F hc d;obtain⟨_,x,i,j⟩:=v;obtain⟨bG,k',g,_⟩:=S.blk a x i;have:=F.le _ _ g;rw[f]at this;cases this;exact .inr ⟨a,k0,gL.back F hc d,g⟩
  .obtain⟨_,x,i,j⟩:=d;exact F.lB a x b k0 i hc j f
 refine⟨F.le.trans K.le,λc hc=>(K.old c (auj hc F.an)).trans (F.old c hc),Nat.le_trans F.an K.an,K.cg.trans F.cg,K.bQ.trans F.bQ,λc hc l=> ?_,λb x hb m=> ?_,λc x b k o l j f=> ?_⟩
 .rw[K.can c (auj hc F.an) (λd=>l (gL.back F hc d)),F.can c hc l]
 .refine K.lZ b x (F.lZ b x hb m) λc k d f=> ?_;rcases u c b k d f with h0|⟨c1,p,w,z⟩
  .rw[hb]at h0;cases h0
  .exact m c1 p w z
 .have out:∀b,h' b=o0->h b=o0\/∃a k0,gL H a/\ρ a=C (b,k0):=λb hb=>by
   refine Classical.byContradiction λm=> ?_;cases i:h b with
   |none=>exact m (.inl i)
   |some y=>have:=F.lZ b y i λa k0 d f=>m (.inr ⟨a,k0,d,f⟩);rw[hb]at this;cases this
  rcases vy c H'.an with hc|hc
  .by_cases d:gL H' c
   .obtain⟨_,y,n,A⟩:=d;obtain⟨bG,k',g,_⟩:=t.blk c y n;have:=K.le _ _ g;rw[f]at this;cases this;exact F.lB c y b k n l A g
   .have e:=K.can c hc d;have n:H'.get c=C x:=by rw[aE.get_eq]at o ⊢;rw[K.bQ,e]at o;exact o
    obtain⟨bG,k',g,_⟩:=t.blk c x n;have:=K.le _ _ g;rw[f]at this;cases this;exact F.lB c x b k n l j g
  .rcases K.lB c x b k o hc j f with h0|⟨a,k0,d,B⟩
   .exact out b h0
   .exact u a b k0 d B
end
def zT:o5->Bool
 | .bool _=>J
 | .int _ _=>J
 | .string _=>J
 | .pointer o0=>J
 | .slice o0 _ _=>J
 | .map o0=>J
 | .func (.func _) ⟨[]⟩ ⟨[]⟩=>J
 | .nilFunc=>J
 | .nilIface=>J
 |_=>q9
def lC:List o5->Bool
 | []=>J
 |v::l=>zT v&&lC l
def zU:o5->Bool
 | .agg ⟨l⟩=>lC l
 |v=>zT v
def Cj{ρ:aX}{v:o5}(h:zT v=J):bj ρ v v:=by
 unfold zT at h;split at h<;>first|cases h|skip
 all_goals first
  |exact .bool _|exact .int _ _|exact .string _|exact .GY|exact .uh _ _|exact .GZ|exact .func _ .nil .nil|exact .nilFunc|exact .nilIface
def vO{ρ:aX}:∀{l:List o5},lC l=J->cT ρ l l
 | [],_=>.nil
 |v::l,h=>by simp only[lC,vh]at h;exact .cons (Cj h.1) (vO h.2)
def OD{ρ:aX}{v:o5}(h:zU v=J):bj ρ v v:=by
 unfold zU at h;split at h
 .exact .agg (vO h)
 .exact Cj h
def sP(v:o5):eD v=v.cells.toList:=by
 unfold eD;split
 .rfl
 .rename_i h;cases v<;>first|rfl|skip
  rename_i c;exact absurd rfl (h c.toList)
def G8(P:tb)(t:ta)(i:Nat):Option (Nat×Nat):=match P.underlying t with
 |some (.struct a)=>match a[i]? with
  |some f=>match cu P f.type with|some n=>C (f.offset,n)|none=>o0
  |none=>o0
 |some (.array _ e)=>match cu P e with|some n=>C (i*n,n)|none=>o0
 |_=>o0
def sQ(P:tb)(t:ta):List (Nat×su)->Option (List (Nat×Nat×su))
 | []=>C []
 | (i,x)::l=>match G8 P t i,sQ P t l with
  |some (o,n+1),C r=>C ((o,n+1,x)::r)
  |_,_=>o0
def Ck(P:tb)(t:ta):Bool:=match P.underlying t with
 |some (.struct a)=>a.toList.all λf=>(cu P f.type).isSome
 |some (.array _ e)=>(cu P e).isSome
 |_=>q9
def zV(n:Nat):List (Nat×su)->List (Nat×Nat×su)
 | []=>[]
 | (i,x)::l=>(i*n,n,x)::zV n l
def zW(f:ta->Option Nat):List Field->Nat->Option Nat
 | [],o=>C o
 |x::l,o=>match f x.type with
  |some n=>cond (td x.offset o&&x.name != "_") (zW f l (o+n)) o0
  |none=>o0
def qE(P:tb):Nat->ta->Option Nat
 | 0,_=>o0
 |d+1,t=>match P.underlying t with
  |some (.int _)=>C 1
  |some (.struct fs)=>match cu P t with
   |some m=>cond (P.stoodInHeld t) o0 (match zW (qE P d) fs.toList 0 with|some n=>cond (td n m) (C n) o0|none=>o0)
   |none=>o0
  |some (.array k a)=>match qE P d a,cu P a,cu P t with
   |some n,C n',C m=>cond (td n n'&&td (k*n) m) (C (k*n)) o0
   |_,_,_=>o0
  |_=>o0
def ui:TypeDesc->Bool
 | .struct _=>J
 | .array _ _=>J
 |_=>q9
def Cl(P:tb)(t:ta):Option Nat:=cond (P.eqGuardType P.depth t) o0 (cond (ui ((P.underlying t).getD .invalid)) (qE P 6 t) o0)
def OE(P:tb)(t:ta):Option BT:=match P.underlying t with
 |some (.int _)=>C .int
 |some .bool=>C .bool
 |some .string=>C .string
 |some (.slice _)=>C .slice
 |some (.struct _)=>match Cl P t with|some n=>C (.flat n)|none=>o0
 |some (.array _ _)=>match Cl P t with|some n=>C (.flat n)|none=>o0
 |_=>o0
def oT(P:tb)(t:ta):Option Bool:=match P.underlying t with
 |some (.int _)=>C q9
 |some .string=>C J
 |_=>o0
def l1(P:tb)(t:ta):Option Nat:=(P.info? t).map (·.bytes)
def qF(P:tb)(o:sa):dh:=match o.op with
 | .move x=>.mv x
 | .assign x=>.mv x
 | .pick c x y=>.pick c x y
 | .alloc t=>match fw P t with
  |some z=>cond (lC (eD z)) (cond (zF t) .bad (.alloc t (eD z))) .bad
  |none=>.bad
 | .box t x=>match cu P t with|some n=>.box t n x|none=>.bad
 | .build t bc=>match fw P t,sQ P t bc.toList with
  |some z,C l=>cond (lC (eD z)&&Ck P t) (.build (eD z) l) .bad
  |_,_=>.bad
 | .buildSlice t n bc=>match P.underlying t with
  |some (.slice e)=>match fw P e,cu P e with
   |some z,C m=>cond (lC (eD z)&&td (eD z).length m&&vd 1 m&&vd (n*m) 10000) (.buildSlice e m n (eD z) (zV m bc.toList)) .bad
   |_,_=>.bad
  |_=>.bad
 | .load t x=>match fS P t with
  |some o0=>.BU x
  |some (C n)=>.BV n x
  |none=>.bad
 | .store t x y=>match cu P t with|some n=>.st n x y|none=>.bad
 | .nilCheck x=>.BW x
 | .binOp op t x y _=>match OE P t with|some k=>.bin op k x y|none=>.bad
 | .unOp op _ x=>.un op x
 | .convert s t x=>match P.underlying s,P.underlying t with
  |some (.int _),C (.int k)=>.conv k x
  |_,_=>.bad
 | .makeInterface t x=>match P.underlying t with
  |some (.interface _)=>.bad
  |some _=>.BX t x
  |none=>.bad
 | .makeFunc (.func f) xs kG=>.GO f xs.toList kG.toList
 | .makeMap _ o0=>.mkMap
 | .makeSlice t x y=>match P.underlying t with
  |some (.slice e)=>match fw P e,cu P e,l1 P e with
   |some z,C m,C a=>cond (lC (eD z)&&td (eD z).length m&&vd 1 m) (.mkSlice e m a (eD z) x y) .bad
   |_,_,_=>.bad
  |_=>.bad
 | .slice t x lo hi aZ=>match P.underlying t with
  |some .string=>match aZ with|none=>.rG x lo hi|some _=>.bad
  |some (.slice e)=>match cu P e with|some n=>cond ((hi.isSome||aZ.isNone)&&vd 1 n) (.sl e n x lo hi aZ) .bad|none=>.bad
  |some (.array n e)=>match cu P e with|some m=>cond ((hi.isSome||aZ.isNone)&&vd n 1000000) (.BY n m x lo hi aZ) .bad|none=>.bad
  |_=>.bad
 | .fieldAddr t x i=>match P.underlying t with
  |some (.struct d)=>match d[i]? with
   |some f=>match cu P f.type with|some (_+1)=>.BZ f.offset x|_=>.bad
   |none=>.bad
  |_=>.bad
 | .indexAddr t x y=>match P.underlying t with
  |some (.slice e)=>match cu P e with|some n=>.idx n x y|none=>.bad
  |some (.array n e)=>match cu P e with|some m=>.B7 n m x y|none=>.bad
  |_=>.bad
 | .index t x y=>match P.underlying t with
  |some .string=>.B8 x y
  |some (.array n e)=>match fS P e with
   |some o0=>match cu P e with|some m=>.zK n m q9 x y|none=>.bad
   |some (C m)=>.zK n m J x y
   |none=>.bad
  |_=>.bad
 | .lookup t x y k=>match P.underlying t with
  |some (.map b e)=>match oT P b,fw P e with
   |some s,C z=>cond (zU z) (.lookup s z k x y) .bad
   |_,_=>.bad
  |_=>.bad
 | .mapUpdate t m k v=>match P.underlying t with
  |some (.map b _)=>match oT P b with|some s=>.B9 s m k v|none=>.bad
  |_=>.bad
 | .extract x i=>.ext x i
 | .call ⟨.value (.func f),b1,_⟩=>.call f b1.toList
 | .call ⟨.value x,b1,_⟩=>.GP x b1.toList
 | .call ⟨.builtin .len,⟨[x]⟩,⟨[t]⟩⟩=>match P.underlying t with
  |some .string=>.Cb x
  |some (.slice _)=>.Ca x
  |some (.array n _)=>.GQ n
  |_=>.bad
 | .call ⟨.builtin .max,⟨[x,y]⟩,_⟩=>.max2 x y
 | .call ⟨.builtin .append,⟨[x,y]⟩,⟨[t,cU]⟩⟩=>match P.underlying t,P.underlying cU with
  |some (.slice e),C (.slice _)=>match cu P e,l1 P e,fw P e with
   |some m,C a,C z=>cond (vd 1 m&&td (eD z).length m&&vd 1 a) (.app e m a x y) .bad
   |_,_,_=>.bad
  |_,_=>.bad
 | .call ⟨.builtin .copy,⟨[x,y]⟩,⟨t::_⟩⟩=>match P.underlying t with
  |some (.slice e)=>match cu P e with|some m=>.copy m x y|none=>.bad
  |_=>.bad
 | .call ⟨.builtin .clear,⟨[x]⟩,⟨[t]⟩⟩=>match P.underlying t with
  |some (.slice e)=>match fw P e with
   |some z=>cond (lC (eD z)&&vd 1 (eD z).length) (.clear (eD z) x) .bad
   |none=>.bad
  |_=>.bad
 |_=>.bad
def eY(P:tb)(ops:Array sa)(o:sa):mY:=match o.guard with
 |none=>⟨o.dst,o0,qF P o⟩
 |some (j,w)=>match(ops[j]?).bind (·.dst)with
  |some t=>⟨o.dst,C (t,w),qF P o⟩
  |none=>⟨o.dst,o0,.bad⟩
def uj(a:List Nat):List Edge->Nat->Nat
 | [],s=>s
 |e::l,s=>cond (Region.binds .any e) (uj a l (s ||| (2^e.on ||| (mZ a e.on).getD 0))) (uj a l s)
def kJ:List sa->List Nat->List Nat
 | [],a=>a
 |o::l,a=>kJ l (a++[uj a o.after.toList 0])
def comp(P:tb)(cC:Nat->List (Nat×Nat)):Code->mx
 | .skip=>.skip
 | .label _=>.skip
 | .seq x y=>.seq (comp P cC x) (comp P cC y)
 | .cond c x y=>.cond c (comp P cC x) (comp P cC y)
 | .block id c=>.block id (comp P cC c)
 | .loop c=>.loop (comp P cC c)
 | .exit id=>.exit id
 | .ret=>.ret
 | .scope c=>comp P cC c
 | .region id ops a=>cond a (.draw (ops.toList.map (eY P ops)) (kJ ops.toList []) (cC id)) (.reg (ops.toList.map (eY P ops)))
 |_=>.bad
def ZC(P:tb):ResultVar->Option (Nat×Option (Bool×Nat))
 | .tmp t=>C (t,o0)
 | .cell a t=>match fS P t with
  |some o0=>C (a,C (q9,1))
  |some (C n)=>C (a,C (J,n))
  |none=>o0
def dh.di:dh->List su
 | .mv x=>[x]
 | .pick c x y=>[c,x,y]
 | .alloc _ _=>[]
 | .box _ _ x=>[x]
 | .build _ bc=>bc.map (·.2.2)
 | .buildSlice _ _ _ _ bc=>bc.map (·.2.2)
 | .BU x=>[x]
 | .BV _ x=>[x]
 | .st _ x y=>[x,y]
 | .BW x=>[x]
 | .bin _ _ x y=>[x,y]
 | .un _ x=>[x]
 | .conv _ x=>[x]
 | .BX _ x=>[x]
 | .GO _ xs kG=>xs++kG
 | .mkMap=>[]
 | .mkSlice _ _ _ _ x y=>[x,y]
 | .rG x lo hi=>x::(lo.toList++hi.toList)
 | .sl _ _ x lo hi aZ=>x::(lo.toList++(hi.toList++aZ.toList))
 | .BY _ _ x lo hi aZ=>x::(lo.toList++(hi.toList++aZ.toList))
 | .BZ _ x=>[x]
 | .idx _ x y=>[x,y]
 | .B7 _ _ x y=>[x,y]
 | .zK _ _ _ x y=>[x,y]
 | .B8 x y=>[x,y]
 | .lookup _ _ _ x y=>[x,y]
 | .B9 _ m k v=>[m,k,v]
 | .ext x _=>[x]
 | .call _ b1=>b1
 | .GP x b1=>x::b1
 | .Ca x=>[x]
 | .Cb x=>[x]
 | .GQ _=>[]
 | .max2 x y=>[x,y]
 | .app _ _ _ x y=>[x,y]
 | .copy _ x y=>[x,y]
 | .clear _ x=>[x]
 | .bad=>[]
def uk(aQ:Nat):su->Bool
 | .tmp _=>J
 | .const v=>zT v
 | .global g=>Kf g aQ
 | .func _=>J
def mx.iy(aQ:Nat):mx->Bool
 | .seq x y=>x.iy aQ&&y.iy aQ
 | .cond c x y=>uk aQ c&&(x.iy aQ&&y.iy aQ)
 | .block _ x=>x.iy aQ
 | .loop x=>x.iy aQ
 | .reg ops=>ops.all λo=>o.op.di.all (uk aQ)
 | .draw ops _ _=>ops.all λo=>o.op.di.all (uk aQ)
 |_=>J
def l5:Nat->List sa->Bool
 |_,[]=>J
 |i,o::l=>(o.after.toList.all λx=> !Region.binds .any x||Kf x.on i)&&l5 (i+1) l
def xJ:List su->List Nat
 | []=>[]
 | .tmp t::l=>t::xJ l
 |_::l=>xJ l
def mY.reads(o:mY):List Nat:=(match o.g with|some (t,_)=>[t]|none=>[])++xJ o.op.di
def zX{α:Type}(f:Nat->α->Bool):Nat->List α->Bool
 |_,[]=>J
 |i,a::l=>f i a&&zX f (i+1) l
def gE(bef:List Nat)(i:Nat):Nat:=(mZ bef i).getD 0
def OF(xs:List mY)(bef:List Nat)(cC:List (Nat×Nat)):Bool:=zX (λi a=>Kf (gE bef i) (2^i)&&zX (λk b=>td i k||(match b.dst with
  |none=>J
  |some t=> !(a.dst==C t)&&((atE (gE bef i) k||atE (gE bef k) i)|| !(a.reads.contains t)))) 0 xs
  && (match a.dst with|none=>J|some t=> !(a.reads.contains t)&&cC.all λp=> !(td p.2 t))) 0 xs
def iJ(P:tb)(cC:Nat->List (Nat×Nat)):Code->Bool
 | .seq x y=>iJ P cC x&&iJ P cC y
 | .cond _ x y=>iJ P cC x&&iJ P cC y
 | .block _ x=>iJ P cC x
 | .loop x=>iJ P cC x
 | .scope x=>iJ P cC x
 | .region id ops a=>cond a (l5 0 ops.toList&&OF (ops.toList.map (eY P ops)) (kJ ops.toList []) (cC id)) J
 |_=>J
end
end Go.Nk
