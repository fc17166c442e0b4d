/- Part Pad of the proof of ButtBack: lemmas. -/
import Derived.Test.YthgephlghkjiaaaGreatDoorPac
set_option maxRecDepth 100000
set_option maxHeartbeats 4000000
set_option linter.all false
namespace Go.Nk
noncomputable section
open Go Go.Conc Go.Proofs
section
inductive dA(α:Type) where
 | nil
 | node (v:Option α) (l r:dA α)
namespace dA
variable{α β:Type}
def get:dA α->Nat->Option α
 | .nil,_=>none
 | .node v l r,n=>match n with
  | 0=>v
  | n+1=>cond (Nat.beq (Nat.mod n 2) 0) (l.get (Nat.div n 2)) (r.get (Nat.div n 2))
def im(x:α):Nat->dA α->Nat->(dA α->β)->β
 | 0,t,_,k=>k t
 | f+1,.nil,n,k=>match n with
  | 0=>k (.node (some x) .nil .nil)
  | n+1=>cond (Nat.beq (Nat.mod n 2) 0) (im x f .nil (Nat.div n 2) fun l=>k (.node none l .nil)) (im x f .nil (Nat.div n 2) fun r=>k (.node none .nil r))
 | f+1,.node v l r,n,k=>match n with
  | 0=>k (.node (some x) l r)
  | n+1=>cond (Nat.beq (Nat.mod n 2) 0) (im x f l (Nat.div n 2) fun l=>k (.node v l r)) (im x f r (Nat.div n 2) fun r=>k (.node v l r))
end dA
def jS{β:Type}(m:Nat)(k:Nat->β):β:=match m with|0=>k 0|m+1=>k (m+1)
def O6{β:Type}(m:Int)(k:Int->β):β:=match m with|.ofNat m=>jS m fun m=>k (.ofNat m)|.negSucc m=>jS m fun m=>k (.negSucc m)
inductive cn where
 | cs (own loose:Bool) (t:TypeId) (c:List Value)
 | mp (own:Bool) (es:List (Value×Value×Nat)) (clock:Nat)
 | dead
structure aL where
 t:dA cn
 ar:Nat
 cg:Nat
 bZ:List (Nat×Nat)
def dg:List (Nat×Nat)->Nat->Bool
 | [],_=>false
 | (a,b)::l,n=>cond (Nat.ble a n) (cond (Nat.ble b n) (dg l n) true) (dg l n)
def aL.get(H:aL)(b:Nat):Option cn:=cond (dg H.bZ b) none (H.t.get b)
def aL.im{β:Type}(H:aL)(b:Nat)(x:cn)(k:aL->β):β:=dA.im x (b+1) H.t b fun t=>k {H with t:=t}
def aL.qp{β:Type}(H:aL)(x:cn)(k:Nat->aL->β):β:=jS H.ar fun n=>dA.im x (n+1) H.t n fun t=>k n {H with t:=t,ar:=n+1}
abbrev cJ:=dA Value
def cJ.rd(e:cJ)(t:Nat):Value:=match dA.get e t with|some v=>v|none=>undef
def b5(e:cJ):Operand->Value
 | .tmp t=>e.rd t
 | .const v=>v
 | .global g=>.pointer (some ⟨g,0,none⟩)
 | .func f=>.func (.func f) #[] #[]
def Ah(e:cJ):List Operand->List Value
 | []=>[]
 | o::l=>b5 e o::Ah e l
inductive Jn where
 | int|bool|string|slice|flat (n:Nat)|fn
inductive dr where
 | mv (x:Operand)
 | pick (c x y:Operand)
 | alloc (t:TypeId) (z:List Value)
 | box (t n:Nat) (x:Operand)
 | build (z:List Value) (bF:List (Nat×Nat×Operand))
 | buildSlice (t size len:Nat) (z:List Value) (bF:List (Nat×Nat×Operand))
 | H7 (x:Operand)
 | H8 (n:Nat) (x:Operand)
 | st (n:Nat) (x y:Operand)
 | GN (x:Operand)
 | bin (op:BinOp) (k:Jn) (x y:Operand)
 | un (op:UnOp) (x:Operand)
 | conv (k:IntKind) (x:Operand)
 | H9 (t:TypeId) (x:Operand)
 | PU (f:FuncId) (xs kZ:List Operand)
 | mkMap
 | mkSlice (t size bytes:Nat) (z:List Value) (x y:Operand)
 | sF (x:Operand) (lo hi:Option Operand)
 | sl (t size:Nat) (x:Operand) (lo hi bB:Option Operand)
 | Ia (n size:Nat) (x:Operand) (lo hi bB:Option Operand)
 | Ib (off:Nat) (x:Operand)
 | idx (size:Nat) (x y:Operand)
 | Hw (n size:Nat) (x y:Operand)
 | CX (n size:Nat) (agg:Bool) (x y:Operand)
 | Ic (x y:Operand)
 | lookup (str:Bool) (z:Value) (ok:Bool) (x y:Operand)
 | GO (str:Bool) (m k v:Operand)
 | ext (x:Operand) (i:Nat)
 | call (f:FuncId) (b8:List Operand)
 | Oj (x:Operand) (b8:List Operand)
 | Hx (x:Operand)
 | Hy (x:Operand)
 | O7 (n:Nat)
 | max2 (x y:Operand)
 | app (t size bytes:Nat) (x y:Operand)
 | copy (size:Nat) (x y:Operand)
 | clear (z:List Value) (x:Operand)
 | bad
structure nQ where
 dst:Option Nat
 g:Option (Nat×Bool)
 op:dr
inductive ng where
 | skip
 | seq (x y:ng)
 | cond (c:Operand) (x y:ng)
 | block (id:Nat) (x:ng)
 | loop (x:ng)
 | exit (id:Nat)
 | ret
 | reg (ops:List nQ)
 | draw (ops:List nQ) (bef:List Nat) (cz:List (Nat×Nat))
 | bad
structure yz where
 n:Nat
 body:ng
 res:List (Nat×Option (Bool×Nat))
def ew:Value->List Value
 | .agg ⟨l⟩=>l
 | v=>[v]
def dj:Nat:=4611686018427387904
def lK(c:Nat):Bool:=Nat.ble 2305843009213693952 c
def nth{α:Type}:List α->Nat->Option α
 | [],_=>none
 | a::l,n=>match n with|0=>some a|n+1=>nth l n
def xf{α β:Type}:Nat->List α->(List α->Option β)->Option β
 | 0,_,k=>k []
 | _+1,[],_=>none
 | n+1,a::l,k=>xf n l fun r=>k (a::r)
def xg{α:Type}:Nat->List α->List α
 | 0,l=>l
 | _+1,[]=>[]
 | n+1,_::l=>xg n l
def oa{β:Type}:Nat->List Value->List Value->(List Value->Option β)->Option β
 | _,l,[],k=>k l
 | 0,[],_::_,_=>none
 | 0,_::l,v::vs,k=>oa 0 l vs fun r=>k (v::r)
 | _+1,[],_::_,_=>none
 | n+1,a::l,v::vs,k=>oa n l (v::vs) fun r=>k (a::r)
def qa:List Value->Bool
 | []=>true
 | v::l=>cond (jG v) (qa l) false
def qA{β:Type}(H:aL)(b o n:Nat)(k:List Value->Option β):Option β:=
 match H.get b with
 | some (.cs _ _ _ c)=>xf n (xg o c) k
 | _=>none
def uf{β:Type}(H:aL)(b o:Nat)(vs:List Value)(k:aL->Option β):Option β:=
 match H.get b with
 | some (.cs true lo t c)=>cond (Nat.ble H.cg b) (cond (qa vs) (oa o c vs fun c=>H.im b (.cs true lo t c) k) none) none
 | _=>none
def wr(k:IntKind)(n:Int):Int:=
 match n with
 | .ofNat m=>cond (Nat.blt m 128) n (match k with|.i64=>cond (Nat.blt m 9223372036854775808) n (k.wrap n)|.u64=>cond (Nat.blt m 18446744073709551616) n (k.wrap n)|_=>k.wrap n)
 | .negSucc m=>match k with|.i64=>cond (Nat.blt m 9223372036854775808) n (k.wrap n)|_=>k.wrap n
def xh:IntKind->IntKind->Bool
 | .i64,.i64=>true
 | .i32,.i32=>true
 | .i16,.i16=>true
 | .i8,.i8=>true
 | .u64,.u64=>true
 | .u32,.u32=>true
 | .u16,.u16=>true
 | .u8,.u8=>true
 | _,_=>false
def AF:Int->Int->Bool
 | .ofNat a,.ofNat b=>Nat.beq a b
 | .negSucc a,.negSucc b=>Nat.beq a b
 | _,_=>false
def PV:Bool->Bool->Bool
 | true,true=>true
 | false,false=>true
 | _,_=>false
def xA:Value->Value->Option Bool
 | .int k a,.int k' b=>cond (xh k k') (some (AF a b)) none
 | _,_=>none
def pA:List Value->List Value->Option Bool
 | [],[]=>some true
 | a::l,b::m=>match xA a b with|some true=>pA l m|r=>r
 | _,_=>none
def zR:List UInt8->List UInt8->Bool
 | [],[]=>true
 | a::l,b::m=>cond (Nat.beq a.toNat b.toNat) (zR l m) false
 | _,_=>false
def CY:Int->Int->Bool
 | .ofNat a,.ofNat b=>Nat.ble a b
 | .negSucc a,.negSucc b=>Nat.ble b a
 | .negSucc _,.ofNat _=>true
 | .ofNat _,.negSucc _=>false
def CZ(a b:Int):Bool:=not (CY b a)
def qB(k:IntKind)(n:Int)(f:Value->Option (Value×aL)):Option (Value×aL):=O6 (wr k n) fun n=>f (.int k n)
def okB(b:Bool)(f:Value->Option (Value×aL)):Option (Value×aL):=match b with|true=>f (.bool true)|false=>f (.bool false)
def vv(op:BinOp)(kd:Jn)(x y:Value)(f:Value->Option (Value×aL)):Option (Value×aL):=
 match kd with
 | .int=>match x,y with
  | .int k a,.int k' b=>match op with
   | .shl=>match a,b with|.ofNat a,.ofNat b=>cond (Nat.ble b k.bits) (qB k (.ofNat (Nat.mul a (Nat.pow 2 b))) f) none|_,_=>none
   | .shr=>match a,b with|.ofNat a,.ofNat b=>cond (Nat.ble b k.bits) (jS (Nat.div a (Nat.pow 2 b)) fun n=>f (.int k (.ofNat n))) none|_,_=>none
   | _=>cond (xh k k') (match op with
    | .add=>qB k (a+b) f
    | .sub=>qB k (a- b) f
    | .mul=>qB k (a*b) f
    | .eql=>okB (AF a b) f
    | .neq=>okB (not (AF a b)) f
    | .lss=>okB (CZ a b) f
    | .leq=>okB (CY a b) f
    | .gtr=>okB (CZ b a) f
    | .geq=>okB (CY b a) f
    | .rem=>match a,b with|.ofNat a,.ofNat b=>cond (Nat.beq b 0) none (jS (Nat.mod a b) fun n=>f (.int k (.ofNat n)))|_,_=>none
    | .quo=>match a,b with|.ofNat a,.ofNat b=>cond (Nat.beq b 0) none (qB k (.ofNat (Nat.div a b)) f)|_,_=>none
    | .and=>match a,b with|.ofNat a,.ofNat b=>qB k (.ofNat (Nat.land a b)) f|_,_=>none
    | .or=>match a,b with|.ofNat a,.ofNat b=>qB k (.ofNat (Nat.lor a b)) f|_,_=>none
    | _=>none) none
  | _,_=>none
 | .bool=>match x,y with
  | .bool a,.bool b=>match op with
   | .eql=>okB (PV a b) f
   | .neq=>okB (not (PV a b)) f
   | _=>none
  | _,_=>none
 | .string=>match x,y with
  | .string ⟨⟨a⟩⟩,.string ⟨⟨b⟩⟩=>match op with
   | .eql=>okB (zR a b) f
   | .neq=>okB (not (zR a b)) f
   | _=>none
  | _,_=>none
 | .slice=>match x,y with
  | .slice a _ _,.slice none _ _=>match op with
   | .eql=>okB a.isNone f
   | .neq=>okB (not a.isNone) f
   | _=>none
  | _,_=>none
 | .flat n=>match x,y with
  | .agg ⟨a⟩,.agg ⟨b⟩=>cond (Nat.beq a.length n&&Nat.beq b.length n) (match pA a b with
   | some r=>match op with
    | .eql=>okB r f
    | .neq=>okB (not r) f
    | _=>none
   | none=>none) none
  | _,_=>none
 | .fn=>none
def Ok(n:Nat)(agg:Bool)(cs:List Value)(o:Nat)(f:Value->Option (Value×aL)):Option (Value×aL):=
 match agg with
 | true=>xf n (xg o cs) fun r=>f (.agg ⟨r⟩)
 | false=>match nth cs o with|some v=>f v|none=>none
def xi{β:Type}(e:cJ)(cells:List Value):List (Nat×Nat×Operand)->(List Value->Option β)->Option β
 | [],k=>k cells
 | (o,n,x)::l,k=>match ew (b5 e x) with
  | vs=>cond (Nat.beq vs.length n) (oa o cells vs fun c=>xi e c l k) none
def ml(z:List Value):Nat->List Value
 | 0=>[]
 | n+1=>z++ml z n
def B7(str:Bool)(x y:Value):Option Bool:=
 match str with
 | true=>match x,y with|.string ⟨⟨a⟩⟩,.string ⟨⟨b⟩⟩=>some (zR a b)|_,_=>none
 | false=>match x,y with|.int k a,.int k' b=>cond (xh k k') (some (AF a b)) none|_,_=>none
def xj(str:Bool)(x:Value):List (Value×Value×Nat)->Option (Option Value)
 | []=>some none
 | (k,v,_)::l=>match B7 str x k with|some true=>some (some v)|some false=>xj str x l|none=>none
def xB(str:Bool)(x v:Value):List (Value×Value×Nat)->List (Value×Value×Nat)
 | []=>[]
 | (k,w,n)::l=>match B7 str x k with|some true=>(x,v,n)::l|_=>(k,w,n)::xB str x v l
def lU(e:cJ)(d:Nat):Option Operand->Option Nat
 | none=>some d
 | some o=>match b5 e o with|.int _ (.ofNat n)=>some n|_=>none
def cA(call:FuncId->List Value->aL->Option (Value×aL))(e:cJ)(H:aL)(op:dr):Option (Value×aL):=
 let ok (v:Value):Option (Value×aL):=some (v,H)
 match op with
 | .mv x=>ok (b5 e x)
 | .pick c x y=>match b5 e c with|.bool true=>ok (b5 e x)|.bool false=>ok (b5 e y)|_=>none
 | .alloc t z=>H.qp (.cs true false t z) fun n H=>some (.pointer (some ⟨n,0,none⟩),H)
 | .box t n x=>match ew (b5 e x) with
  | vs=>cond (Nat.beq vs.length n) (H.qp (.cs true false t vs) fun n H=>some (.pointer (some ⟨n,0,none⟩),H)) none
 | .build z bF=>xi e z bF fun c=>ok (.agg ⟨c⟩)
 | .buildSlice t size len z bF=>xi e (ml z len) bF fun c=>H.qp (.cs true false t c) fun n H=>some (.slice (some ⟨n,0,none⟩) len len,H)
 | .H7 x=>match b5 e x with
  | .pointer (some ⟨b,o,none⟩)=>qA H b o 1 fun c=>match c with|[v]=>ok v|_=>none
  | _=>none
 | .H8 n x=>match b5 e x with
  | .pointer (some ⟨b,o,none⟩)=>qA H b o n fun c=>ok (.agg ⟨c⟩)
  | _=>none
 | .st n x y=>match b5 e x with
  | .pointer (some ⟨b,o,none⟩)=>match ew (b5 e y) with
   | vs=>cond (Nat.beq vs.length n) (uf H b o vs fun H=>some (undef,H)) none
  | _=>none
 | .GN x=>match b5 e x with
  | .pointer (some a)=>ok (.pointer (some a))
  | .func f a b=>ok (.func f a b)
  | _=>none
 | .bin op k x y=>vv op k (b5 e x) (b5 e y) ok
 | .un op x=>match op,b5 e x with
  | .not,.bool true=>ok (.bool false)
  | .not,.bool false=>ok (.bool true)
  | .neg,.int k n=>qB k (0- n) ok
  | _,_=>none
 | .conv k x=>match b5 e x with
  | .int _ n=>qB k n ok
  | _=>none
 | .H9 t x=>ok (.iface t (b5 e x))
 | .PU f xs kZ=>ok (.func (.func f) ⟨Ah e xs⟩ ⟨Ah e kZ⟩)
 | .mkMap=>H.qp (.mp true [] 0) fun n H=>some (.map (some n),H)
 | .mkSlice t _ bytes z x y=>match b5 e x,b5 e y with
  | .int _ (.ofNat l),.int _ (.ofNat c)=>cond (Nat.ble l c&&Nat.ble c 1000&&Nat.ble bytes 1000) (H.qp (.cs true false t (ml z c)) fun n H=>some (.slice (some ⟨n,0,none⟩) l c,H)) none
  | _,_=>none
 | .sF x lo hi=>match b5 e x with
  | .string ⟨⟨s⟩⟩=>match lU e s.length hi with
   | some h=>match lU e 0 lo with
    | some l=>cond (Nat.ble h s.length&&Nat.ble l h) (xf (h- l) (xg l s) fun r=>ok (.string ⟨⟨r⟩⟩)) none
    | none=>none
   | none=>none
  | _=>none
 | .sl t size x lo hi bB=>match b5 e x with
  | .slice (some ⟨b,o,none⟩) len cap=>match lU e cap bB with
   | some m=>match lU e len hi with
    | some h=>match lU e 0 lo with
     | some l=>match (match lK cap with
       | false=>cond (Nat.ble l h&&Nat.ble h m&&Nat.ble m cap) (some true) none
       | true=>match H.get b with
        | some (.cs _ true bt c)=>cond (Nat.beq bt t&&Nat.ble cap dj&&Nat.beq o ((dj- cap)*size)&&Nat.ble l h&&Nat.ble (o+h*size) c.length&&(match bB with
          | none=>lK (m- l)&&(Nat.beq l 0||Nat.blt (o+l*size) c.length)
          | some _=>Nat.ble h m&&Nat.ble (o+m*size) c.length&&not (lK m))) (some true) none
        | _=>none) with
      | some _=>jS (h- l) fun n=>jS (m- l) fun c=>cond (Nat.beq m l) (ok (.slice (some ⟨b,o,none⟩) n c)) (jS (o+l*size) fun o=>ok (.slice (some ⟨b,o,none⟩) n c))
      | none=>none
     | none=>none
    | none=>none
   | none=>none
  | .slice none 0 0=>match lU e 0 bB,lU e 0 hi,lU e 0 lo with
   | some 0,some 0,some 0=>ok (.slice none 0 0)
   | _,_,_=>none
  | _=>none
 | .Ia n size x lo hi bB=>match b5 e x with
  | .pointer (some ⟨b,o,none⟩)=>match lU e n bB with
   | some m=>match lU e n hi with
    | some h=>match lU e 0 lo with
     | some l=>cond (Nat.ble l h&&Nat.ble h m&&Nat.ble m n)
      (jS (h- l) fun n=>jS (m- l) fun c=>cond (Nat.beq m l) (ok (.slice (some ⟨b,o,none⟩) n c)) (jS (o+l*size) fun o=>ok (.slice (some ⟨b,o,none⟩) n c))) none
     | none=>none
    | none=>none
   | none=>none
  | _=>none
 | .Ib off x=>match b5 e x with
  | .pointer (some ⟨b,o,none⟩)=>jS (o+off) fun o=>ok (.pointer (some ⟨b,o,none⟩))
  | _=>none
 | .idx size x y=>match b5 e x,b5 e y with
  | .slice (some ⟨b,o,none⟩) n _,.int _ (.ofNat i)=>cond (Nat.blt i n) (jS (o+i*size) fun o=>ok (.pointer (some ⟨b,o,none⟩))) none
  | _,_=>none
 | .Hw n size x y=>match b5 e x,b5 e y with
  | .pointer (some ⟨b,o,none⟩),.int _ (.ofNat i)=>cond (Nat.blt i n) (jS (o+i*size) fun o=>ok (.pointer (some ⟨b,o,none⟩))) none
  | _,_=>none
 | .CX n size agg x y=>match b5 e x,b5 e y with
  | .agg ⟨cs⟩,.int _ (.ofNat i)=>cond (Nat.blt i n) (Ok size agg cs (i*size) ok) none
  | _,_=>none
 | .Ic x y=>match b5 e x,b5 e y with
  | .string ⟨⟨s⟩⟩,.int _ (.ofNat i)=>match nth s i with|some b=>jS b.toNat fun b=>ok (.int .u8 (.ofNat b))|none=>none
  | _,_=>none
 | .lookup str z k x y=>match b5 e x with
  | .map (some r)=>match H.get r with
   | some (.mp _ es _)=>match xj str (b5 e y) es with
    | some (some v)=>match k with|true=>ok (.tuple ⟨[v,.bool true]⟩)|false=>ok v
    | some none=>match k with|true=>ok (.tuple ⟨[z,.bool false]⟩)|false=>ok z
    | none=>none
   | _=>none
  | _=>none
 | .GO str m k v=>match b5 e m with
  | .map (some r)=>match H.get r with
   | some (.mp true es c)=>cond (Nat.ble H.cg r) (match xj str (b5 e k) es with
    | some (some _)=>H.im r (.mp true (xB str (b5 e k) (b5 e v) es) c) fun H=>some (undef,H)
    | some none=>H.im r (.mp true (es++[(b5 e k,b5 e v,c)]) (c+1)) fun H=>some (undef,H)
    | none=>none) none
   | _=>none
  | _=>none
 | .ext x i=>match b5 e x with
  | .tuple ⟨l⟩=>match nth l i with|some v=>ok v|none=>none
  | _=>none
 | .call f b8=>call f (Ah e b8) H
 | .Oj x b8=>match b5 e x with
  | .func (.func f) ⟨a⟩ ⟨c⟩=>call f (a++(Ah e b8++c)) H
  | _=>none
 | .Hx x=>match b5 e x with
  | .slice _ n _=>jS n fun n=>ok (.int .i64 (.ofNat n))
  | _=>none
 | .Hy x=>match b5 e x with
  | .string ⟨⟨s⟩⟩=>jS s.length fun n=>ok (.int .i64 (.ofNat n))
  | _=>none
 | .O7 n=>ok (.int .i64 (.ofNat n))
 | .max2 x y=>match b5 e x,b5 e y with
  | .int k a,.int _ b=>cond (CZ a b) (ok (.int k b)) (ok (.int k a))
  | _,_=>none
 | .app t size bytes x y=>match b5 e y with
  | .slice bV m _=>(match bV with
   | some ⟨b,o,none⟩=>qA H b o (m*size)
   | _=>fun k=>cond (Nat.beq m 0) (k []) none) fun new=>match b5 e x with
    | .slice none 0 0=>match m with
     | 0=>ok (.slice none 0 0)
     | _+1=>cond (Nat.ble m 200&&Nat.ble bytes 1000) (H.qp (.cs true true t new) fun n H=>some (.slice (some ⟨n,0,none⟩) m dj,H)) none
    | .slice (some ⟨b,o,none⟩) len cap=>jS (len+m) fun xC=>cond (Nat.ble xC 200&&Nat.ble bytes 1000)
     (cond (lK cap)
      (match H.get b with
       | some (.cs true true bt c)=>cond (Nat.ble (o+xC*size) c.length)
         (cond (Nat.beq bt t&&Nat.ble cap dj&&Nat.beq o ((dj- cap)*size)) (uf H b (o+len*size) new fun H=>some (.slice (some ⟨b,o,none⟩) xC cap,H)) none)
         (cond (Nat.beq o 0&&Nat.beq c.length (len*size)&&Nat.ble H.cg b&&Nat.beq cap dj&&Nat.beq bt t&&qa new)
         (H.im b .dead fun H=>H.qp (.cs true true t (c++new)) fun n H=>some (.slice (some ⟨n,0,none⟩) xC dj,H)) none)
       | _=>none)
      (cond (Nat.ble xC cap)
       (uf H b (o+len*size) new fun H=>some (.slice (some ⟨b,o,none⟩) xC cap,H))
       (qA H b o (len*size) fun old=>H.qp (.cs true true t (old++new)) fun n H=>some (.slice (some ⟨n,0,none⟩) xC dj,H)))) none
    | _=>none
  | _=>none
 | .copy size x y=>match b5 e x,b5 e y with
  | .slice (some ⟨b,o,none⟩) n _,.slice (some ⟨b9,aO,none⟩) m _=>jS (cond (Nat.ble m n) m n) fun j=>qA H b9 aO (j*size) fun c=>uf H b o c fun H=>some (.int .i64 (.ofNat j),H)
  | _,_=>none
 | .clear z x=>match b5 e x with
  | .slice _ 0 _=>ok (.tuple ⟨[]⟩)
  | .slice (some ⟨b,o,none⟩) n _=>uf H b o (ml z n) fun H=>some (.tuple ⟨[]⟩,H)
  | _=>none
 | .bad=>none
inductive j3 where
 | fail
 | ok (x:eZ) (e:cJ) (H:aL)
def tH{β:Type}(e:cJ)(d:Option Nat)(v:Value)(k:cJ->β):β:=match d with|some d=>dA.im v (d+1) e d k|none=>k e
def km(e:cJ):Option (Nat×Bool)->Bool
 | none=>true
 | some (t,w)=>match e.rd t with
  | .bool true=>w
  | .bool false=>not w
  | _=>false
section
variable(call:FuncId->List Value->aL->Option (Value×aL))
def hQ:List nQ->cJ->aL->j3
 | [],e,H=>.ok .cB e H
 | o::l,e,H=>cond (km e o.g)
   (match cA call e H o.op with
    | some (v,H)=>tH e o.dst v fun e=>hQ l e H
    | none=>.fail)
   (tH e o.dst undef fun e=>hQ l e H)
def me(b:Nat):List (Nat×Nat×Nat)->List (Nat×Nat)->List (Nat×Nat)
 | [],l=>l
 | (i,lo,hi)::r,l=>cond (Nat.testBit b i||Nat.beq lo hi) (me b r l) ((lo,hi)::me b r l)
def apart(bef:List Nat)(i k:Nat):Bool:=not (Nat.beq i k)&&not (Nat.testBit ((nth bef i).getD 0) k)&&not (Nat.testBit ((nth bef k).getD 0) i)
def nW:Value->Option Nat
 | .pointer (some ⟨b,_,none⟩)=>some b
 | _=>none
def lH(bef:List Nat)(e:cJ)(i:Nat):List (Nat×Nat)->List (Nat×Nat)->List (Nat×Nat)
 | [],l=>l
 | (k,w)::r,l=>cond (apart bef i k) (match nW (e.rd w) with|some b=>(b,b+1)::lH bef e i r l|none=>lH bef e i r l) (lH bef e i r l)
def GP(i:Nat):List (Nat×Nat)->Option Nat
 | []=>none
 | (k,w)::r=>cond (Nat.beq i k) (some w) (GP i r)
def w7(e:cJ)(w:Nat):dr->Bool
 | .st _ x _=>match nW (b5 e x),nW (e.rd w) with|some a,some b=>Nat.beq a b|_,_=>false
 | _=>false
def pz(bef:List Nat)(cz:List (Nat×Nat))(dm:Nat->Bool):Nat->List nQ->List Nat->List (Nat×Nat×Nat)->cJ->aL->j3
 | _,[],_,_,e,H=>.ok .cB e H
 | i,o::l,b::bs,made,e,H=>cond (km e o.g)
   (match GP i cz with
    | none=>(match cA call e {H with cg:=cond (dm i) H.cg (cond (Nat.ble H.ar H.cg) H.cg H.ar),bZ:=me b made (lH bef e i cz H.bZ)} o.op with
     | some (v,H')=>tH e o.dst v fun e=>pz bef cz dm (i+1) l bs ((i,H.ar,H'.ar)::made) e {H' with cg:=H.cg,bZ:=H.bZ}
     | none=>.fail)
    | some w=>cond (w7 e w o.op) (match cA call e {H with bZ:=me b made (lH bef e i cz H.bZ)} o.op with
     | some (v,H')=>tH e o.dst v fun e=>pz bef cz dm (i+1) l bs made e {H' with bZ:=H.bZ}
     | none=>.fail) .fail)
   (tH e o.dst undef fun e=>pz bef cz dm (i+1) l bs made e H)
 | _,_::_,[],_,_,_=>.fail
def full(n:Nat):Nat:=2^n- 1
def tw(bs:List Nat)(i:Nat):Bool:=Nat.beq ((nth bs i).getD 0) (full i)&&(xg (i+1) bs).all fun b=>Nat.testBit b i
def GQ(f:cJ->aL->j3):Nat->cJ->aL->j3
 | 0,_,_=>.fail
 | n+1,e,H=>match f e H with
  | .ok .cB e H=>GQ f n e H
  | r=>r
def gV:ng->cJ->aL->j3
 | .skip,e,H=>.ok .cB e H
 | .seq x y,e,H=>match gV x e H with
  | .ok .cB e H=>gV y e H
  | r=>r
 | .cond c x y,e,H=>match b5 e c with
  | .bool true=>gV x e H
  | .bool false=>gV y e H
  | _=>.fail
 | .block id x,e,H=>match gV x e H with
  | .ok (.ext i) e H=>cond (Nat.beq i id) (.ok .cB e H) (.ok (.ext i) e H)
  | r=>r
 | .loop x,e,H=>GQ (gV x) 5000 e H
 | .exit id,e,H=>.ok (.ext id) e H
 | .ret,e,H=>.ok .ret e H
 | .reg ops,e,H=>hQ call ops e H
 | .draw ops bef cz,e,H=>pz call bef cz (tw bef) 0 ops bef [] e H
 | .bad,_,_=>.fail
end
def tI:Nat->List Value->cJ->cJ
 | _,[],e=>e
 | i,v::l,e=>dA.im v (i+1) e i fun e=>tI (i+1) l e
def rj(e:cJ)(H:aL):List (Nat×Option (Bool×Nat))->(List Value->Option (Value×aL))->Option (Value×aL)
 | [],k=>k []
 | (t,none)::l,k=>rj e H l fun r=>k (e.rd t::r)
 | (t,some (agg,n))::l,k=>match e.rd t with
  | .pointer (some ⟨b,o,none⟩)=>qA H b o n fun c=>match agg with
   | true=>rj e H l fun r=>k (.agg ⟨c⟩::r)
   | false=>match c with|[v]=>rj e H l fun r=>k (v::r)|_=>none
  | _=>none
def eH(sG:FuncId->Option yz)(orc:FuncId->List Value->aL->Option (Option (Value×aL))):Nat->FuncId->List Value->aL->Option (Value×aL)
 | 0,_,_,_=>none
 | n+1,f,b8,H=>match orc f b8 H with
  | some r=>r
  | none=>match sG f with
   | none=>none
   | some F=>cond (Nat.ble b8.length F.n) (match gV (eH sG orc n) F.body (tI 0 b8 .nil) H with
    | .ok (.ext _) _ _=>none
    | .ok _ e H=>rj e H F.res fun vs=>match vs with|[v]=>some (v,H)|vs=>some (.tuple ⟨vs⟩,H)
    | .fail=>none) none
end
section
variable{P:Program}{h:ab}
theorem KA{t:TypeId}{z:Value}(aH:zeroOf P t=some z)[K:KK Value]:au P (Instr.alloc t true (.tuple #[])) h=∀c,h c=none->K.f (.pointer (some ⟨c,0,none⟩)) (h.put c ⟨.cells z.cells t,true⟩):=by
 simp only [au,Instr.alloc,aV,iD,aH,newVar,newRow,qX,bh]
theorem w8{t:TypeId}{v:Value}[K:KK Value]:au P (Instr.box t v) h=∀c,h c=none->K.f (.pointer (some ⟨c,0,none⟩)) (h.put c ⟨.cells v.cells t,true⟩):=by
 simp only [au,Instr.box,aV,newVar,newRow,qX,bh]
def vm(o:Option Value)[K:A7 Value Prop]:Prop:=match o with|some v=>K.f v|none=>False
theorem Ez(v:Value)(K:Value->Prop):@vm (some v) ⟨K⟩=K v:=rfl
def FY(o:Option (List Value))[K:A7 Value Prop]:Prop:=match o with|some vs=>K.f (.agg vs.toArray)|none=>False
theorem adt(v:List Value)(K:Value->Prop):@FY (some v) ⟨K⟩=K (.agg v.toArray):=rfl
theorem KB{t:TypeId}(aj:gq P t=some none){A:Addr}[K:KK Value]:au P (Instr.loadAt t (.pointer (some A))) h=@vm (h.cell? A) ⟨fun v=>K.f v h⟩:=by
 simp only [au,Instr.loadAt,Instr.sureAddr,aV,bh,wN,aj,tA];rfl
theorem u7{main:Bool}{ah:Type}{S:Sys ah}{b:bn}{s:ah}{t:TypeId}{A:Addr}{x:eI}(hb:h A.block=some x)[K:hE ah]:fa P main S b t (.pointer (some A)) s h=@au P _ (Instr.loadAt t (.pointer (some A))) h ⟨fun v h=>K.f s h v⟩:=by
 simp [fa,hb]
theorem By{t:TypeId}{m:Nat}(aj:gq P t=some (some m)){A:Addr}[K:KK Value]:au P (Instr.loadAt t (.pointer (some A))) h=@FY (h.iU A 0 m) ⟨fun v=>K.f v h⟩:=by
 simp only [au,Instr.loadAt,Instr.sureAddr,aV,bh,wN,aj,tA];rfl
class ayS where
 f:ab->Prop
def vR(b:Bool)(A:Addr)(i:Nat)(vs:List Value)(h:ab)[K:ayS]:Prop:=b=true/\oI h A i vs K.f
theorem y9{t:TypeId}{m:Nat}(aj:cy P t=some m){A:Addr}{v:Value}[K:KK Unit]:au P (Instr.storeAt t (.pointer (some A)) v) h=@vR (v.cells.size==m) A 0 v.cells.toList h ⟨K.f ()⟩:=by
 simp only [au,Instr.storeAt,Instr.sureAddr,aV,bh,ac2,aj,vR,Option.some.injEq,beq_iff_eq]
theorem BE{A:Addr}{i:Nat}{K:ab->Prop}:@vR true A i [] h ⟨K⟩=K h:=by simp [vR,oI]
theorem zj{b i:Nat}{c:Array Value}{t:TypeId}{v:Value}{vs:List Value}{K:ab->Prop}{off:Nat}:
  @vR true ⟨b,off,none⟩ i (v::vs) (h.put b ⟨.cells c t (0,0),true⟩) ⟨K⟩=((jG v&&decide (off+i<c.size))=true/\@vR true ⟨b,off,none⟩ (i+1) vs (h.put b ⟨.cells (c.setIfInBounds (off+i) v) t (0,0),true⟩) ⟨K⟩):=by
 have aA:(⟨b,off,none⟩:Addr).add i=⟨b,off+i,none⟩:=by unfold Addr.add;split<;>simp_all
 simp only [vR,oI,aA,true_and,ab.Kz,ab.owns,r5,ab.cell?,ab.frozen?,ab.setCell,Option.isSome_none,Bool.false_eq_true,if_false,Bool.and_eq_true,decide_eq_true_eq];have aK:(h.put b ⟨.cells c t (0,0),true⟩).put b ⟨.cells (c.setIfInBounds (off+i) v) t (0,0),true⟩=h.put b ⟨.cells (c.setIfInBounds (off+i) v) t (0,0),true⟩:=by
  funext x;simp only [ab.put];split<;>rfl
 rw [aK];by_cases hs:off+i<c.size
 ·simp [hs]
 ·simp [hs]
theorem qc(b:Nat)(x y:eI):(h.put b x).put b y=h.put b y:=by
 funext c;simp only [ab.put];split<;>rfl
theorem y0(b c:Nat)(x:eI):h.put b x c=if c=b then some x else h c:=rfl
theorem ahd{b c:Nat}{x:eI}:(h.put b x c=none)=(((c=b)=False/\(b=c)=False)/\h c=none):=by
 simp only [ab.put];by_cases hc:c=b
 ·subst hc;simp
 ·simp [hc,Ne.symm hc]
theorem Bq{A:Addr}{i:Nat}:h.iU A i 0=some []:=rfl
def q9(o:Option Value)(l:Option (List Value)):Option (List Value):=match o,l with|some v,some vs=>some (v::vs)|_,_=>none
theorem EA(v:Value)(vs:List Value):q9 (some v) (some vs)=some (v::vs):=rfl
theorem k5{b off i:Nat}:(⟨b,off,none⟩:Addr).add i=⟨b,off+i,none⟩:=by unfold Addr.add;split<;>simp_all
theorem p5{b off i n:Nat}:h.iU ⟨b,off,none⟩ i (n+1)=q9 (h.cell? ⟨b,off+i,none⟩) (h.iU ⟨b,off,none⟩ (i+1) n):=by
 simp only [ab.iU,k5];cases h.cell? ⟨b,off+i,none⟩ with
 | none=>rfl
 | some v=>cases h.iU ⟨b,off,none⟩ (i+1) n<;>rfl
theorem u3{t ty:TypeId}{el:TypeId}(aj:P.underlying t=some (.slice el)){a:Option Addr}{n c:Nat}[K:KK Value]:au P (Builtin.len_ #[t] ty #[.slice a n c]) h=K.f (.int .i64 n) h:=by
 simp [au,Builtin.len_,aV,df,aj,bh,goInt]
theorem Sx{t ty:TypeId}(aj:P.underlying t=some .string){x:ByteArray}[K:KK Value]:au P (Builtin.len_ #[t] ty #[.string x]) h=K.f (.int .i64 x.size) h:=by
 simp [au,Builtin.len_,aV,df,aj,bh,goInt]
theorem El{t el:TypeId}{bo:Nat}(aj:P.underlying t=some (.slice el))(hs:cy P el=some bo){b off n c:Nat}{k:IntKind}{i:Int}[K:KK Value]:
  au P (Instr.indexAt t (.slice (some ⟨b,off,none⟩) n c) (.int k i)) h=((decide (0<=i)&&decide (i<n))=true/\K.f (.pointer (some ⟨b,off+i.toNat*bo,none⟩)) h):=by
 simp only [au,Instr.indexAt,asIntOf,aV,bh,df,aj,Ky,gL,hs,k5,Bool.and_eq_true,decide_eq_true_eq];by_cases hi:0<=i/\i<n
 ·simp [hi]
 ·have:bf P (boundsPanic k i (↑n) BoundsCode.index:Sem Value) h K.f=False:=by
   have aK:∀s,∀(Q:Value->ab->Prop),∀h,bf P (runtimePanic (.bounds (IntKind.i64.wrap i) n s .index):Sem Value) h Q=False:=by
    intro s Q h;simp [runtimePanic,aV,mJ,goPanic,bf]
   unfold boundsPanic;split<;>simp [aV,Bx,yS,aK,bh,Question.forced]
  simp only [hi,if_false,this,false_and];simp
theorem nq{t ft:TypeId}{fs:Array Field}{f:Field}{m i:Nat}(aj:P.underlying t=some (.struct fs))(aP:fs[i]? =some f)(au1:f.type=ft)(hs:cy P ft=some (m+1)){A:Addr}[K:KK Value]:
  au P (Instr.fieldAt t (.pointer (some A)) i) h=K.f (.pointer (some (A.add f.offset))) h:=by
 subst au1;simp [au,Instr.fieldAt,Instr.sureAddr,aV,bh,df,aj,aP,fieldPlace,gL,hs]
theorem fG{vs:Array Value}{i:Nat}[K:KK Value]:au P (Instr.extract (.tuple vs) i) h=@vm vs[i]? ⟨fun v=>K.f v h⟩:=by
 simp only [au,Instr.extract];cases vs[i]? <;>rfl
theorem am4{t:Bool}[K:KK Value]:au P (Op.unary .not (.bool t)) h=K.f (.bool !t) h:=rfl
end
theorem ahe(t w:Bool):CV (.bool t) w=(t==w):=by cases t<;>cases w<;>rfl
theorem akc(h:ab):h.aD h:=fun _ _ e=>e
theorem bT{P:Program}{fn:Func}{t n:Nat}(al:fn.results=#[.tmp t])(aj:t<n){ah:Type}{Post:ah->ab->Value->Prop}{e:Env}{s:ah}{h:ab}(p:Post s h (e t)):er P fn Post n e [] s h:=by
 simp only [er,kF,results,al,aV];simp [bh,aj,Array.getD,aV];exact p
section
@[simp] theorem jH {β:Type} (m:Nat) (k:Nat->β):jS m k=k m:=by cases m<;>rfl
@[simp] theorem akd {β:Type} (m:Int) (k:Int->β):O6 m k=k m:=by cases m<;>simp [O6]
theorem wS{α:Type}:∀(n:Nat) (l:List α),xg n l=l.drop n
 | 0,_=>rfl
 | _+1,[]=>rfl
 | n+1,_::l=>by simp [xg,wS n l]
theorem sb{α:Type}:∀(l:List α) (n:Nat),nth l n=l[n]?
 | [],_=>by simp [nth]
 | a::l,0=>rfl
 | a::l,n+1=>by simp [nth,sb l n]
theorem za{α β:Type}:∀(n:Nat) (l:List α) (k:List α->Option β) (r:β),xf n l k=some r->n<=l.length/\k (l.take n)=some r
 | 0,l,k,r,h=>⟨Nat.zero_le _,by simpa [xf] using h⟩
 | n+1,[],k,r,h=>by simp [xf] at h
 | n+1,a::l,k,r,h=>by
  obtain ⟨h1,h2⟩:=za n l _ r h;exact ⟨by simp;omega,by simpa using h2⟩
def hv(j:Nat)(vs l:List Value):List Value:=l.take j++vs++l.drop (j+vs.length)
theorem yW(j:Nat)(l:List Value):hv j [] l=l:=by simp [hv]
theorem Sz{j:Nat}{vs l:List Value}(h:j+vs.length<=l.length):(hv j vs l).length=l.length:=by
 simp [hv];omega
theorem SQ(v:Value)(vs:List Value)(a:Value)(l:List Value):hv 0 (v::vs) (a::l)=v::hv 0 vs l:=by simp [hv,Nat.add_comm]
theorem Es(j:Nat)(vs:List Value)(a:Value)(l:List Value):hv (j+1) vs (a::l)=a::hv j vs l:=by
 simp only [hv,List.take_succ_cons,List.cons_append];rw [show j+1+vs.length=(j+vs.length)+1 by omega,List.drop_succ_cons]
theorem zk{β:Type}:∀(n:Nat) (l vs:List Value) (k:List Value->Option β) (r:β),oa n l vs k=some r->(vs=[]\/n+vs.length<=l.length)/\k (hv n vs l)=some r
 | n,l,[],k,r,h=>⟨.inl rfl,by rw [yW];unfold oa at h;exact h⟩
 | 0,[],_::_,k,r,h=>by simp [oa] at h
 | 0,a::l,v::vs,k,r,h=>by
  obtain ⟨h1,h2⟩:=zk 0 l vs _ r (by simpa [oa] using h);refine ⟨.inr ?_,by rw [SQ];exact h2⟩;rcases h1 with rfl|h1
  ·simp
  ·simp at h1 ⊢;omega
 | n+1,[],_::_,k,r,h=>by simp [oa] at h
 | n+1,a::l,v::vs,k,r,h=>by
  obtain ⟨h1,h2⟩:=zk n l (v::vs) _ r (by simpa [oa] using h);refine ⟨.inr ?_,by rw [Es];exact h2⟩;rcases h1 with h1|h1
  ·cases h1
  ·simp at h1 ⊢;omega
theorem S5{j:Nat}{v:Value}{vs l:List Value}(h:j<l.length):hv (j+1) vs (l.set j v)=hv j (v::vs) l:=by
 induction l generalizing j with
 | nil=>simp at h
 | cons a l aN=>
  cases j with
  | zero=>rw [SQ,List.set_cons_zero,Es]
  | succ j=>rw [List.set_cons_succ,Es,aN (by simpa using h),Es]
namespace dA
variable{α β:Type}
def set(x:α)(f:Nat)(t:dA α)(n:Nat):dA α:=im x f t n id
theorem nX(x:α):∀(f:Nat) {β:Type} (t:dA α) (n:Nat) (k:dA α->β),im x f t n k=k (set x f t n):=by
 intro f
 induction f with
 | zero=>intro β t n k;rfl
 | succ f aN=>
  intro β t n k;cases t with
  | nil=>
   cases n with
   | zero=>rfl
   | succ n=>
    show cond _ (im x f .nil _ _) (im x f .nil _ _)=k (cond _ (im x f .nil _ _) (im x f .nil _ _));cases Nat.beq (Nat.mod n 2) 0<;>simp only [cond_true,cond_false]<;>rw [aN,aN]<;>rfl
  | node v l r=>
   cases n with
   | zero=>rfl
   | succ n=>
    show cond _ (im x f l _ _) (im x f r _ _)=k (cond _ (im x f l _ _) (im x f r _ _));cases Nat.beq (Nat.mod n 2) 0<;>simp only [cond_true,cond_false]<;>rw [aN,aN]<;>rfl
theorem set_nil_zero(x:α)(f:Nat):set x (f+1) .nil 0=.node (some x) .nil .nil:=rfl
theorem set_nil_succ(x:α)(f n:Nat):set x (f+1) .nil (n+1)=cond (Nat.beq (Nat.mod n 2) 0) (.node none (set x f .nil (Nat.div n 2)) .nil) (.node none .nil (set x f .nil (Nat.div n 2))):=by
 simp only [set,im];cases Nat.beq (Nat.mod n 2) 0<;>simp only [cond_true,cond_false]<;>rw [nX]<;>rfl
theorem ac4(x:α)(f:Nat)(v:Option α)(l r:dA α):set x (f+1) (.node v l r) 0=.node (some x) l r:=rfl
theorem ac5(x:α)(f n:Nat)(v:Option α)(l r:dA α):set x (f+1) (.node v l r) (n+1)=cond (Nat.beq (Nat.mod n 2) 0) (.node v (set x f l (Nat.div n 2)) r) (.node v l (set x f r (Nat.div n 2))):=by
 simp only [set,im];cases Nat.beq (Nat.mod n 2) 0<;>simp only [cond_true,cond_false]<;>rw [nX]<;>rfl
theorem get_nil(n:Nat):(dA.nil:dA α).get n=none:=rfl
theorem KC(v:Option α)(l r:dA α):(dA.node v l r).get 0=v:=rfl
theorem Bz(v:Option α)(l r:dA α)(n:Nat):(dA.node v l r).get (n+1)=cond (Nat.beq (Nat.mod n 2) 0) (l.get (Nat.div n 2)) (r.get (Nat.div n 2)):=rfl
theorem beq_iff(a b:Nat):(Nat.beq a b=true)↔a=b:=⟨Nat.eq_of_beq_eq_true,fun h=>by subst h;simp⟩
theorem tu(x:α):∀(f:Nat) (t:dA α) (n:Nat),n<f->∀m,(set x f t n).get m=if m=n then some x else t.get m:=by
 intro f
 induction f with
 | zero=>intro t n ao;omega
 | succ f aN=>
  intro t n ao m;have key:∀(v:Option α) (l r:dA α) (n:Nat),n+1<f+1->(cond (Nat.beq (Nat.mod n 2) 0) (dA.node v (set x f l (Nat.div n 2)) r) (.node v l (set x f r (Nat.div n 2)))).get m=if m=n+1 then some x else (dA.node v l r).get m:=by
   intro v l r n ao;have hd:Nat.div n 2<f:=by have:Nat.div n 2=n/2:=rfl;omega
   cases m with
   | zero=>cases Nat.beq (Nat.mod n 2) 0<;>simp [KC]
   | succ m=>
    have e1:Nat.mod m 2=m%2:=rfl;have e2:Nat.mod n 2=n%2:=rfl;have e3:Nat.div m 2=m/2:=rfl;have e4:Nat.div n 2=n/2:=rfl;cases lV:Nat.beq (Nat.mod n 2) 0<;>cases gB:Nat.beq (Nat.mod m 2) 0<;>simp only [cond_true,cond_false,Bz,gB,aN _ _ hd]
    ·have h1:¬n%2=0:=fun h=>by rw [e2,h] at lV;cases lV
     have h2:¬m%2=0:=fun h=>by rw [e1,h] at gB;cases gB
     rw [e3,e4];by_cases PW:m=n
     ·subst PW;simp
     ·rw [if_neg (by omega),if_neg (by omega)]
    ·have h1:¬n%2=0:=fun h=>by rw [e2,h] at lV;cases lV
     have h2:m%2=0:=(beq_iff _ _).1 gB;rw [if_neg (by omega)]
    ·have h1:n%2=0:=(beq_iff _ _).1 lV;have h2:¬m%2=0:=fun h=>by rw [e1,h] at gB;cases gB
     rw [if_neg (by omega)]
    ·have h1:n%2=0:=(beq_iff _ _).1 lV;have h2:m%2=0:=(beq_iff _ _).1 gB;rw [e3,e4];by_cases PW:m=n
     ·subst PW;simp
     ·rw [if_neg (by omega),if_neg (by omega)]
  cases t with
  | nil=>
   cases n with
   | zero=>
    rw [set_nil_zero];cases m with
    | zero=>simp [KC]
    | succ m=>rw [Bz];simp [get_nil]
   | succ n=>
    rw [set_nil_succ,key none .nil .nil n ao];by_cases hm:m=n+1
    ·rw [if_pos hm,if_pos hm]
    ·rw [if_neg hm,if_neg hm];cases m with
     | zero=>rfl
     | succ m=>rw [Bz];simp [get_nil]
  | node v l r=>
   cases n with
   | zero=>
    rw [ac4];cases m with
    | zero=>simp [KC]
    | succ m=>simp [Bz]
   | succ n=>rw [ac5,key v l r n ao]
end dA
namespace aL
def set(H:aL)(b:Nat)(x:cn):aL:= {H with t:=dA.set x (b+1) H.t b}
def new(H:aL)(x:cn):aL:= {H with t:=dA.set x (H.ar+1) H.t H.ar,ar:=H.ar+1}
theorem nX{β:Type}(H:aL)(b:Nat)(x:cn)(k:aL->β):H.im b x k=k (H.set b x):=by rw [aL.im,dA.nX];rfl
theorem qZ{β:Type}(H:aL)(x:cn)(k:Nat->aL->β):H.qp x k=k H.ar (H.new x):=by rw [aL.qp,jH,dA.nX];rfl
theorem wT(H:aL)(b c:Nat)(x:cn):(H.set b x).t.get c=if c=b then some x else H.t.get c:=dA.tu x _ _ _ (Nat.lt_succ_self _) _
theorem u9(H:aL)(c:Nat)(x:cn):(H.new x).t.get c=if c=H.ar then some x else H.t.get c:=dA.tu x _ _ _ (Nat.lt_succ_self _) _
theorem get_eq(H:aL)(c:Nat):H.get c=if dg H.bZ c=true then none else H.t.get c:=by unfold aL.get;cases dg H.bZ c<;>rfl
theorem get_some{H:aL}{c:Nat}{x:cn}(h:H.get c=some x):dg H.bZ c=false/\H.t.get c=some x:=by
 rw [get_eq] at h;split at h
 ·cases h
 ·rename_i hh;exact ⟨by simpa using hh,h⟩
theorem tu{H:aL}{b:Nat}{y:cn}(hb:H.get b=some y)(c:Nat)(x:cn):(H.set b x).get c=if c=b then some x else H.get c:=by
 rw [get_eq,get_eq,wT];show (if dg H.bZ c=true then none else _)=_;by_cases hc:c=b
 ·subst hc;rw [(get_some hb).1];simp
 ·simp [hc]
theorem w5{H:aL}(c:Nat)(x:cn):(H.new x).get c=if c=H.ar then (if dg H.bZ c=true then none else some x) else H.get c:=by
 rw [get_eq,get_eq,u9];show (if dg H.bZ c=true then none else _)=_;by_cases hc:c=H.ar
 ·subst hc;simp
 ·simp [hc]
end aL
abbrev bq:=Nat->Option (Nat×Nat)
def bq.aD(ρ bA:bq):Prop:=∀c x,ρ c=some x->bA c=some x
theorem bq.aD.refl(ρ:bq):ρ.aD ρ:=fun _ _ h=>h
theorem bq.aD.trans{a b c:bq}(h:a.aD b)(k:b.aD c):a.aD c:=fun x y e=>k x y (h x y e)
def jv(k c:Nat):Nat:=bif lK c then k- (dj- c) else c
mutual
inductive bw(ρ:bq):Value->Value->Prop
 | bool (b:Bool):bw ρ (.bool b) (.bool b)
 | int (k:IntKind) (n:Int):bw ρ (.int k n) (.int k n)
 | string (s:ByteArray):bw ρ (.string s) (.string s)
 | O8:bw ρ (.pointer none) (.pointer none)
 | ptr {c b k:Nat} (o:Nat) (e:ρ c=some (b,k)):bw ρ (.pointer (some ⟨c,o,none⟩)) (.pointer (some ⟨b,o,none⟩))
 | vS (n c:Nat):bw ρ (.slice none n c) (.slice none n c)
 | sl {c b k:Nat} (o n m:Nat) (e:ρ c=some (b,k)):bw ρ (.slice (some ⟨c,o,none⟩) n m) (.slice (some ⟨b,o,none⟩) n (jv k m))
 | O9:bw ρ (.map none) (.map none)
 | map {c b k:Nat} (e:ρ c=some (b,k)):bw ρ (.map (some c)) (.map (some b))
 | func (f:FuncId) {x x' y c8:List Value} (h:cV ρ x x') (k:cV ρ y c8):bw ρ (.func (.func f) ⟨x⟩ ⟨y⟩) (.func (.func f) ⟨x'⟩ ⟨c8⟩)
 | nilFunc:bw ρ .nilFunc .nilFunc
 | iface (t:TypeId) {v bQ:Value} (h:bw ρ v bQ):bw ρ (.iface t v) (.iface t bQ)
 | nilIface:bw ρ .nilIface .nilIface
 | agg {x x':List Value} (h:cV ρ x x'):bw ρ (.agg ⟨x⟩) (.agg ⟨x'⟩)
 | tuple {x x':List Value} (h:cV ρ x x'):bw ρ (.tuple ⟨x⟩) (.tuple ⟨x'⟩)
inductive cV(ρ:bq):List Value->List Value->Prop
 | nil:cV ρ [] []
 | cons {v bQ:Value} {l dG:List Value} (h:bw ρ v bQ) (k:cV ρ l dG):cV ρ (v::l) (bQ::dG)
end
section
variable{ρ bA:bq}
theorem bw.mono(le:ρ.aD bA){v bQ:Value}(h:bw ρ v bQ):bw bA v bQ:=
 bw.rec (motive_1:=fun v bQ _=>bw bA v bQ) (motive_2:=fun l dG _=>cV bA l dG) (fun b=>.bool b) (fun k n=>.int k n) (fun s=>.string s) .O8 (fun o e=>.ptr o (le _ _ e)) (fun n c=>.vS n c) (fun o n m e=>.sl o n m (le _ _ e)) .O9 (fun e=>.map (le _ _ e))
  (fun f {_ _ _ _} _ _ a b=>.func f a b) .nilFunc (fun t {_ _} _ a=>.iface t a) .nilIface (fun {_ _} _ a=>.agg a) (fun {_ _} _ a=>.tuple a) .nil (fun {_ _ _ _} _ _ a b=>.cons a b) h
theorem cV.mono(le:ρ.aD bA){l dG:List Value}(h:cV ρ l dG):cV bA l dG:=by
 induction l generalizing dG with
 | nil=>cases h;exact .nil
 | cons v l aN=>cases h with|cons a b=>exact .cons (a.mono le) (aN b)
theorem cV.length{l dG:List Value}(h:cV ρ l dG):dG.length=l.length:=by
 induction l generalizing dG with
 | nil=>cases h;rfl
 | cons v l aN=>cases h with|cons a b=>simp [aN b]
theorem cV.append{a fh b b9:List Value}(h:cV ρ a fh)(k:cV ρ b b9):cV ρ (a++b) (fh++b9):=by
 induction a generalizing fh with
 | nil=>cases h;exact k
 | cons v l aN=>cases h with|cons x y=>exact .cons x (aN y)
theorem cV.take{l dG:List Value}(h:cV ρ l dG)(n:Nat):cV ρ (l.take n) (dG.take n):=by
 induction l generalizing dG n with
 | nil=>cases h;simpa using cV.nil
 | cons v l aN=>cases h with|cons x y=>cases n with|zero=>exact .nil|succ n=>exact .cons x (aN y n)
theorem cV.drop{l dG:List Value}(h:cV ρ l dG)(n:Nat):cV ρ (l.drop n) (dG.drop n):=by
 induction l generalizing dG n with
 | nil=>cases h;simpa using cV.nil
 | cons v l aN=>cases h with|cons x y=>cases n with|zero=>exact .cons x y|succ n=>exact aN y n
theorem cV.hv{l dG vs ev:List Value}(h:cV ρ l dG)(k:cV ρ vs ev)(j:Nat):cV ρ (hv j vs l) (hv j ev dG):=by
 unfold Nk.hv;rw [<- k.length];exact ((h.take j).append k).append (h.drop _)
theorem cV.get{l dG:List Value}(h:cV ρ l dG){n:Nat}{v:Value}(e:l[n]? =some v):∃bQ,dG[n]? =some bQ/\bw ρ v bQ:=by
 induction l generalizing dG n with
 | nil=>simp at e
 | cons a l aN=>
  cases h with
  | cons x y=>
   cases n with
   | zero=>simp at e;subst e;exact ⟨_,rfl,x⟩
   | succ n=>exact aN y (by simpa using e)
theorem cV.one{v bQ:Value}(h:bw ρ v bQ):cV ρ [v] [bQ]:=.cons h .nil
theorem bw.cells{v bQ:Value}(h:bw ρ v bQ):cV ρ (ew v) bQ.cells.toList:=by
 cases h<;>simp only [ew,Value.cells,Array.toList]<;>first
  | assumption
  | exact .one (by constructor<;>assumption)
  | exact .one (by constructor)
theorem bw.one{v bQ:Value}(h:bw ρ v bQ):jG bQ=jG v:=by cases h<;>rfl
theorem cV.YO{l dG:List Value}(h:cV ρ l dG):qa dG=qa l:=by
 induction l generalizing dG with
 | nil=>cases h;rfl
 | cons v l aN=>cases h with|cons x y=>simp [qa,x.one,aN y]
theorem bw.undef:bw ρ undef undef:=.tuple .nil
end
def cn.live:cn->Bool
 | .dead=>false
 | _=>true
def mm(ρ:bq):List (Value×Value×Nat)->List MapEntry->Prop
 | [],[]=>True
 | (k,v,n)::l,e::m=>bw ρ k e.key/\bw ρ v e.val/\e.born=n/\mm ρ l m
 | _,_=>False
theorem mm.mono{ρ bA:bq}(le:ρ.aD bA):∀{l:List (Value×Value×Nat)} {m:List MapEntry},mm ρ l m->mm bA l m
 | [],[],_=>trivial
 | (k,v,n)::l,e::m,⟨a,b,c,d⟩=>⟨a.mono le,b.mono le,c,mm.mono le d⟩
 | [],_::_,h=>h.elim
 | _::_,[],h=>h.elim
def Bk(P:Program)(ρ:bq)(k:Nat)(x:cn)(o:Option eI):Prop:=
 match x with
 | .dead=>True
 | .cs own lo t c=>∃arr fr b2 rest,o=some ⟨.cells arr t (0,0),fr⟩/\(own=true->fr=true)/\arr.toList=b2++rest/\cV ρ c b2/\(lo=false->rest=[])/\(lo=true->∃bo,cy P t=some bo/\arr.size=k*bo)
 | .mp own es ck=>∃nC fr,o=some ⟨.map nC ck,fr⟩/\(own=true->fr=true)/\mm ρ es nC.toList
theorem Bk.mono{P:Program}{ρ bA:bq}(le:ρ.aD bA){k:Nat}{x:cn}{o:Option eI}(h:Bk P ρ k x o):Bk P bA k x o:=by
 cases x with
 | dead=>trivial
 | cs own lo t c=>obtain ⟨arr,fr,b2,rest,h1,h2,h3,h4,h5⟩:=h;exact ⟨arr,fr,b2,rest,h1,h2,h3,h4.mono le,h5⟩
 | mp own es ck=>obtain ⟨nC,fr,h1,h2,h3⟩:=h;exact ⟨nC,fr,h1,h2,h3.mono le⟩
theorem Bk.isSome{P:Program}{ρ:bq}{k:Nat}{x:cn}{o:Option eI}(h:Bk P ρ k x o)(af:x.live=true):∃y,o=some y:=by
 cases x with
 | dead=>cases af
 | cs own lo t c=>obtain ⟨arr,fr,b2,rest,h1,_⟩:=h;exact ⟨_,h1⟩
 | mp own es ck=>obtain ⟨nC,fr,h1,_⟩:=h;exact ⟨_,h1⟩
structure cD(P:Program)(bj:Nat)(ρ:bq)(G:Nat->Option cn)(ar:Nat)(h:ab):Prop where
 blk:∀c x,G c=some x->∃b k,ρ c=some (b,k)/\Bk P ρ k x (h b)
 inj:∀c d x y b k k',G c=some x->G d=some y->x.live=true->y.live=true->ρ c=some (b,k)->ρ d=some (b,k')->c=d
 ek:∀c,ar<=c->ρ c=none
 sn:∀g,g<bj->ρ g=some (g,0)
def gH(H:aL)(c:Nat):Prop:=H.cg<=c/\∃x,H.get c=some x/\x.live=true
structure gu(H:aL)(ρ:bq)(h:ab)(H':aL)(bA:bq)(h':ab):Prop where
 le:ρ.aD bA
 old:∀c,c<H.ar->bA c=ρ c
 ar:H.ar<=H'.ar
 cg:H'.cg=H.cg
 bZ:H'.bZ=H.bZ
 can:∀c,c<H.ar->¬gH H c->H'.t.get c=H.t.get c
 mq:∀b x,h b=some x->(∀c k,gH H c->ρ c≠some (b,k))->h' b=some x
 lW:∀c x b k,H'.get c=some x->H.ar<=c->x.live=true->bA c=some (b,k)->h b=none\/∃dK k0,gH H dK/\ρ dK=some (b,k0)
theorem gu.refl{P:Program}{bj:Nat}{H:aL}{ρ:bq}{h:ab}(S:cD P bj ρ H.get H.ar h):gu H ρ h H ρ h:=
 ⟨.refl ρ,fun _ _=>rfl,Nat.le_refl _,rfl,rfl,fun _ _ _=>rfl,fun _ _ e _=>e,fun c x b k aG ao af al=>by rw [S.ek c ao] at al;cases al⟩
theorem gH.back{H H':aL}{ρ bA:bq}{h h':ab}(F:gu H ρ h H' bA h'){c:Nat}(hc:c<H.ar)(hw:gH H' c):gH H c:=by
 refine Classical.byContradiction fun ao=>ao ?_;obtain ⟨h1,x,h2,h3⟩:=hw;have e:=F.can c hc ao;refine ⟨by rw [<- F.cg];exact h1,x,?_,h3⟩;rw [aL.get_eq] at h2 ⊢;rw [F.bZ,e] at h2;exact h2
theorem gu.trans{P:Program}{bj:Nat}{H H' ZM:aL}{ρ bA YP:bq}{h h' oT:ab}(S:cD P bj ρ H.get H.ar h)(o5:cD P bj bA H'.get H'.ar h')(F:gu H ρ h H' bA h')(K:gu H' bA h' ZM YP oT):gu H ρ h ZM YP oT:=by
 have YQ:∀dK b k0,gH H' dK->bA dK=some (b,k0)->h b=none\/∃c1 k1,gH H c1/\ρ c1=some (b,k1):=fun dK b k0 hw al=>by
  rcases Nat.lt_or_ge dK H.ar with hc|hc
  ·have qy:=gH.back F hc hw;obtain ⟨_,x,aa,af⟩:=qy;obtain ⟨b9,k',eu,_⟩:=S.blk dK x aa;have:=F.le _ _ eu;rw [al] at this;cases this;exact .inr ⟨dK,k0,gH.back F hc hw,eu⟩
  ·obtain ⟨_,x,aa,af⟩:=hw;exact F.lW dK x b k0 aa hc af al
 refine ⟨F.le.trans K.le,fun c hc=>(K.old c (Nat.lt_of_lt_of_le hc F.ar)).trans (F.old c hc),Nat.le_trans F.ar K.ar,K.cg.trans F.cg,K.bZ.trans F.bZ,fun c hc ao=> ?_,fun b x hb hg=> ?_,fun c x b k aG ao af al=> ?_⟩
 ·rw [K.can c (Nat.lt_of_lt_of_le hc F.ar) (fun hw=>ao (gH.back F hc hw)),F.can c hc ao]
 ·refine K.mq b x (F.mq b x hb hg) fun c k hw al=> ?_;rcases YQ c b k hw al with h0|⟨c1,k1,PX,gg⟩
  ·rw [hb] at h0;cases h0
  ·exact hg c1 k1 PX gg
 ·have out:∀b,h' b=none->h b=none\/∃dK k0,gH H dK/\ρ dK=some (b,k0):=fun b hb=>by
   refine Classical.byContradiction fun hg=> ?_;cases aa:h b with
   | none=>exact hg (.inl aa)
   | some y=>
    have:=F.mq b y aa fun dK k0 hw al=>hg (.inr ⟨dK,k0,hw,al⟩);rw [hb] at this;cases this
  rcases Nat.lt_or_ge c H'.ar with hc|hc
  ·by_cases hw:gH H' c
   ·obtain ⟨_,y,ax,ug⟩:=hw;obtain ⟨b9,k',eu,_⟩:=o5.blk c y ax;have:=K.le _ _ eu;rw [al] at this;cases this;exact F.lW c y b k ax ao ug eu
   ·have e:=K.can c hc hw;have ax:H'.get c=some x:=by
     rw [aL.get_eq] at aG ⊢;rw [K.bZ,e] at aG;exact aG
    obtain ⟨b9,k',eu,_⟩:=o5.blk c x ax;have:=K.le _ _ eu;rw [al] at this;cases this;exact F.lW c x b k ax ao af eu
  ·rcases K.lW c x b k aG hc af al with h0|⟨dK,k0,hw,vT⟩
   ·exact out b h0
   ·exact YQ dK b k0 hw vT
end
def B8:Value->Bool
 | .bool _=>true
 | .int _ _=>true
 | .string _=>true
 | .pointer none=>true
 | .slice none _ _=>true
 | .map none=>true
 | .func (.func _) ⟨[]⟩ ⟨[]⟩=>true
 | .nilFunc=>true
 | .nilIface=>true
 | _=>false
def lL:List Value->Bool
 | []=>true
 | v::l=>B8 v&&lL l
def B9:Value->Bool
 | .agg ⟨l⟩=>lL l
 | v=>B8 v
theorem EX{ρ:bq}{v:Value}(h:B8 v=true):bw ρ v v:=by
 unfold B8 at h;split at h<;>first|cases h|skip
 all_goals first
  | exact .bool _|exact .int _ _|exact .string _|exact .O8|exact .vS _ _|exact .O9|exact .func _ .nil .nil|exact .nilFunc|exact .nilIface
theorem wP{ρ:bq}:∀{l:List Value},lL l=true->cV ρ l l
 | [],_=>.nil
 | v::l,h=>by simp only [lL,Bool.and_eq_true] at h;exact .cons (EX h.1) (wP h.2)
theorem Up{ρ:bq}{v:Value}(h:B9 v=true):bw ρ v v:=by
 unfold B9 at h;split at h
 ·exact .agg (wP h)
 ·exact EX h
theorem tn(v:Value):ew v=v.cells.toList:=by
 unfold ew;split
 ·rfl
 ·rename_i h;cases v<;>first|rfl|skip
  rename_i c;exact absurd rfl (h c.toList)
def placesOf(P:Program)(t:TypeId)(i:Nat):Option (Nat×Nat):=
 match P.underlying t with
 | some (.struct fs)=>match fs[i]? with
  | some f=>match cy P f.type with|some n=>some (f.offset,n)|none=>none
  | none=>none
 | some (.array _ e)=>match cy P e with|some n=>some (i*n,n)|none=>none
 | _=>none
def partsOf(P:Program)(t:TypeId):List (Nat×Operand)->Option (List (Nat×Nat×Operand))
 | []=>some []
 | (i,x)::l=>match placesOf P t i,partsOf P t l with
  | some (o,n+1),some r=>some ((o,n+1,x)::r)
  | _,_=>none
def Fg(P:Program)(t:TypeId):Bool:=
 match P.underlying t with
 | some (.struct fs)=>fs.toList.all fun f=>(cy P f.type).isSome
 | some (.array _ e)=>(cy P e).isSome
 | _=>false
def rowOf(n:Nat):List (Nat×Operand)->List (Nat×Nat×Operand)
 | []=>[]
 | (i,x)::l=>(i*n,n,x)::rowOf n l
def BQ(f:TypeId->Option Nat):List Field->Nat->Option Nat
 | [],o=>some o
 | x::l,o=>match f x.type with
  | some n=>cond (Nat.beq x.offset o&&x.name != "_") (BQ f l (o+n)) none
  | none=>none
def ra(P:Program):Nat->TypeId->Option Nat
 | 0,_=>none
 | d+1,t=>match P.underlying t with
  | some (.int _)=>some 1
  | some (.struct fs)=>match cy P t with
   | some m=>cond (P.stoodInHeld t) none (match BQ (ra P d) fs.toList 0 with|some n=>cond (Nat.beq n m) (some n) none|none=>none)
   | none=>none
  | some (.array k el)=>match ra P d el,cy P el,cy P t with
   | some n,some n',some m=>cond (Nat.beq n n'&&Nat.beq (k*n) m) (some (k*n)) none
   | _,_,_=>none
  | _=>none
def vg:TypeDesc->Bool
 | .struct _=>true
 | .array _ _=>true
 | _=>false
def FZ(P:Program)(t:TypeId):Option Nat:=cond (P.eqGuardType P.depth t) none (cond (vg ((P.underlying t).getD .invalid)) (ra P 6 t) none)
def XZ(P:Program)(t:TypeId):Option Jn:=
 match P.underlying t with
 | some (.int _)=>some .int
 | some .bool=>some .bool
 | some .string=>some .string
 | some (.slice _)=>some .slice
 | some (.struct _)=>match FZ P t with|some n=>some (.flat n)|none=>none
 | some (.array _ _)=>match FZ P t with|some n=>some (.flat n)|none=>none
 | _=>none
def pB(P:Program)(t:TypeId):Option Bool:=
 match P.underlying t with
 | some (.int _)=>some false
 | some .string=>some true
 | _=>none
def bytesOf(P:Program)(t:TypeId):Option Nat:=(P.info? t).map (·.bytes)
def q0(P:Program)(o:Oper):dr:=
 match o.op with
 | .move x=>.mv x
 | .assign x=>.mv x
 | .pick c x y=>.pick c x y
 | .alloc t=>match zeroOf P t with
  | some z=>cond (lL (ew z)) (cond (CW t) .bad (.alloc t (ew z))) .bad
  | none=>.bad
 | .box t x=>match cy P t with|some n=>.box t n x|none=>.bad
 | .build t bF=>match zeroOf P t,partsOf P t bF.toList with
  | some z,some l=>cond (lL (ew z)&&Fg P t) (.build (ew z) l) .bad
  | _,_=>.bad
 | .buildSlice t n bF=>match P.underlying t with
  | some (.slice e)=>match zeroOf P e,cy P e with
   | some z,some m=>cond (lL (ew z)&&Nat.beq (ew z).length m&&Nat.ble 1 m&&Nat.ble (n*m) 10000) (.buildSlice e m n (ew z) (rowOf m bF.toList)) .bad
   | _,_=>.bad
  | _=>.bad
 | .load t x=>match gq P t with
  | some none=>.H7 x
  | some (some n)=>.H8 n x
  | none=>.bad
 | .store t x y=>match cy P t with|some n=>.st n x y|none=>.bad
 | .nilCheck x=>.GN x
 | .binOp op t x y _=>match XZ P t with|some k=>.bin op k x y|none=>.bad
 | .unOp op _ x=>.un op x
 | .convert s t x=>match P.underlying s,P.underlying t with
  | some (.int _),some (.int k)=>.conv k x
  | _,_=>.bad
 | .makeInterface t x=>match P.underlying t with
  | some (.interface _)=>.bad
  | some _=>.H9 t x
  | none=>.bad
 | .makeFunc (.func f) xs kZ=>.PU f xs.toList kZ.toList
 | .makeMap _ none=>.mkMap
 | .makeSlice t x y=>match P.underlying t with
  | some (.slice e)=>match zeroOf P e,cy P e,bytesOf P e with
   | some z,some m,some bs=>cond (lL (ew z)&&Nat.beq (ew z).length m&&Nat.ble 1 m) (.mkSlice e m bs (ew z) x y) .bad
   | _,_,_=>.bad
  | _=>.bad
 | .slice t x lo hi bB=>match P.underlying t with
  | some .string=>match bB with|none=>.sF x lo hi|some _=>.bad
  | some (.slice e)=>match cy P e with|some n=>cond ((hi.isSome||bB.isNone)&&Nat.ble 1 n) (.sl e n x lo hi bB) .bad|none=>.bad
  | some (.array n e)=>match cy P e with|some m=>cond ((hi.isSome||bB.isNone)&&Nat.ble n 1000000) (.Ia n m x lo hi bB) .bad|none=>.bad
  | _=>.bad
 | .fieldAddr t x i=>match P.underlying t with
  | some (.struct fs)=>match fs[i]? with
   | some f=>match cy P f.type with|some (_+1)=>.Ib f.offset x|_=>.bad
   | none=>.bad
  | _=>.bad
 | .indexAddr t x y=>match P.underlying t with
  | some (.slice e)=>match cy P e with|some n=>.idx n x y|none=>.bad
  | some (.array n e)=>match cy P e with|some m=>.Hw n m x y|none=>.bad
  | _=>.bad
 | .index t x y=>match P.underlying t with
  | some .string=>.Ic x y
  | some (.array n e)=>match gq P e with
   | some none=>match cy P e with|some m=>.CX n m false x y|none=>.bad
   | some (some m)=>.CX n m true x y
   | none=>.bad
  | _=>.bad
 | .lookup t x y k=>match P.underlying t with
  | some (.map ov e)=>match pB P ov,zeroOf P e with
   | some s,some z=>cond (B9 z) (.lookup s z k x y) .bad
   | _,_=>.bad
  | _=>.bad
 | .mapUpdate t m k v=>match P.underlying t with
  | some (.map ov _)=>match pB P ov with|some s=>.GO s m k v|none=>.bad
  | _=>.bad
 | .extract x i=>.ext x i
 | .call ⟨.value (.func f),b8,_⟩=>.call f b8.toList
 | .call ⟨.value x,b8,_⟩=>.Oj x b8.toList
 | .call ⟨.builtin .len,⟨[x]⟩,⟨[t]⟩⟩=>match P.underlying t with
  | some .string=>.Hy x
  | some (.slice _)=>.Hx x
  | some (.array n _)=>.O7 n
  | _=>.bad
 | .call ⟨.builtin .max,⟨[x,y]⟩,_⟩=>.max2 x y
 | .call ⟨.builtin .append,⟨[x,y]⟩,⟨[t,t2]⟩⟩=>match P.underlying t,P.underlying t2 with
  | some (.slice e),some (.slice _)=>match cy P e,bytesOf P e,zeroOf P e with
   | some m,some bs,some z=>cond (Nat.ble 1 m&&Nat.beq (ew z).length m&&Nat.ble 1 bs) (.app e m bs x y) .bad
   | _,_,_=>.bad
  | _,_=>.bad
 | .call ⟨.builtin .copy,⟨[x,y]⟩,⟨t::_⟩⟩=>match P.underlying t with
  | some (.slice e)=>match cy P e with|some m=>.copy m x y|none=>.bad
  | _=>.bad
 | .call ⟨.builtin .clear,⟨[x]⟩,⟨[t]⟩⟩=>match P.underlying t with
  | some (.slice e)=>match zeroOf P e with
   | some z=>cond (lL (ew z)&&Nat.ble 1 (ew z).length) (.clear (ew z) x) .bad
   | none=>.bad
  | _=>.bad
 | _=>.bad
def e9(P:Program)(ops:Array Oper)(o:Oper):nQ:=
 match o.guard with
 | none=>⟨o.dst,none,q0 P o⟩
 | some (j,w)=>match (ops[j]?).bind (·.dst) with
  | some t=>⟨o.dst,some (t,w),q0 P o⟩
  | none=>⟨o.dst,none,.bad⟩
def vw(acc:List Nat):List Edge->Nat->Nat
 | [],s=>s
 | e::l,s=>cond (Region.binds .any e) (vw acc l (s ||| (2^e.on ||| (nth acc e.on).getD 0))) (vw acc l s)
def kP:List Oper->List Nat->List Nat
 | [],acc=>acc
 | o::l,acc=>kP l (acc++[vw acc o.after.toList 0])
def comp(P:Program)(cz:Nat->List (Nat×Nat)):Code->ng
 | .skip=>.skip
 | .label _=>.skip
 | .seq x y=>.seq (comp P cz x) (comp P cz y)
 | .cond c x y=>.cond c (comp P cz x) (comp P cz y)
 | .block id c=>.block id (comp P cz c)
 | .loop c=>.loop (comp P cz c)
 | .exit id=>.exit id
 | .ret=>.ret
 | .scope c=>comp P cz c
 | .region id ops draw=>cond draw (.draw (ops.toList.map (e9 P ops)) (kP ops.toList []) (cz id)) (.reg (ops.toList.map (e9 P ops)))
 | _=>.bad
def ake(P:Program):ResultVar->Option (Nat×Option (Bool×Nat))
 | .tmp t=>some (t,none)
 | .cell a t=>match gq P t with
  | some none=>some (a,some (false,1))
  | some (some n)=>some (a,some (true,n))
  | none=>none
def dr.dq:dr->List Operand
 | .mv x=>[x]
 | .pick c x y=>[c,x,y]
 | .alloc _ _=>[]
 | .box _ _ x=>[x]
 | .build _ bF=>bF.map (·.2.2)
 | .buildSlice _ _ _ _ bF=>bF.map (·.2.2)
 | .H7 x=>[x]
 | .H8 _ x=>[x]
 | .st _ x y=>[x,y]
 | .GN x=>[x]
 | .bin _ _ x y=>[x,y]
 | .un _ x=>[x]
 | .conv _ x=>[x]
 | .H9 _ x=>[x]
 | .PU _ xs kZ=>xs++kZ
 | .mkMap=>[]
 | .mkSlice _ _ _ _ x y=>[x,y]
 | .sF x lo hi=>x::(lo.toList++hi.toList)
 | .sl _ _ x lo hi bB=>x::(lo.toList++(hi.toList++bB.toList))
 | .Ia _ _ x lo hi bB=>x::(lo.toList++(hi.toList++bB.toList))
 | .Ib _ x=>[x]
 | .idx _ x y=>[x,y]
 | .Hw _ _ x y=>[x,y]
 | .CX _ _ _ x y=>[x,y]
 | .Ic x y=>[x,y]
 | .lookup _ _ _ x y=>[x,y]
 | .GO _ m k v=>[m,k,v]
 | .ext x _=>[x]
 | .call _ b8=>b8
 | .Oj x b8=>x::b8
 | .Hx x=>[x]
 | .Hy x=>[x]
 | .O7 _=>[]
 | .max2 x y=>[x,y]
 | .app _ _ _ x y=>[x,y]
 | .copy _ x y=>[x,y]
 | .clear _ x=>[x]
 | .bad=>[]
def vn(bj:Nat):Operand->Bool
 | .tmp _=>true
 | .const v=>B8 v
 | .global g=>Nat.blt g bj
 | .func _=>true
def ng.hV(bj:Nat):ng->Bool
 | .seq x y=>x.hV bj&&y.hV bj
 | .cond c x y=>vn bj c&&(x.hV bj&&y.hV bj)
 | .block _ x=>x.hV bj
 | .loop x=>x.hV bj
 | .reg ops=>ops.all fun o=>o.op.dq.all (vn bj)
 | .draw ops _ _=>ops.all fun o=>o.op.dq.all (vn bj)
 | _=>true
def nu:Nat->List Oper->Bool
 | _,[]=>true
 | i,o::l=>(o.after.toList.all fun x=> !Region.binds .any x||Nat.blt x.on i)&&nu (i+1) l
def tmpsOf:List Operand->List Nat
 | []=>[]
 | .tmp t::l=>t::tmpsOf l
 | _::l=>tmpsOf l
def nQ.reads(o:nQ):List Nat:=(match o.g with|some (t,_)=>[t]|none=>[])++tmpsOf o.op.dq
def allI{α:Type}(f:Nat->α->Bool):Nat->List α->Bool
 | _,[]=>true
 | i,a::l=>f i a&&allI f (i+1) l
def gA(bef:List Nat)(i:Nat):Nat:=(nth bef i).getD 0
def WT(xs:List nQ)(bef:List Nat)(cz:List (Nat×Nat)):Bool:=
 allI (fun i a=>Nat.blt (gA bef i) (2^i)&&allI (fun k b=>Nat.beq i k||(match b.dst with
  | none=>true
  | some t=> !(a.dst==some t)&&((Nat.testBit (gA bef i) k||Nat.testBit (gA bef k) i)|| !(a.reads.contains t)))) 0 xs
  && (match a.dst with|none=>true|some t=> !(a.reads.contains t)&&cz.all fun p=> !(Nat.beq p.2 t))) 0 xs
def iu(P:Program)(cz:Nat->List (Nat×Nat)):Code->Bool
 | .seq x y=>iu P cz x&&iu P cz y
 | .cond _ x y=>iu P cz x&&iu P cz y
 | .block _ x=>iu P cz x
 | .loop x=>iu P cz x
 | .scope x=>iu P cz x
 | .region id ops draw=>cond draw (nu 0 ops.toList&&WT (ops.toList.map (e9 P ops)) (kP ops.toList []) (cz id)) true
 | _=>true
end
end Go.Nk
