import GoSem.Core.Code
import GoSem.Core.View
import GoSem.Op.String
import Derived.WalkKit
import Derived.Deep.MidRow
import Derived.Deep.AppendSrc
import Derived.RangeFuncRecord
import Derived.Great.BuildSlice
import Derived.WalkLawsBesides
import Derived.ChangeKeysEq
import Derived.Deep.Upon
import Derived.MapKept
import Derived.Lib.LazyBuf
set_option linter.all false
namespace Go.Ev
inductive AV where
 | int (k:IntKind) (n:Int)
 | bool (b:Bool)
 | str (s:ByteArray)
 | nilp
 | nils
 | nilf
 | sl (full:Bool) (es:List (List AV))
 | rsl (id ver sz lo len:Nat) (full:Bool)
 | box (id off:Nat)
 | raddr (id ver i off:Nat)
 | saddr (es:List (List AV)) (i off:Nat)
 | fn (f:FuncId) (first caps:List AV)
 | yld (l:Nat)
 | mp (id:Nat)
 | nilm
 deriving Inhabited
inductive SV where
 | one (v:AV)
 | agg (cs:List AV)
 | tup (vs:List SV)
 | unk
 deriving Inhabited
def SV.undef:SV:=.tup []
def SV.av:SV→Option AV
 | .one v=>some v
 | _=>none
def SV.cells:SV→Option (List AV)
 | .one v=>some [v]
 | .agg cs=>some cs
 | _=>none
inductive Opd where
 | t (i:Nat)
 | c (v:SV)
 | f (id:FuncId)
 deriving Inhabited
def Opd.ev (s:Nat→SV):Opd→SV
 | .t i=>s i
 | .c v=>v
 | .f id=>.one (.fn id [] [])
inductive KK where
 | int (k:IntKind) | bool | str
 deriving Inhabited
inductive AOp where
 | mov (x:Opd)
 | pick (c a b:Opd)
 | alloc (z:List AV)
 | box (x:Opd)
 | build (z:List AV) (ps:List (Nat×Nat×Opd))
 | bslice (sz:Nat) (z:List AV) (len:Nat) (ps:List (Nat×Opd))
 | load (agg:Bool) (n:Nat) (a:Opd)
 | store (n:Nat) (a x:Opd)
 | fadr (off:Nat) (x:Opd)
 | fld (agg:Bool) (n off:Nat) (x:Opd)
 | iadr (sz:Nat) (x i:Opd)
 | iarr (sz len:Nat) (x i:Opd)
 | idxA (agg:Bool) (n sz len:Nat) (x i:Opd)
 | idxS (x i:Opd)
 | slic (sz:Nat) (x:Opd) (lo hi mx:Option Opd)
 | slcS (x:Opd) (lo hi:Option Opd)
 | bin (op:BinOp) (x y:Opd)
 | beq (neg:Bool) (x y:Opd)
 | un (op:UnOp) (x:Opd)
 | cnv (k:IntKind) (x:Opd)
 | mks (sz bytes:Nat) (z:List AV) (l c:Opd)
 | len (str:Bool) (x:Opd)
 | app (sz bytes:Nat) (x y:Opd)
 | cpy (sz:Nat) (x y:Opd)
 | call (byref:Bool) (f:FuncId) (args:List Opd)
 | callv (x:Opd) (args:List Opd)
 | ext (x:Opd) (i:Nat)
 | mkf (f:FuncId) (first caps:List Opd)
 | nilc (x:Opd)
 | eqn (neg:Bool) (x:Opd)
 | mkm
 | lkup (kt:KK) (z:SV) (commaOk:Bool) (x k:Opd)
 | mput (kt:KK) (x k v:Opd)
 | ment (kt:KK) (z:SV) (x k:Opd)
 | mset (x c v:Opd)
 | mclr (x:Opd)
 | mlen (x:Opd)
 | b2s (x:Opd)
 | eqa (neg:Bool) (ks:List KK) (x y:Opd)
 deriving Inhabited
inductive Lim where
 | no | nr | row
 | away (l:List Opd)
 deriving Inhabited
structure AOper where
 dst:Option Nat
 op:AOp
 guard:Option (Nat×Bool)
 lim:Lim
 deriving Inhabited
inductive ACode where
 | skip
 | reg (draw:Bool) (ops:List AOper) (na:Nat) (ks:List Nat)
 | regp (ops:List AOper) (pm:List (Nat×List (Nat×Opd))) (na:Nat) (ks:List Nat)
 | seq (a b:ACode)
 | cond (c:Opd) (a b:ACode)
 | block (id:Nat) (a:ACode)
 | loop (a:ACode)
 | exit (id:Nat)
 | ret
 | rangeF (g:Opd) (ps:List Nat) (asg body:ACode)
 deriving Inhabited
inductive Ex where
 | nrm | ext (id:Nat) | ret
 deriving Inhabited
structure ALoop where
 sl:Nat→SV
 ps:List Nat
 asg:ACode
 body:ACode
 st:LoopState
 pend:Option Ex
structure AEnt where
 key:AV
 val:SV
 born:Nat
inductive AObj where
 | box (cs:List AV)
 | row (sz:Nat) (es:List (List AV)) (ver:Nat)
 | map (es:List AEnt) (clock:Nat)
 | loop (l:ALoop)
 | dfr
 deriving Inhabited
structure St where
 sl:Nat→SV
 ob:Nat→Option AObj
 fz:Nat→Nat
 nx:Nat
inductive ARes where
 | tmp (t:Nat)
 | cell (t:Nat) (agg:Bool) (n:Nat)
 deriving Inhabited
def oo:List (Nat×AOp)→List AOper→List AOper
 | [],r=>r
 |(d,p)::l,r=>⟨some d,p,none,.no⟩::oo l r
structure AFn where
 code:ACode
 res:List ARes
 deriving Inhabited
def upd (ob:Nat→Option AObj) (id:Nat) (o:AObj):Nat→Option AObj:=fun k=>bif Nat.beq k id then some o else ob k
def raise (fz:Nat→Nat) (id n:Nat):Nat→Nat:=fun k=>bif Nat.beq k id then Nat.max (fz k) n else fz k
def sub (cs:List AV) (off n:Nat):Option (List AV):=bif Nat.ble (off+n) cs.length then some ((cs.drop off).take n) else none
def put (cs:List AV) (off:Nat) (xs:List AV):Option (List AV):=bif Nat.ble (off+xs.length) cs.length then some (cs.take off++xs++cs.drop (off+xs.length)) else none
def asOne (agg:Bool) (cs:List AV):Option SV:=bif agg then some (.agg cs) else match cs with | [v]=>some (.one v) | _=>none
def isInt:SV→Option Int
 | .one (.int _ n)=>some n
 | _=>none
def isBool:SV→Option Bool
 | .one (.bool b)=>some b
 | _=>none
def rowAt (ob:Nat→Option AObj) (id ver:Nat):Option (Nat×List (List AV)):=
 match ob id with
 | some (.row sz es v)=>bif Nat.beq v ver then some (sz,es) else none
 | _=>none
def loadAt (ob:Nat→Option AObj) (n:Nat):SV→Option (List AV)
 | .one (.box id off)=>match ob id with
  | some (.box cs)=>sub cs off n
  | _=>none
 | .one (.raddr id ver i off)=>match rowAt ob id ver with
  | some (_,es)=>match es[i]? with
   | some e=>sub e off n
   | none=>none
  | none=>none
 | .one (.saddr es i off)=>match es[i]? with
  | some e=>sub e off n
  | none=>none
 | _=>none
def okSz (sz:Nat):List (List AV)→Bool
 | []=>true
 | e::_=>Nat.beq e.length sz
def elems (ob:Nat→Option AObj) (sz:Nat):SV→Option (List (List AV))
 | .one .nils=>some []
 | .one (.sl _ es)=>bif okSz sz es then some es else none
 | .one (.rsl id ver _ lo len _)=>match rowAt ob id ver with
  | some (z,es)=>bif Nat.beq z sz&&Nat.ble (lo+len) es.length then some ((es.drop lo).take len) else none
  | none=>none
 | _=>none
def byteOf:List AV→Option Int
 | [.int .u8 n]=>some n
 | _=>none
def bytesOf:List (List AV)→Option (List Int)
 | []=>some []
 | e::r=>match byteOf e,bytesOf r with
  | some n,some l=>some (n::l)
  | _,_=>none
def byteStr (l:List Int):ByteArray:=l.foldl (fun r n=>r.push (UInt8.ofNat n.toNat)) ByteArray.empty
def lenOf (str:Bool):SV→Option Nat
 | .one .nils=>bif str then none else some 0
 | .one (.sl _ es)=>bif str then none else some es.length
 | .one (.rsl _ _ _ _ len _)=>bif str then none else some len
 | .one (.str s)=>bif str then some s.size else none
 | _=>none
def fill (s:Nat→SV):List (Nat×Nat×Opd)→List AV→Option (List AV)
 | [],cs=>some cs
 |(off,n,x)::r,cs=>match (x.ev s).cells with
  | some xs=>bif Nat.beq xs.length n then (match put cs off xs with | some cs'=>fill s r cs' | none=>none) else none
  | none=>none
def fillS (s:Nat→SV) (sz:Nat):List (Nat×Opd)→List (List AV)→Option (List (List AV))
 | [],es=>some es
 |(i,x)::r,es=>match (x.ev s).cells with
  | some xs=>bif Nat.beq xs.length sz&&Nat.blt i es.length then fillS s sz r (es.set i xs) else none
  | none=>none
def binI (op:BinOp) (k:IntKind) (a b:Int):Option AV:=
 match op with
 | .add=>some (.int k (k.wrap (a+b)))
 | .sub=>some (.int k (k.wrap (a-b)))
 | .mul=>some (.int k (k.wrap (a*b)))
 | .quo=>if b=0 then none else some (.int k (k.wrap (a.tdiv b)))
 | .rem=>if b=0 then none else some (.int k (a.tmod b))
 | .and=>some (.int k (k.wrap (BitVec.ofInt k.bits a&&&BitVec.ofInt k.bits b).toNat))
 | .or=>some (.int k (k.wrap (BitVec.ofInt k.bits a ||| BitVec.ofInt k.bits b).toNat))
 | .xor=>some (.int k (k.wrap (BitVec.ofInt k.bits a^^^BitVec.ofInt k.bits b).toNat))
 | .andNot=>some (.int k (k.wrap (BitVec.ofInt k.bits a&&& ~~~BitVec.ofInt k.bits b).toNat))
 | .eql=>some (.bool (a==b))
 | .neq=>some (.bool (a !=b))
 | .lss=>some (.bool (decide (a<b)))
 | .leq=>some (.bool (decide (a≤b)))
 | .gtr=>some (.bool (decide (a>b)))
 | .geq=>some (.bool (decide (a≥b)))
 | _=>none
def shiftI (op:BinOp) (k:IntKind) (a b:Int):Option AV:=
 if b<0 then none else
 match op with
 | .shl=>some (.int k (k.wrap (a*2^(min b.toNat k.bits))))
 | .shr=>some (.int k (a.fdiv (2^(min b.toNat k.bits))))
 | _=>none
def binS (op:BinOp) (a b:ByteArray):Option AV:=
 match op with
 | .add=>if ((a.size+b.size:Nat):Int)>IntKind.i64.max then none else some (.str (a++b))
 | .eql=>some (.bool (a.toList==b.toList))
 | .neq=>some (.bool !(a.toList==b.toList))
 | .lss=>some (.bool (Op.bytesLess a.toList b.toList))
 | .leq=>some (.bool (Op.bytesLess a.toList b.toList || a.toList==b.toList))
 | .gtr=>some (.bool !(Op.bytesLess a.toList b.toList || a.toList==b.toList))
 | .geq=>some (.bool !(Op.bytesLess a.toList b.toList))
 | _=>none
def binOf (op:BinOp):SV→SV→Option AV
 | .one (.int k a),.one (.int k' b)=>match op with
  | .shl | .shr=>shiftI op k a b
  | _=>if k=k' then binI op k a b else none
 | .one (.str a),.one (.str b)=>binS op a b
 | _,_=>none
def unOf (op:UnOp):SV→Option AV
 | .one (.int k n)=>match op with
  | .neg=>some (.int k (k.wrap (0-n)))
  | .xor=>some (.int k (k.wrap (BitVec.ofInt k.bits (if k.signed then-1 else k.max)^^^BitVec.ofInt k.bits n).toNat))
  | _=>none
 | .one (.bool b)=>match op with
  | .not=>some (.bool !b)
  | _=>none
 | _=>none
def natOf (i:Int):Option Nat:=if 0≤i then some i.toNat else none
def opt (s:Nat→SV) (d:Nat):Option Opd→Option Nat
 | none=>some d
 | some x=>match isInt (x.ev s) with
  | some i=>natOf i
  | none=>none
def slicOf (sz lo:Nat) (hi:Option Nat) (full:Bool):SV→Option AV
 | .one .nils=>bif Nat.beq (hi.getD 0) 0&&Nat.beq lo 0 then some .nils else none
 | .one (.sl fl es)=>
  let h:=hi.getD es.length
  bif okSz sz es&&Nat.ble lo h&&Nat.ble h es.length then some (.sl (full || (fl&&Nat.beq h es.length)) ((es.drop lo).take (h-lo))) else none
 | .one (.rsl id ver z l len fl)=>
  let h:=hi.getD len
  bif Nat.beq z sz&&Nat.ble lo h&&Nat.ble h len&&(!fl || full || Nat.beq h len) then some (.rsl id ver z (l+lo) (h-lo) (full || fl)) else none
 | _=>none
def mapFz {α β:Type} (g:(Nat→Nat)→α→Option ((Nat→Nat)×β)):(Nat→Nat)→List α→Option ((Nat→Nat)×List β)
 | fz,[]=>some (fz,[])
 | fz,x::r=>match g fz x with
  | some (fz',y)=>match mapFz g fz' r with
   | some (fz'',r')=>some (fz'',y::r')
   | none=>none
  | none=>none
def frz (ob:Nat→Option AObj):(d:Nat)→(fz:Nat→Nat)→AV→Option ((Nat→Nat)×AV)
 | 0,_,_=>none
 | d+1,fz,v=>match v with
  | .int k n=>some (fz,.int k n)
  | .bool b=>some (fz,.bool b)
  | .str s=>some (fz,.str s)
  | .nilp=>some (fz,.nilp)
  | .nilf=>some (fz,.nilf)
  | .nils=>some (fz,.sl false [])
  | .sl _ es=>some (fz,.sl false es)
  | .fn f [] []=>some (fz,.fn f [] [])
  | .rsl id ver _ lo len _=>match rowAt ob id ver with
   | some (_,es)=>bif Nat.ble (lo+len) es.length then
     match mapFz (mapFz (frz ob d)) (raise fz id (lo+len)) ((es.drop lo).take len) with
     | some (fz',es')=>some (fz',.sl false es')
     | none=>none
    else none
   | none=>none
  | _=>none
def DEPTH:Nat:=8
def frzS (ob:Nat→Option AObj) (fz:Nat→Nat):SV→Option ((Nat→Nat)×SV)
 | .one v=>match frz ob DEPTH fz v with
  | some (fz',v')=>some (fz',.one v')
  | none=>none
 | .agg cs=>match mapFz (frz ob DEPTH) fz cs with
  | some (fz',cs')=>some (fz',.agg cs')
  | none=>none
 | _=>none
def frzR (ob:Nat→Option AObj) (fz:Nat→Nat):SV→Option ((Nat→Nat)×SV)
 | .tup vs=>match mapFz (frzS ob) fz vs with
  | some (fz',vs')=>some (fz',.tup vs')
  | none=>none
 | v=>frzS ob fz v
structure Sto where
 ob:Nat→Option AObj
 fz:Nat→Nat
 nx:Nat
def Sto.empty:Sto:=⟨fun _=>none,fun _=>0,0⟩
inductive Callee where
 | fn (f:FuncId)
 | rnd (l:Nat)
abbrev Caller:=Callee→List SV→Sto→Option (SV×Sto)
inductive Eff where
 | val (v:SV)
 | new (o:AObj) (v:SV)
 | wr (id:Nat) (o:AObj) (v:SV)
 | fzd (fz:Nat→Nat) (v:SV)
 | all (s:Sto) (v:SV)
def callV (F:Caller) (f:FuncId) (args:List SV) (ob:Nat→Option AObj) (fz:Nat→Nat):Option Eff:=
 match mapFz (frzS ob) fz args with
 | some (fz',args')=>match F (.fn f) args' Sto.empty with
  | some (r,s)=>match frzR s.ob s.fz r with
   | some (_,r')=>some (.fzd fz' r')
   | none=>none
  | none=>none
 | none=>none
def keyEq:AV→AV→Option Bool
 | .int k a,.int k' b=>if k=k' then some (a==b) else none
 | .bool a,.bool b=>some (a==b)
 | .str a,.str b=>some (a==b)
 | _,_=>none
def findE (k:AV):List AEnt→Nat→Option (Option (Nat×AEnt))
 | [],_=>some none
 | e::r,i=>match keyEq k e.key with
  | some true=>some (some (i,e))
  | some false=>findE k r (i+1)
  | none=>none
def findB (born:Nat):List AEnt→Nat→Option (Nat×AEnt)
 | [],_=>none
 | e::r,i=>bif Nat.beq e.born born then some (i,e) else findB born r (i+1)
def keyIs:KK→AV→Bool
 | .int k,.int k' _=>decide (k'=k)
 | .bool,.bool _=>true
 | .str,.str _=>true
 | _,_=>false
def cellsEq:List KK→List AV→List AV→Option Bool
 | [],[],[]=>some true
 | k::ks,a::r,b::s=>bif keyIs k a&&keyIs k b then (match keyEq a b,cellsEq ks r s with | some p,some q=>some (p&&q) | _,_=>none) else none
 | _,_,_=>none
def ROOM:Nat:=140737488355328
def one (v:Option AV):Option Eff:=match v with | some v=>some (.val (.one v)) | none=>none
def evOp (F:Caller) (draw:Bool) (rb id:Nat) (st:St):AOp→Option Eff
 | .mov x=>some (.val (x.ev st.sl))
 | .pick c a b=>match isBool (c.ev st.sl) with
  | some b'=>some (.val (bif b' then a.ev st.sl else b.ev st.sl))
  | none=>none
 | .alloc z=>some (.new (.box z) (.one (.box id 0)))
 | .box x=>match (x.ev st.sl).cells with
  | some cs=>some (.new (.box cs) (.one (.box id 0)))
  | none=>none
 | .build z ps=>match fill st.sl ps z with
  | some cs=>some (.val (.agg cs))
  | none=>none
 | .bslice sz z len ps=>match fillS st.sl sz ps (List.replicate len z) with
  | some es=>some (.new (.row sz es 0) (.one (.rsl id 0 sz 0 len false)))
  | none=>none
 | .load agg n a=>
  let v:=a.ev st.sl
  let far:Bool:=match v with | .one (.box i _)=> !draw || Nat.blt i rb | .one (.raddr i _ _ _)=> !draw || Nat.blt i rb | _=>true
  bif far then (match loadAt st.ob n v with
   | some cs=>match asOne agg cs with
    | some v=>some (.val v)
    | none=>none
   | none=>none) else none
 | .store n a x=>match (x.ev st.sl).cells with
  | some xs=>bif Nat.beq xs.length n then (match a.ev st.sl with
   | .one (.box i off)=>match st.ob i with
    | some (.box cs)=>match put cs off xs with
     | some cs'=>some (.wr i (.box cs') SV.undef)
     | none=>none
    | _=>none
   | .one (.raddr i ver j off)=>match rowAt st.ob i ver with
    | some (sz,es)=>match es[j]? with
     | some e=>match put e off xs with
      | some e'=>bif Nat.ble (st.fz i) j then some (.wr i (.row sz (es.set j e') ver) SV.undef) else none
      | none=>none
     | none=>none
    | none=>none
   | _=>none) else none
  | none=>none
 | .fadr off x=>match x.ev st.sl with
  | .one (.box i o)=>some (.val (.one (.box i (o+off))))
  | .one (.raddr i ver j o)=>some (.val (.one (.raddr i ver j (o+off))))
  | .one (.saddr es j o)=>some (.val (.one (.saddr es j (o+off))))
  | _=>none
 | .fld agg n off x=>match x.ev st.sl with
  | .agg cs=>match sub cs off n with
   | some c=>match asOne agg c with
    | some v=>some (.val v)
    | none=>none
   | none=>none
  | _=>none
 | .iadr sz x i=>match isInt (i.ev st.sl) with
  | some n=>match natOf n with
   | some k=>match x.ev st.sl with
    | .one (.sl _ es)=>match es[k]? with
     | some e=>bif Nat.beq e.length sz then some (.val (.one (.saddr es k 0))) else none
     | none=>none
    | .one (.rsl r ver z lo len _)=>bif Nat.beq z sz&&Nat.blt k len then some (.val (.one (.raddr r ver (lo+k) 0))) else none
    | _=>none
   | none=>none
  | none=>none
 | .iarr sz len x i=>match isInt (i.ev st.sl) with
  | some n=>match natOf n with
   | some k=>bif Nat.blt k len then (match x.ev st.sl with
    | .one (.box r o)=>some (.val (.one (.box r (o+k*sz))))
    | .one (.raddr r ver j o)=>some (.val (.one (.raddr r ver j (o+k*sz))))
    | .one (.saddr es j o)=>some (.val (.one (.saddr es j (o+k*sz))))
    | _=>none) else none
   | none=>none
  | none=>none
 | .idxA agg n sz len x i=>match isInt (i.ev st.sl) with
  | some m=>match natOf m with
   | some k=>bif Nat.blt k len then (match x.ev st.sl with
    | .agg cs=>match sub cs (k*sz) n with
     | some c=>match asOne agg c with
      | some v=>some (.val v)
      | none=>none
     | none=>none
    | _=>none) else none
   | none=>none
  | none=>none
 | .idxS x i=>match isInt (i.ev st.sl),x.ev st.sl with
  | some m,.one (.str s)=>match natOf m with
   | some k=>match s[k]? with
    | some b=>some (.val (.one (.int .u8 b.toNat)))
    | none=>none
   | none=>none
  | _,_=>none
 | .slic sz x lo hi mx=>match opt st.sl 0 lo with
  | some l=>match hi with
   | none=>match mx with
    | none=>one (slicOf sz l none false (x.ev st.sl))
    | some _=>none
   | some h=>match opt st.sl 0 (some h) with
    | some h'=>match mx with
     | none=>one (slicOf sz l (some h') false (x.ev st.sl))
     | some m=>match opt st.sl 0 (some m) with
      | some m'=>bif Nat.beq m' h' then one (slicOf sz l (some h') true (x.ev st.sl)) else none
      | none=>none
    | none=>none
  | none=>none
 | .slcS x lo hi=>match x.ev st.sl with
  | .one (.str s)=>match opt st.sl 0 lo,opt st.sl s.size hi with
   | some l,some h=>bif Nat.ble l h&&Nat.ble h s.size then some (.val (.one (.str (s.extract l h)))) else none
   | _,_=>none
  | _=>none
 | .bin op x y=>one (binOf op (x.ev st.sl) (y.ev st.sl))
 | .beq neg x y=>match isBool (x.ev st.sl),isBool (y.ev st.sl) with
  | some a,some b=>some (.val (.one (.bool (bif neg then !(a==b) else a==b))))
  | _,_=>none
 | .eqa neg ks x y=>match x.ev st.sl,y.ev st.sl with
  | .agg cs,.agg ds=>match cellsEq ks cs ds with
   | some b=>some (.val (.one (.bool (bif neg then !b else b))))
   | none=>none
  | _,_=>none
 | .un op x=>one (unOf op (x.ev st.sl))
 | .cnv k x=>match x.ev st.sl with
  | .one (.int _ n)=>some (.val (.one (.int k (k.wrap n))))
  | _=>none
 | .mks sz bytes z l c=>match isInt (l.ev st.sl),isInt (c.ev st.sl) with
  | some l',some c'=>match natOf l',natOf c' with
   | some ln,some cn=>bif Nat.ble ln cn&&Nat.ble cn 9223372036854775807&&Nat.ble (bytes*cn) 281474976710656 then some (.new (.row sz (List.replicate ln z) 0) (.one (.rsl id 0 sz 0 ln false))) else none
   | _,_=>none
  | _,_=>none
 | .len str x=>match lenOf str (x.ev st.sl) with
  | some n=>some (.val (.one (.int .i64 n)))
  | none=>none
 | .app sz bytes x y=>match elems st.ob sz (y.ev st.sl) with
  | some ys=>match x.ev st.sl with
   | .one .nils=>match ys with
    | []=>some (.val (.one .nils))
    | _=>bif Nat.ble (ys.length*bytes) ROOM then some (.new (.row sz ys 0) (.one (.rsl id 0 sz 0 ys.length false))) else none
   | .one (.sl full es)=>match ys with
    | []=>some (.val (.one (.sl full es)))
    | _=>bif full&&okSz sz es&&Nat.ble ((es.length+ys.length)*bytes) ROOM then some (.new (.row sz (es++ys) 0) (.one (.rsl id 0 sz 0 (es.length+ys.length) false))) else none
   | .one (.rsl r ver zz lo len full)=>match rowAt st.ob r ver with
    | some (z,es)=>bif Nat.beq z sz&&Nat.ble (lo+len) es.length then (match ys with
     | []=>some (.val (.one (.rsl r ver zz lo len full)))
     | _=>bif Nat.ble ((len+ys.length)*bytes) ROOM then
       (bif full then some (.new (.row sz ((es.drop lo).take len++ys) 0) (.one (.rsl id 0 sz 0 (len+ys.length) false)))
        else bif Nat.beq lo 0&&Nat.beq len es.length then some (.wr r (.row sz (es++ys) (ver+1)) (.one (.rsl r (ver+1) sz 0 (len+ys.length) false))) else none)
      else none) else none
    | none=>none
   | _=>none
  | none=>none
 | .cpy sz x y=>match elems st.ob sz (y.ev st.sl) with
  | some ys=>match x.ev st.sl with
   | .one .nils=>some (.val (.one (.int .i64 0)))
   | .one (.rsl r ver _ lo len _)=>match rowAt st.ob r ver with
    | some (z,es)=>bif Nat.beq z sz&&Nat.ble (lo+len) es.length&&Nat.ble (st.fz r) lo then
      some (.wr r (.row sz (es.take lo++ys.take len++es.drop (lo+Nat.min ys.length len)) ver) (.one (.int .i64 (Nat.min ys.length len)))) else none
    | none=>none
   | _=>none
  | none=>none
 | .call byref f args=>bif byref then
   (match F (.fn f) (args.map (·.ev st.sl)) ⟨st.ob,st.fz,st.nx⟩ with
    | some (r,s)=>some (.all s r)
    | none=>none)
  else callV F f (args.map (·.ev st.sl)) st.ob st.fz
 | .callv x args=>match x.ev st.sl with
  | .one (.fn f [] [])=>callV F f (args.map (·.ev st.sl)) st.ob st.fz
  | .one (.fn f first caps)=>match F (.fn f) (first.map .one++args.map (·.ev st.sl)++caps.map .one) ⟨st.ob,st.fz,st.nx⟩ with
   | some (r,s)=>some (.all s r)
   | none=>none
  | .one (.yld l)=>match F (.rnd l) (args.map (·.ev st.sl)) ⟨st.ob,st.fz,st.nx⟩ with
   | some (r,s)=>some (.all s r)
   | none=>none
  | _=>none
 | .ext x i=>match x.ev st.sl with
  | .tup vs=>match vs[i]? with
   | some v=>some (.val v)
   | none=>none
  | _=>none
 | .mkf f first caps=>match first.mapM fun x=>(x.ev st.sl).av,caps.mapM fun x=>(x.ev st.sl).av with
  | some a,some b=>some (.val (.one (.fn f a b)))
  | _,_=>none
 | .nilc x=>match x.ev st.sl with
  | .one (.box i o)=>some (.val (.one (.box i o)))
  | .one (.raddr i v j o)=>some (.val (.one (.raddr i v j o)))
  | .one (.saddr es j o)=>some (.val (.one (.saddr es j o)))
  | .one (.fn f a b)=>some (.val (.one (.fn f a b)))
  | _=>none
 | .eqn neg x=>match x.ev st.sl with
  | .one .nils=>some (.val (.one (.bool !neg)))
  | .one (.sl _ (_::_))=>some (.val (.one (.bool neg)))
  | .one (.rsl ..)=>some (.val (.one (.bool neg)))
  | _=>none
 | .mkm=>some (.new (.map [] 0) (.one (.mp id)))
 | .lkup kt z commaOk x k=>match k.ev st.sl with
  | .one k=>bif keyIs kt k then (match x.ev st.sl with
   | .one .nilm=>some (.val (bif commaOk then .tup [z,.one (.bool false)] else z))
   | .one (.mp i)=>bif !draw || Nat.blt i rb then (match st.ob i with
    | some (.map es _)=>match findE k es 0 with
     | some none=>some (.val (bif commaOk then .tup [z,.one (.bool false)] else z))
     | some (some (_,e))=>some (.val (bif commaOk then .tup [e.val,.one (.bool true)] else e.val))
     | none=>none
    | _=>none) else none
   | _=>none) else none
  | _=>none
 | .mput kt x k v=>match k.ev st.sl with
  | .one k=>bif keyIs kt k then (match x.ev st.sl with
   | .one (.mp i)=>match st.ob i with
    | some (.map es c)=>match findE k es 0 with
     | some none=>some (.wr i (.map (es++[⟨k,v.ev st.sl,c⟩]) (c+1)) SV.undef)
     | some (some (j,e))=>some (.wr i (.map (es.set j ⟨k,v.ev st.sl,e.born⟩) c) SV.undef)
     | none=>none
    | _=>none
   | _=>none) else none
  | _=>none
 | .ment kt z x k=>match k.ev st.sl with
  | .one k=>bif keyIs kt k then (match x.ev st.sl with
   | .one (.mp i)=>match st.ob i with
    | some (.map es c)=>match findE k es 0 with
     | some none=>some (.wr i (.map (es++[⟨k,z,c⟩]) (c+1)) (.tup [z,.one (.int .i64 c)]))
     | some (some (j,e))=>some (.wr i (.map (es.set j ⟨k,e.val,e.born⟩) c) (.tup [e.val,.one (.int .i64 e.born)]))
     | none=>none
    | _=>none
   | _=>none) else none
  | _=>none
 | .mset x c v=>match isInt (c.ev st.sl) with
  | some n=>match natOf n with
   | some b=>match x.ev st.sl with
    | .one (.mp i)=>match st.ob i with
     | some (.map es c)=>match findB b es 0 with
      | some (j,e)=>some (.wr i (.map (es.set j ⟨e.key,v.ev st.sl,e.born⟩) c) SV.undef)
      | none=>none
     | _=>none
    | _=>none
   | none=>none
  | none=>none
 | .mclr x=>match x.ev st.sl with
  | .one (.mp i)=>match st.ob i with
   | some (.map _ c)=>some (.wr i (.map [] c) SV.undef)
   | _=>none
  | _=>none
 | .b2s x=>match elems st.ob 1 (x.ev st.sl) with
  | some es=>match bytesOf es with
   | some l=>some (.val (.one (.str (byteStr l))))
   | none=>none
  | none=>none
 | .mlen x=>match x.ev st.sl with
  | .one .nilm=>some (.val (.one (.int .i64 0)))
  | .one (.mp i)=>bif !draw || Nat.blt i rb then (match st.ob i with
   | some (.map es _)=>bif Nat.ble es.length 9223372036854775807 then some (.val (.one (.int .i64 es.length))) else none
   | _=>none) else none
  | _=>none
def putS (sl:Nat→SV) (d:Option Nat) (v:SV):Nat→SV:=match d with | some d=>fun k=>bif Nat.beq d k then v else sl k | none=>sl
def env:List (Nat×SV)→Nat→SV
 | [],_=>.unk
 |(k,v)::r,i=>bif Nat.beq k i then v else env r i
def memN (k:Nat):List Nat→Bool
 | []=>false
 | x::r=>Nat.beq x k || memN k r
def keep (ks:List Nat) (sl:Nat→SV):Nat→SV:=fun k=>bif memN k ks then sl k else .unk
def ofArgs:Nat→List SV→List (Nat×SV)
 | _,[]=>[]
 | k,v::r=>(k,v)::ofArgs (k+1) r
def Eff.sto (s:Sto) (id:Nat):Eff→Sto×SV
 | .val v=>(s,v)
 | .new o v=>({ s with ob:=upd s.ob id o },v)
 | .wr i o v=>({ s with ob:=upd s.ob i o },v)
 | .fzd fz v=>({ s with fz:=fz },v)
 | .all s v=>(s,v)
def St.sto (st:St):Sto:=⟨st.ob,st.fz,st.nx⟩
def Eff.apply (st:St) (id:Nat) (d:Option Nat) (e:Eff):St:=
 { sl:=putS st.sl d (e.sto st.sto id).2,ob:=(e.sto st.sto id).1.ob,fz:=(e.sto st.sto id).1.fz,nx:=(e.sto st.sto id).1.nx }
def wants (sl:Nat→SV):Option (Nat×Bool)→Option Bool
 | none=>some true
 | some (j,want)=>match sl j with
  | .unk=>none
  | .one (.bool b)=>some (b==want)
  | _=>some false
def SV.onRow:SV→Bool
 | .one (.raddr ..)=>true
 | _=>false
def SV.boxNo:SV→Option Nat
 | .one (.box i _)=>some i
 | _=>none
def limOk (sl:Nat→SV) (o:AOp):Lim→Bool
 | .no=>true
 | .nr=>match o with
  | .load _ _ a=> !(a.ev sl).onRow
  | _=>false
 | .row=>match o with
  | .store _ a _=>(a.ev sl).onRow
  | _=>false
 | .away l=>match o with
  | .store _ a _=>match (a.ev sl).boxNo with
   | some i=>l.all fun y=>match (y.ev sl).boxNo with | some j=> !Nat.beq j i | none=>true
   | none=>false
  | _=>false
def evO (F:Caller) (draw:Bool) (rb i:Nat) (o:AOper) (st:St):Option St:=
 match wants st.sl o.guard with
 | some true=>bif limOk st.sl o.op o.lim then
   (match evOp F draw rb (rb+i) st o.op with
    | some e=>some (e.apply st (rb+i) o.dst)
    | none=>none)
  else none
 | some false=>some { st with sl:=putS st.sl o.dst SV.undef }
 | none=>none
def evOps (F:Caller) (draw:Bool) (rb:Nat):Nat→List AOper→St→Option St
 | _,[],st=>some st
 | i,o::r,st=>match evO F draw rb i o st with
  | some st'=>evOps F draw rb (i+1) r st'
  | none=>none
def same2 {α:Type} (f:α→α→Bool):List α→List α→Bool
 | [],[]=>true
 | x::r,y::s=>f x y&&same2 f r s
 | _,_=>false
def sameA:Nat→AV→AV→Bool
 | 0,_,_=>false
 | d+1,a,b=>match a,b with
  | .int k n,.int k' n'=>decide (k=k')&&decide (n=n')
  | .bool x,.bool y=>x==y
  | .nilp,.nilp=>true
  | .nils,.nils=>true
  | .nilf,.nilf=>true
  | .nilm,.nilm=>true
  | .sl f es,.sl f' es'=>f==f'&&same2 (same2 (sameA d)) es es'
  | .rsl i v z lo len f,.rsl i' v' z' lo' len' f'=>Nat.beq i i'&&Nat.beq v v'&&Nat.beq z z'&&Nat.beq lo lo'&&Nat.beq len len'&&f==f'
  | .box i o,.box i' o'=>Nat.beq i i'&&Nat.beq o o'
  | .raddr i v j o,.raddr i' v' j' o'=>Nat.beq i i'&&Nat.beq v v'&&Nat.beq j j'&&Nat.beq o o'
  | .mp i,.mp i'=>Nat.beq i i'
  | .fn f a c,.fn f' a' c'=>Nat.beq f f'&&same2 (sameA d) a a'&&same2 (sameA d) c c'
  | .str s,.str s'=>decide (s=s')
  | _,_=>false
def keepOk (st st':St):List (Nat×Opd)→Bool
 | []=>true
 |(n,a)::r=>(match loadAt st.ob n (a.ev st.sl),loadAt st'.ob n (a.ev st.sl) with
  | some x,some y=>same2 (sameA DEPTH) x y
  | _,_=>false)&&keepOk st st' r
def evP (F:Caller) (rb:Nat) (aos:List AOper):List (Nat×List (Nat×Opd))→St→Option St
 | [],st=>some st
 |(j,ks)::r,st=>match aos[j]? with
  | some o=>match evO F true rb j o st with
   | some st'=>bif keepOk st st' ks then evP F rb aos r st' else none
   | none=>none
  | none=>none
def Ex.pend:Ex→Option Ex
 | .nrm=>none
 | e=>some e
def loopN (body:St→Option (Ex×St)):Nat→St→Option (Ex×St)
 | 0,_=>none
 | k+1,st=>match body st with
  | some (.nrm,st')=>loopN body k st'
  | some (e,st')=>some (e,st')
  | none=>none
def evC (F:Caller) (fuel:Nat):ACode→St→Option (Ex×St)
 | .skip,st=>some (.nrm,st)
 | .reg draw ops na ks,st=>match evOps F draw st.nx 0 ops { st with nx:=st.nx+na } with
  | some st'=>some (.nrm,{ st' with sl:=keep ks st'.sl })
  | none=>none
 | .regp ops pm na ks,st=>match evP F st.nx ops pm { st with nx:=st.nx+na } with
  | some st'=>some (.nrm,{ st' with sl:=keep ks st'.sl })
  | none=>none
 | .seq a b,st=>match evC F fuel a st with
  | some (.nrm,st')=>evC F fuel b st'
  | some (e,st')=>some (e,st')
  | none=>none
 | .cond c a b,st=>match isBool (c.ev st.sl) with
  | some t=>bif t then evC F fuel a st else evC F fuel b st
  | none=>none
 | .block id a,st=>match evC F fuel a st with
  | some (.ext id',st')=>bif Nat.beq id' id then some (.nrm,st') else some (.ext id',st')
  | r=>r
 | .loop a,st=>loopN (evC F fuel a) fuel st
 | .exit id,st=>some (.ext id,st)
 | .ret,st=>some (.ret,st)
 | .rangeF g ps asg body,st=>match g.ev st.sl with
  | .one (.fn f first caps)=>
   match F (.fn f) (first.map .one++[.one (.yld (st.nx+1))]++caps.map .one) ⟨upd (upd st.ob st.nx .dfr) (st.nx+1) (.loop ⟨st.sl,ps,asg,body,.ready,none⟩),st.fz,st.nx+2⟩ with
   | some (_,s)=>match s.ob (st.nx+1) with
    | some (.loop l)=>match l.st with
     | .busy=>none
     | _=>some (l.pend.getD .nrm,⟨st.sl,upd s.ob (st.nx+1) (.loop { l with st:=.exhausted }),s.fz,s.nx⟩)
    | _=>none
   | none=>none
  | _=>none
def AOp.allocs:AOp→Bool
 | .alloc .. | .box .. | .bslice .. | .mks .. | .app .. | .mkm=>true
 | _=>false
def naOk:ACode→Bool
 | .reg _ ops na _=>bif ops.any (·.op.allocs) then Nat.ble ops.length na else true
 | .regp ops _ na _=>bif ops.any (·.op.allocs) then Nat.ble ops.length na else true
 | .seq a b=>naOk a&&naOk b
 | .cond _ a b=>naOk a&&naOk b
 | .block _ a=>naOk a
 | .loop a=>naOk a
 | .rangeF _ _ a b=>naOk a&&naOk b
 | _=>true
def resOf (st:St):ARes→Option SV
 | .tmp t=>some (st.sl t)
 | .cell t agg n=>match loadAt st.ob n (st.sl t) with
  | some cs=>asOne agg cs
  | none=>none
def resAll (st:St):List ARes→Option SV
 | [r]=>resOf st r
 | rs=>match rs.mapM (resOf st) with
  | some vs=>some (.tup vs)
  | none=>none
abbrev Env:=FuncId→Option AFn
def shut (ob0 ob:Nat→Option AObj):Nat→Option AObj:=fun k=>match ob k with
 | some .dfr=>match ob0 k with
  | some _=>some .dfr
  | none=>none
 | o=>o
def setPs:List Nat→List SV→(Nat→SV)→Nat→SV
 | p::ps,v::vs,sl=>setPs ps vs (putS sl (some p) v)
 | _,_,sl=>sl
def evF (E:Env):(n:Nat)→Caller
 | 0,_,_,_=>none
 | n+1,.fn f,args,s=>match E f with
  | some fn=>match evC (evF E n) n fn.code { sl:=env (ofArgs 0 args),ob:=s.ob,fz:=s.fz,nx:=s.nx } with
   | some (.nrm,st) | some (.ret,st)=>match resAll st fn.res with
    | some v=>some (v,⟨shut s.ob st.ob,st.fz,st.nx⟩)
    | none=>none
   | _=>none
  | none=>none
 | n+1,.rnd l,args,s=>match s.ob l with
  | some (.loop r)=>bif Nat.beq args.length r.ps.length&&naOk r.asg&&naOk r.body then
   (match evC (evF E n) n r.asg { sl:=setPs r.ps args r.sl,ob:=s.ob,fz:=s.fz,nx:=s.nx } with
   | some (.nrm,st)=>match st.ob l with
    | some (.loop r1)=>match r1.st with
     | .ready=>match evC (evF E n) n r.body { st with ob:=upd st.ob l (.loop { r1 with st:=.busy }) } with
      | some (e,st2)=>match st2.ob l with
       | some (.loop r2)=>match e.pend with
        | none=>some (.one (.bool true),⟨upd st2.ob l (.loop { r2 with st:=.ready,pend:=none }),st2.fz,st2.nx⟩)
        | some e'=>some (.one (.bool false),⟨upd st2.ob l (.loop { r2 with st:=.done,pend:=some e' }),st2.fz,st2.nx⟩)
       | _=>none
      | none=>none
     | _=>none
    | _=>none
   | _=>none) else none
  | _=>none
def evV (E:Env) (n:Nat) (f:FuncId) (args:List SV):Option SV:=
 match evF E n (.fn f) args Sto.empty with
 | some (r,s)=>match frzR s.ob s.fz r with
  | some (_,r')=>some r'
  | none=>none
 | none=>none
end Go.Ev
namespace Go.Ev
open Go.RowKit
class Cd where
 CC:Nat→Code→ACode→Prop
structure GB where
 blk:Nat
 cap:Nat
 deriving Inhabited
def noOb:Nat→Option AObj:=fun _=>none
def noG:Nat→GB:=fun _=>⟨0,0⟩
def SlV (g:GB) (sz lo len:Nat) (full:Bool) (v:Value):Prop:=
 ∃a c,v=.slice (some a) len c∧len≤c∧c≤maxLen∧(0<c→a=⟨g.blk,lo*sz,none⟩)∧(if full=true then c=len else lo+c=g.cap)
def SlShape (len:Nat) (v:Value):Prop:=∃a c,v=.slice (some a) len c∧len≤c∧c≤maxLen
inductive Rel (w:World) (ok:Nat→Nat→Prop):(Nat→Option AObj)→(Nat→GB)→AV→Value→Prop
 | int {ob:Nat→Option AObj} {G:Nat→GB} (k n):Rel w ok ob G (.int k n) (.int k n)
 | bool {ob:Nat→Option AObj} {G:Nat→GB} (b):Rel w ok ob G (.bool b) (.bool b)
 | str {ob:Nat→Option AObj} {G:Nat→GB} (s):Rel w ok ob G (.str s) (.string s)
 | nilp {ob:Nat→Option AObj} {G:Nat→GB}:Rel w ok ob G .nilp (.pointer none)
 | nils {ob:Nat→Option AObj} {G:Nat→GB}:Rel w ok ob G .nils (.slice none 0 0)
 | nilf {ob:Nat→Option AObj} {G:Nat→GB}:Rel w ok ob G .nilf .nilFunc
 | sl {ob:Nat→Option AObj} {G:Nat→GB} (full:Bool) (es:List (List AV)) (a:Option Addr) (cap sz b off:Nat) (f:Nat→Nat→Value)
   (hlen:es.length≤cap) (hcap:cap≤maxLen) (hfull:full=true→cap=es.length) (hsz:∀e∈es,e.length=sz)
   (ha:es≠[]→a=some ⟨b,off,none⟩)
   (hc:∀(i:Nat) (e:List AV) (j:Nat),es[i]? =some e→j<e.length→w.cell? ⟨b,off+(i*sz+j),none⟩=some (f i j)∧ok b (off+(i*sz+j)))
   (hr:∀(i:Nat) (e:List AV) (j:Nat) (x:AV),es[i]? =some e→e[j]? =some x→Rel w ok noOb noG x (f i j)):
   Rel w ok ob G (.sl full es) (.slice a es.length cap)
 | rsl {ob:Nat→Option AObj} {G:Nat→GB} (id ver sz lo len:Nat) (full:Bool) (es:List (List AV)) (v:Value)
   (h:ob id=some (.row sz es ver)) (hle:lo+len≤es.length) (hv:SlV (G id) sz lo len full v):Rel w ok ob G (.rsl id ver sz lo len full) v
 | rslDead {ob:Nat→Option AObj} {G:Nat→GB} (id ver zz lo len:Nat) (full:Bool) (sz:Nat) (es:List (List AV)) (ver':Nat) (v:Value)
   (h:ob id=some (.row sz es ver')) (hlt:ver<ver') (hv:SlShape len v):Rel w ok ob G (.rsl id ver zz lo len full) v
 | box {ob:Nat→Option AObj} {G:Nat→GB} (id off:Nat) (cs:List AV) (h:ob id=some (.box cs)):Rel w ok ob G (.box id off) (.pointer (some ⟨(G id).blk,off,none⟩))
 | raddr {ob:Nat→Option AObj} {G:Nat→GB} (id ver i off sz:Nat) (es:List (List AV)) (h:ob id=some (.row sz es ver)):
   Rel w ok ob G (.raddr id ver i off) (.pointer (some ⟨(G id).blk,i*sz+off,none⟩))
 | raddrDead {ob:Nat→Option AObj} {G:Nat→GB} (id ver i off sz:Nat) (es:List (List AV)) (ver':Nat) (a:Addr) (h:ob id=some (.row sz es ver')) (hlt:ver<ver'):
   Rel w ok ob G (.raddr id ver i off) (.pointer (some a))
 | saddr {ob:Nat→Option AObj} {G:Nat→GB} (es:List (List AV)) (i off:Nat) (sz b o:Nat) (e:List AV) (f:Nat→Value)
   (he:es[i]? =some e) (hsz:e.length=sz)
   (hc:∀j:Nat,j<e.length→w.cell? ⟨b,o+j,none⟩=some (f j)∧ok b (o+j))
   (hr:∀(j:Nat) (x:AV),e[j]? =some x→Rel w ok noOb noG x (f j)):
   Rel w ok ob G (.saddr es i off) (.pointer (some ⟨b,o+off,none⟩))
 | fn {ob:Nat→Option AObj} {G:Nat→GB} (f:FuncId) (first caps:List AV) (vs us:List Value) (h1:first.length=vs.length) (h2:caps.length=us.length)
   (r1:∀(j:Nat) (x:AV) (v:Value),first[j]? =some x→vs[j]? =some v→Rel w ok ob G x v) (r2:∀(j:Nat) (x:AV) (v:Value),caps[j]? =some x→us[j]? =some v→Rel w ok ob G x v):
   Rel w ok ob G (.fn f first caps) (.func (.func f) vs.toArray us.toArray)
 | yld {ob:Nat→Option AObj} {G:Nat→GB} (id:Nat) (l:ALoop) (h:ob id=some (.loop l)):Rel w ok ob G (.yld id) (.func (.yield (G id).blk) #[] #[])
 | mp {ob:Nat→Option AObj} {G:Nat→GB} (id:Nat) (es:List AEnt) (c:Nat) (h:ob id=some (.map es c)):Rel w ok ob G (.mp id) (.map (some (G id).blk))
 | nilm {ob:Nat→Option AObj} {G:Nat→GB}:Rel w ok ob G .nilm (.map none)
def RelL (w:World) (ok:Nat→Nat→Prop) (ob:Nat→Option AObj) (G:Nat→GB) (xs:List AV) (vs:List Value):Prop:=
 xs.length=vs.length∧∀(j:Nat) (x:AV) (v:Value),xs[j]? =some x→vs[j]? =some v→Rel w ok ob G x v
inductive RelS (w:World) (ok:Nat→Nat→Prop) (ob:Nat→Option AObj) (G:Nat→GB):SV→Value→Prop
 | one (x v) (h:Rel w ok ob G x v):RelS w ok ob G (.one x) v
 | agg (xs:List AV) (vs:List Value) (h:RelL w ok ob G xs vs):RelS w ok ob G (.agg xs) (.agg vs.toArray)
 | tup (xs:List SV) (vs:List Value) (h1:xs.length=vs.length) (h2:∀(j:Nat) (x:SV) (v:Value),xs[j]? =some x→vs[j]? =some v→RelS w ok ob G x v):RelS w ok ob G (.tup xs) (.tuple vs.toArray)
 | unk (v:Value):RelS w ok ob G .unk v
structure CellLe (w:World) (ok:Nat→Nat→Prop) (w':World) (ok':Nat→Nat→Prop):Prop where
 le:∀b o,ok b o→ok' b o
 cell:∀b o,ok b o→w'.cell? ⟨b,o,none⟩=w.cell? ⟨b,o,none⟩
theorem CellLe.refl (w:World) (ok):CellLe w ok w ok:=⟨fun _ _ h=>h,fun _ _ _=>rfl⟩
theorem CellLe.trans {w1 ok1 w2 ok2 w3 ok3} (h:CellLe w1 ok1 w2 ok2) (k:CellLe w2 ok2 w3 ok3):CellLe w1 ok1 w3 ok3:=
 ⟨fun b o q=>k.le b o (h.le b o q),fun b o q=>(k.cell b o (h.le b o q)).trans (h.cell b o q)⟩
structure ObLe (ob:Nat→Option AObj) (G:Nat→GB) (ob':Nat→Option AObj) (G':Nat→GB):Prop where
 box:∀id cs,ob id=some (.box cs)→∃cs',ob' id=some (.box cs')∧G' id=G id
 row:∀id sz es ver,ob id=some (.row sz es ver)→∃es' ver',ob' id=some (.row sz es' ver')∧ver≤ver'∧(ver=ver'→es'.length=es.length∧G' id=G id)
 map:∀id es c,ob id=some (.map es c)→∃es' c',ob' id=some (.map es' c')∧G' id=G id
 loop:∀id l,ob id=some (.loop l)→∃l',ob' id=some (.loop l')∧G' id=G id
 dfr:∀id,ob id=some .dfr→ob' id=some .dfr∧G' id=G id
structure ObLe0 (ob:Nat→Option AObj) (G:Nat→GB) (ob':Nat→Option AObj) (G':Nat→GB):Prop where
 box:∀id cs,ob id=some (.box cs)→∃cs',ob' id=some (.box cs')∧G' id=G id
 row:∀id sz es ver,ob id=some (.row sz es ver)→∃es' ver',ob' id=some (.row sz es' ver')∧ver≤ver'∧(ver=ver'→es'.length=es.length∧G' id=G id)
 map:∀id es c,ob id=some (.map es c)→∃es' c',ob' id=some (.map es' c')∧G' id=G id
 loop:∀id l,ob id=some (.loop l)→∃l',ob' id=some (.loop l')∧G' id=G id
theorem ObLe.to0 {ob G ob' G'} (h:ObLe ob G ob' G'):ObLe0 ob G ob' G':=⟨h.box,h.row,h.map,h.loop⟩
theorem ObLe.refl (ob G):ObLe ob G ob G:=⟨fun _ cs h=>⟨cs,h,rfl⟩,fun _ _ es ver h=>⟨es,ver,h,Nat.le_refl _,fun _=>⟨rfl,rfl⟩⟩,fun _ es c h=>⟨es,c,h,rfl⟩,fun _ l h=>⟨l,h,rfl⟩,fun _ h=>⟨h,rfl⟩⟩
theorem ObLe.trans {ob1 G1 ob2 G2 ob3 G3} (h:ObLe ob1 G1 ob2 G2) (k:ObLe ob2 G2 ob3 G3):ObLe ob1 G1 ob3 G3:=by
 constructor
 ·intro id cs q
  obtain ⟨cs',h1,h2⟩:=h.box id cs q
  obtain ⟨cs'',h3,h4⟩:=k.box id cs' h1
  exact ⟨cs'',h3,h4.trans h2⟩
 ·intro id sz es ver q
  obtain ⟨es',v',h1,h2,h3⟩:=h.row id sz es ver q
  obtain ⟨es'',v'',k1,k2,k3⟩:=k.row id sz es' v' h1
  refine ⟨es'',v'',k1,Nat.le_trans h2 k2,fun e=> ?_⟩
  have e1:ver=v':=Nat.le_antisymm h2 (e ▸ k2)
  have e2:v'=v'':=e1 ▸ e
  exact ⟨(k3 e2).1.trans (h3 e1).1,(k3 e2).2.trans (h3 e1).2⟩
 ·intro id es c q
  obtain ⟨es',c',h1,h2⟩:=h.map id es c q
  obtain ⟨es'',c'',h3,h4⟩:=k.map id es' c' h1
  exact ⟨es'',c'',h3,h4.trans h2⟩
 ·intro id l q
  obtain ⟨l',h1,h2⟩:=h.loop id l q
  obtain ⟨l'',h3,h4⟩:=k.loop id l' h1
  exact ⟨l'',h3,h4.trans h2⟩
 ·intro id q
  obtain ⟨h1,h2⟩:=h.dfr id q
  obtain ⟨h3,h4⟩:=k.dfr id h1
  exact ⟨h3,h4.trans h2⟩
theorem ybt (ob':Nat→Option AObj) (G':Nat→GB):ObLe noOb noG ob' G':=⟨fun _ _ h=>(by simp [noOb] at h),fun _ _ _ _ h=>(by simp [noOb] at h),fun _ _ _ h=>(by simp [noOb] at h),fun _ _ h=>(by simp [noOb] at h),fun _ h=>(by simp [noOb] at h)⟩
theorem Rel.mono0 {w ok ob G x v} (h:Rel w ok ob G x v):∀{w' ok'} (hc:CellLe w ok w' ok') {ob' G'} (ho:ObLe0 ob G ob' G'),Rel w' ok' ob' G' x v:=by
 induction h with
 | int k n=>intros;exact .int k n
 | bool b=>intros;exact .bool b
 | str s=>intros;exact .str s
 | nilp=>intros;exact .nilp
 | nils=>intros;exact .nils
 | nilf=>intros;exact .nilf
 | sl full es a cap sz b off f hlen hcap hfull hsz ha hcc hr ih=>
  intro w' ok' hc ob' G' ho
  exact .sl full es a cap sz b off f hlen hcap hfull hsz ha
   (fun i e j he hj=>⟨(hc.cell _ _ (hcc i e j he hj).2).trans (hcc i e j he hj).1,hc.le _ _ (hcc i e j he hj).2⟩)
   (fun i e j x he hx=>ih i e j x he hx hc (ybt _ _).to0)
 | rsl id ver sz lo len full es v h hle hv=>
  intro w' ok' hc ob' G' ho
  obtain ⟨es',ver',h1,h2,h3⟩:=ho.row id sz es ver h
  rcases Nat.lt_or_eq_of_le h2 with hlt | rfl
  ·obtain ⟨a,c,e,l1,l2,_,_⟩:=hv
   exact .rslDead id ver sz lo len full sz es' ver' v h1 hlt ⟨a,c,e,l1,l2⟩
  ·obtain ⟨hl,hg⟩:=h3 rfl
   exact .rsl id ver sz lo len full es' v h1 (by omega) (by rw [hg];exact hv)
 | rslDead id ver zz lo len full sz es ver' v h hlt hv=>
  intro w' ok' hc ob' G' ho
  obtain ⟨es',v'',h1,h2,_⟩:=ho.row id sz es ver' h
  exact .rslDead id ver zz lo len full sz es' v'' v h1 (by omega) hv
 | box id off cs h=>
  intro w' ok' hc ob' G' ho
  obtain ⟨cs',h1,hg⟩:=ho.box id cs h
  have:=Rel.box (w:=w') (ok:=ok') (G:=G') id off cs' h1
  rwa [hg] at this
 | raddr id ver i off sz es h=>
  intro w' ok' hc ob' G' ho
  obtain ⟨es',ver',h1,h2,h3⟩:=ho.row id sz es ver h
  rcases Nat.lt_or_eq_of_le h2 with hlt | rfl
  ·exact .raddrDead id ver i off sz es' ver' _ h1 hlt
  ·have:=Rel.raddr (w:=w') (ok:=ok') (G:=G') id ver i off sz es' h1
   rwa [(h3 rfl).2] at this
 | raddrDead id ver i off sz es ver' a h hlt=>
  intro w' ok' hc ob' G' ho
  obtain ⟨es',v'',h1,h2,_⟩:=ho.row id sz es ver' h
  exact .raddrDead id ver i off sz es' v'' a h1 (by omega)
 | saddr es i off sz b o e f he hsz hcc hr ih=>
  intro w' ok' hc ob' G' ho
  exact .saddr es i off sz b o e f he hsz (fun j hj=>⟨(hc.cell _ _ (hcc j hj).2).trans (hcc j hj).1,hc.le _ _ (hcc j hj).2⟩)
   (fun j x hx=>ih j x hx hc (ybt _ _).to0)
 | fn f first caps vs us h1 h2 r1 r2 ih1 ih2=>
  intro w' ok' hc ob' G' ho
  exact .fn f first caps vs us h1 h2 (fun j x v a b=>ih1 j x v a b hc ho) (fun j x v a b=>ih2 j x v a b hc ho)
 | yld id l h=>
  intro w' ok' hc ob' G' ho
  obtain ⟨l',h1,hg⟩:=ho.loop id l h
  have:=Rel.yld (w:=w') (ok:=ok') (G:=G') id l' h1
  rwa [hg] at this
 | mp id es c h=>
  intro w' ok' hc ob' G' ho
  obtain ⟨es',c',h1,hg⟩:=ho.map id es c h
  have:=Rel.mp (w:=w') (ok:=ok') (G:=G') id es' c' h1
  rwa [hg] at this
 | nilm=>intros;exact .nilm
theorem Rel.mono {w ok ob G x v} (h:Rel w ok ob G x v) {w' ok'} (hc:CellLe w ok w' ok') {ob' G'} (ho:ObLe ob G ob' G'):Rel w' ok' ob' G' x v:=h.mono0 hc ho.to0
theorem Rel.oneCell {w ok ob G x v} (h:Rel w ok ob G x v):v.oneCell'=true:=by
 cases h with
 | rsl id ver sz lo len full es v h hle hv=>obtain ⟨a,c,rfl,_⟩:=hv;rfl
 | rslDead id ver zz lo len full sz es ver' v h hlt hv=>obtain ⟨a,c,rfl,_⟩:=hv;rfl
 | _=>rfl
theorem Rel.cells {w ok ob G x v} (h:Rel w ok ob G x v):v.cells=#[v]:=by
 have:=h.oneCell
 cases v<;>simp_all [Value.oneCell',Value.cells]
theorem RelL.mono0 {w ok ob G xs vs} (h:RelL w ok ob G xs vs) {w' ok'} (hc:CellLe w ok w' ok') {ob' G'} (ho:ObLe0 ob G ob' G'):RelL w' ok' ob' G' xs vs:=
 ⟨h.1,fun j x v a b=>(h.2 j x v a b).mono0 hc ho⟩
theorem RelL.mono {w ok ob G xs vs} (h:RelL w ok ob G xs vs) {w' ok'} (hc:CellLe w ok w' ok') {ob' G'} (ho:ObLe ob G ob' G'):RelL w' ok' ob' G' xs vs:=h.mono0 hc ho.to0
theorem RelS.mono0 {w ok ob G x v} (h:RelS w ok ob G x v) {w' ok'} (hc:CellLe w ok w' ok') {ob' G'} (ho:ObLe0 ob G ob' G'):RelS w' ok' ob' G' x v:=by
 induction h with
 | one x v h=>exact .one x v (h.mono0 hc ho)
 | agg xs vs h=>exact .agg xs vs (h.mono0 hc ho)
 | tup xs vs h1 h2 ih=>exact .tup xs vs h1 ih
 | unk v=>exact .unk v
theorem RelS.mono {w ok ob G x v} (h:RelS w ok ob G x v) {w' ok'} (hc:CellLe w ok w' ok') {ob' G'} (ho:ObLe ob G ob' G'):RelS w' ok' ob' G' x v:=h.mono0 hc ho.to0
theorem RelL.nil {w ok ob G}:RelL w ok ob G [] []:=⟨rfl,fun j x v a _=>by simp at a⟩
theorem RelL.cons {w ok ob G x v xs vs} (h:Rel w ok ob G x v) (hs:RelL w ok ob G xs vs):RelL w ok ob G (x::xs) (v::vs):=by
 refine ⟨by simp [hs.1],fun j y u a b=> ?_⟩
 cases j with
 | zero=>simp at a b;subst a;subst b;exact h
 | succ j=>simp at a b;exact hs.2 j y u a b
theorem RelL.append {w ok ob G xs vs ys us} (h:RelL w ok ob G xs vs) (k:RelL w ok ob G ys us):RelL w ok ob G (xs++ys) (vs++us):=by
 refine ⟨by simp [h.1,k.1],fun j x v a b=> ?_⟩
 rw [List.getElem?_append] at a b
 rw [h.1] at a
 split at a
 ·rw [if_pos (by assumption)] at b;exact h.2 j x v a b
 ·rw [if_neg (by assumption)] at b;exact k.2 _ x v a b
theorem RelL.take {w ok ob G xs vs} (h:RelL w ok ob G xs vs) (n:Nat):RelL w ok ob G (xs.take n) (vs.take n):=by
 refine ⟨by simp [h.1],fun j x v a b=> ?_⟩
 rw [List.getElem?_take] at a b
 split at a
 ·rw [if_pos (by assumption)] at b;exact h.2 j x v a b
 ·cases a
theorem RelL.drop {w ok ob G xs vs} (h:RelL w ok ob G xs vs) (n:Nat):RelL w ok ob G (xs.drop n) (vs.drop n):=by
 refine ⟨by simp [h.1],fun j x v a b=> ?_⟩
 rw [List.getElem?_drop] at a b
 exact h.2 _ x v a b
theorem RelL.one {w ok ob G xs vs} (h:RelL w ok ob G xs vs):∀v∈vs,v.oneCell'=true:=by
 intro v hv
 obtain ⟨j,hj,rfl⟩:=List.getElem_of_mem hv
 have hx:j<xs.length:=by rw [h.1];exact hj
 exact (h.2 j xs[j] vs[j] (by simp [hx]) (by simp [hj])).oneCell
theorem RelS.cells {w ok ob G x v cs} (h:RelS w ok ob G x v) (hc:x.cells=some cs):RelL w ok ob G cs v.cells.toList:=by
 cases h with
 | one x v h=>
  simp [SV.cells] at hc
  subst hc
  rw [h.cells]
  exact RelL.cons h RelL.nil
 | agg xs vs h=>
  simp [SV.cells] at hc
  subst hc
  simpa [Value.cells] using h
 | tup xs vs h1 h2=>simp [SV.cells] at hc
 | unk v=>simp [SV.cells] at hc
def RelT (w:World) (ok:Nat→Nat→Prop) (ob:Nat→Option AObj) (G:Nat→GB) (sl:Nat→SV) (tmps:Array Value):Prop:=
 ∀t:Nat,RelS w ok ob G (sl t) (tmps.getD t undef)
theorem RelT.mono {w ok ob G} {sl:Nat→SV} {tmps:Array Value} (h:RelT w ok ob G sl tmps) {w':World} {ok':Nat→Nat→Prop} (hc:CellLe w ok w' ok') {ob':Nat→Option AObj} {G':Nat→GB} (ho:ObLe ob G ob' G'):RelT w' ok' ob' G' sl tmps:=
 fun t=>(h t).mono hc ho
theorem RelT.mono0 {w ok ob G} {sl:Nat→SV} {tmps:Array Value} (h:RelT w ok ob G sl tmps) {w':World} {ok':Nat→Nat→Prop} (hc:CellLe w ok w' ok') {ob':Nat→Option AObj} {G':Nat→GB} (ho:ObLe0 ob G ob' G'):RelT w' ok' ob' G' sl tmps:=
 fun t=>(h t).mono0 hc ho
def Ex.code:Ex→Code
 | .nrm=>.skip
 | .ext id=>.exit id
 | .ret=>.ret
structure EntR (w:World) (ok:Nat→Nat→Prop) (ob:Nat→Option AObj) (G:Nat→GB) (e:AEnt) (m:MapEntry):Prop where
 key:Rel w ok ob G e.key m.key
 val:RelS w ok ob G e.val m.val
 born:m.born=e.born
theorem EntR.mono0 {w ok ob G e m} (h:EntR w ok ob G e m) {w':World} {ok':Nat→Nat→Prop} (hc:CellLe w ok w' ok') {ob':Nat→Option AObj} {G':Nat→GB} (ho:ObLe0 ob G ob' G'):EntR w' ok' ob' G' e m:=
 ⟨h.key.mono0 hc ho,h.val.mono0 hc ho,h.born⟩
theorem EntR.mono {w ok ob G e m} (h:EntR w ok ob G e m) {w':World} {ok':Nat→Nat→Prop} (hc:CellLe w ok w' ok') {ob':Nat→Option AObj} {G':Nat→GB} (ho:ObLe ob G ob' G'):EntR w' ok' ob' G' e m:=h.mono0 hc ho.to0
def EntsR (w:World) (ok:Nat→Nat→Prop) (ob:Nat→Option AObj) (G:Nat→GB) (es:List AEnt) (ms:List MapEntry):Prop:=
 es.length=ms.length∧∀(j:Nat) (e:AEnt) (m:MapEntry),es[j]? =some e→ms[j]? =some m→EntR w ok ob G e m
structure LoopR [Cd] (w:World) (ok:Nat→Nat→Prop) (ob:Nat→Option AObj) (G:Nat→GB) (l:ALoop) (r:Loop):Prop where
 st:r.state=l.st
 pend:r.pending=l.pend.map Ex.code
 pendOk:l.pend≠some .nrm
 ps:r.params.toList=l.ps
 nt:∃nt,nt≤r.tmps.size∧Cd.CC nt r.assign l.asg∧Cd.CC nt r.body l.body∧∀p∈l.ps,p<nt
 tmps:RelT w ok ob G l.sl r.tmps
theorem LoopR.mono0 [Cd] {w ok ob G l r} (h:LoopR w ok ob G l r) {w':World} {ok':Nat→Nat→Prop} (hc:CellLe w ok w' ok') {ob':Nat→Option AObj} {G':Nat→GB} (ho:ObLe0 ob G ob' G'):LoopR w' ok' ob' G' l r:=
 ⟨h.st,h.pend,h.pendOk,h.ps,h.nt,h.tmps.mono0 hc ho⟩
def ObjOk [Cd] (w:World) (ok:Nat→Nat→Prop) (ob:Nat→Option AObj) (G:Nat→GB) (fz:Nat) (g:GB):AObj→Prop
 | .box cs=>∃vs e,w.heap[g.blk]? =some (.cells vs e (0,0))∧RelL w ok ob G cs vs.toList
 | .row sz es ver=>(∀e∈es,e.length=sz)∧es.length≤g.cap∧g.cap≤maxLen∧fz≤es.length∧
  ∃vs e,w.heap[g.blk]? =some (.cells vs e (0,0))∧vs.size=g.cap*sz∧RelL w ok ob G es.flatten (vs.toList.take (es.length*sz))
 | .map es c=>fz=0∧∃ms,w.heap[g.blk]? =some (.map ms c)∧EntsR w ok ob G es ms.toList
 | .loop l=>fz=0∧∃r,w.heap[g.blk]? =some (.loop r)∧LoopR w ok ob G l r
 | .dfr=>fz=0∧w.heap[g.blk]? =some (.deferred (some []))
theorem ObjOk.mono0 [Cd] {w ok ob G fz g o} (h:ObjOk w ok ob G fz g o) {w':World} {ok':Nat→Nat→Prop} (hc:CellLe w ok w' ok') {ob':Nat→Option AObj} {G':Nat→GB} (ho:ObLe0 ob G ob' G') (hb:w'.heap[g.blk]? =w.heap[g.blk]?):ObjOk w' ok' ob' G' fz g o:=by
 cases o with
 | box cs=>obtain ⟨vs,e,h1,h2⟩:=h;exact ⟨vs,e,hb.trans h1,h2.mono0 hc ho⟩
 | row sz es ver=>obtain ⟨h1,h2,h3,h4,vs,e,h5,h6,h7⟩:=h;exact ⟨h1,h2,h3,h4,vs,e,hb.trans h5,h6,h7.mono0 hc ho⟩
 | map es c=>obtain ⟨h0,ms,h1,h2,h3⟩:=h;exact ⟨h0,ms,hb.trans h1,h2,fun j e m p q=>(h3 j e m p q).mono0 hc ho⟩
 | loop l=>obtain ⟨h0,r,h1,h2⟩:=h;exact ⟨h0,r,hb.trans h1,h2.mono0 hc ho⟩
 | dfr=>exact ⟨h.1,hb.trans h.2⟩
theorem ObjOk.mono [Cd] {w ok ob G fz g o} (h:ObjOk w ok ob G fz g o) {w':World} {ok':Nat→Nat→Prop} (hc:CellLe w ok w' ok') {ob':Nat→Option AObj} {G':Nat→GB} (ho:ObLe ob G ob' G') (hb:w'.heap[g.blk]? =w.heap[g.blk]?):ObjOk w' ok' ob' G' fz g o:=h.mono0 hc ho.to0 hb
structure Inv [Cd] (B:Nat) (w:World) (ok:Nat→Nat→Prop) (s:Sto) (G:Nat→GB):Prop where
 okLt:∀b o,ok b o→b<w.heap.size
 okFz:∀b o id obj,ok b o→s.ob id=some obj→(G id).blk=b→∃sz es ver,obj=.row sz es ver∧o<s.fz id*sz
 inj:∀id id' o o',s.ob id=some o→s.ob id'=some o'→(G id).blk=(G id').blk→id=id'
 base:∀id o,s.ob id=some o→B≤(G id).blk
 objs:∀id o,s.ob id=some o→ObjOk w ok s.ob G (s.fz id) (G id) o
 fz0:∀id,s.ob id=none→s.fz id=0
section
variable [Cd] {B:Nat} {w:World} {ok:Nat→Nat→Prop} {s:Sto} {G:Nat→GB}
theorem Inv.boxes (h:Inv B w ok s G):∀id cs,s.ob id=some (.box cs)→∃vs e,w.heap[(G id).blk]? =some (.cells vs e (0,0))∧RelL w ok s.ob G cs vs.toList:=fun id cs hi=>h.objs id _ hi
theorem Inv.rows (h:Inv B w ok s G):∀id sz es ver,s.ob id=some (.row sz es ver)→(∀e∈es,e.length=sz)∧es.length≤(G id).cap∧(G id).cap≤maxLen∧s.fz id≤es.length∧
  ∃vs e,w.heap[(G id).blk]? =some (.cells vs e (0,0))∧vs.size=(G id).cap*sz∧RelL w ok s.ob G es.flatten (vs.toList.take (es.length*sz)):=fun id sz es ver hi=>h.objs id _ hi
theorem Inv.maps (h:Inv B w ok s G):∀id es c,s.ob id=some (.map es c)→s.fz id=0∧∃ms,w.heap[(G id).blk]? =some (.map ms c)∧EntsR w ok s.ob G es ms.toList:=fun id es c hi=>h.objs id _ hi
theorem Inv.loops (h:Inv B w ok s G):∀id l,s.ob id=some (.loop l)→s.fz id=0∧∃r,w.heap[(G id).blk]? =some (.loop r)∧LoopR w ok s.ob G l r:=fun id l hi=>h.objs id _ hi
theorem Inv.dfrs (h:Inv B w ok s G):∀id,s.ob id=some .dfr→s.fz id=0∧w.heap[(G id).blk]? =some (.deferred (some [])):=fun id hi=>h.objs id _ hi
theorem yf6 {w:World} {b:Nat} {o:Obj} (h:w.heap[b]? =some o):b<w.heap.size:=(Array.getElem?_eq_some_iff.1 h).1
theorem Inv.lt (h:Inv B w ok s G) {id o} (ho:s.ob id=some o):(G id).blk<w.heap.size:=by
 have:=h.objs id o ho
 cases o with
 | box cs=>obtain ⟨vs,e,h1,_⟩:=this;exact yf6 h1
 | row sz es ver=>obtain ⟨_,_,_,_,vs,e,h1,_⟩:=this;exact yf6 h1
 | map es c=>obtain ⟨_,ms,h1,_⟩:=this;exact yf6 h1
 | loop l=>obtain ⟨_,r,h1,_⟩:=this;exact yf6 h1
 | dfr=>exact yf6 this.2
end
theorem ya3 {w:World} {b o:Nat} {vs e fr} (h:w.heap[b]? =some (.cells vs e fr)):w.cell? ⟨b,o,none⟩=vs[o]? :=by
 simp [World.cell?,h]
theorem y7t {w w':World} {b o:Nat} (h:w'.heap[b]? =w.heap[b]?):w'.cell? ⟨b,o,none⟩=w.cell? ⟨b,o,none⟩:=by
 simp [World.cell?,h]
theorem y6r {es:List (List AV)} {sz:Nat} (h:∀e∈es,e.length=sz):es.flatten.length=es.length*sz:=by
 induction es with
 | nil=>simp
 | cons e r ih=>
  rw [List.flatten_cons,List.length_append,ih (fun x hx=>h x (by simp [hx])),h e (by simp),List.length_cons,Nat.add_mul]
  omega
theorem ybm {es:List (List AV)} {sz:Nat} (h:∀e∈es,e.length=sz) {i j:Nat} {e:List AV} (he:es[i]? =some e) (hj:j<sz):es.flatten[i*sz+j]? =e[j]? :=by
 induction es generalizing i with
 | nil=>simp at he
 | cons x r ih=>
  have hx:x.length=sz:=h x (by simp)
  cases i with
  | zero=>
   simp at he
   subst he
   rw [List.flatten_cons,List.getElem?_append_left (by omega)]
   simp
  | succ i=>
   simp at he
   rw [List.flatten_cons,List.getElem?_append_right (by rw [hx,Nat.add_mul];omega),hx,show (i+1)*sz+j-sz=i*sz+j by rw [Nat.add_mul];omega]
   exact ih (fun y hy=>h y (by simp [hy])) he
theorem ybz {es:List (List AV)} {sz:Nat} (h:∀e∈es,e.length=sz) (n:Nat):(es.take n).flatten=es.flatten.take (n*sz):=by
 induction es generalizing n with
 | nil=>simp
 | cons x r ih=>
  have hx:x.length=sz:=h x (by simp)
  cases n with
  | zero=>simp
  | succ n=>
   rw [List.take_succ_cons,List.flatten_cons,List.flatten_cons,ih (fun y hy=>h y (by simp [hy])),List.take_append,List.take_of_length_le (l:=x) (by rw [hx,Nat.add_mul];omega),hx,show (n+1)*sz-sz=n*sz by rw [Nat.add_mul];omega]
theorem yef {es:List (List AV)} {sz:Nat} (h:∀e∈es,e.length=sz) (n:Nat):(es.drop n).flatten=es.flatten.drop (n*sz):=by
 induction es generalizing n with
 | nil=>simp
 | cons x r ih=>
  have hx:x.length=sz:=h x (by simp)
  cases n with
  | zero=>simp
  | succ n=>
   rw [List.drop_succ_cons,List.flatten_cons,ih (fun y hy=>h y (by simp [hy])),List.drop_append,List.drop_of_length_le (l:=x) (by rw [hx,Nat.add_mul];omega),hx,show (n+1)*sz-sz=n*sz by rw [Nat.add_mul];omega]
   rfl
theorem ynr {es:List (List AV)} {sz:Nat} (h:∀e∈es,e.length=sz) {i:Nat} (hi:i<es.length) {e:List AV} (he:e.length=sz):
  (es.set i e).flatten=es.flatten.take (i*sz)++e++es.flatten.drop ((i+1)*sz):=by
 rw [←ybz h,←yef h,List.set_eq_take_append_cons_drop,if_pos hi,List.flatten_append,List.flatten_cons]
 simp
end Go.Ev
namespace Go.Ev
open Go.RowKit
def setG (G:Nat→GB) (id:Nat) (g:GB):Nat→GB:=fun k=>if k=id then g else G k
@[simp] theorem setG_same (G:Nat→GB) (id:Nat) (g:GB):setG G id g id=g:=by simp [setG]
theorem y5g {G:Nat→GB} {id k:Nat} {g:GB} (h:k≠id):setG G id g k=G k:=by simp [setG,h]
theorem y8j {a b:Nat} (h:a≠b):Nat.beq a b=false:=by
 cases hb:Nat.beq a b with
 | false=>rfl
 | true=>exact absurd (Nat.eq_of_beq_eq_true hb) h
theorem y5b (a:Nat):Nat.beq a a=true:=Nat.beq_refl a
@[simp] theorem upd_same (ob:Nat→Option AObj) (id:Nat) (o:AObj):upd ob id o id=some o:=by simp [upd,y5b]
theorem y00 {ob:Nat→Option AObj} {id k:Nat} {o:AObj} (h:k≠id):upd ob id o k=ob k:=by simp [upd,y8j h]
@[simp] theorem raise_same (fz:Nat→Nat) (id n:Nat):raise fz id n id=Nat.max (fz id) n:=by simp [raise,y5b]
theorem ybf {fz:Nat→Nat} {id k n:Nat} (h:k≠id):raise fz id n k=fz k:=by simp [raise,y8j h]
theorem yyc (fz:Nat→Nat) (id n k:Nat):fz k≤raise fz id n k:=by
 by_cases h:k=id
 ·subst h;simp only [raise_same];exact Nat.le_max_left _ _
 ·rw [ybf h];exact Nat.le_refl _
variable [Cd]
theorem Inv.set {B:Nat} {w:World} {ok:Nat→Nat→Prop} {s:Sto} {G:Nat→GB} (h:Inv B w ok s G) (id:Nat) (obj':AObj) (g:GB) (w':World)
  (hsz:w.heap.size≤w'.heap.size)
  (hother:∀id2 o2,id2≠id→s.ob id2=some o2→w'.heap[(G id2).blk]? =w.heap[(G id2).blk]?)
  (hcell:CellLe w ok w' ok)
  (hle:ObLe s.ob G (upd s.ob id obj') (setG G id g))
  (hB:B≤g.blk)
  (hinj:∀id2 o2,id2≠id→s.ob id2=some o2→(G id2).blk≠g.blk)
  (hfz:∀o,ok g.blk o→∃sz es ver,obj'=.row sz es ver∧o<s.fz id*sz)
  (hobj:ObjOk w' ok (upd s.ob id obj') (setG G id g) (s.fz id) g obj'):
  Inv B w' ok { s with ob:=upd s.ob id obj' } (setG G id g):=by
 constructor
 ·intro b o ho
  exact Nat.lt_of_lt_of_le (h.okLt b o ho) hsz
 ·intro b o id2 obj ho hob hb
  by_cases e:id2=id
  ·subst e
   simp only [upd_same,Option.some.injEq] at hob
   subst hob
   simp only [setG_same] at hb
   exact hfz o (hb ▸ ho)
  ·simp only [y00 e] at hob
   rw [y5g e] at hb
   exact h.okFz b o id2 obj ho hob hb
 ·intro i j o o' hi hj hg
  by_cases ei:i=id<;>by_cases ej:j=id
  ·rw [ei,ej]
  ·subst ei
   simp only [y00 ej] at hj
   rw [setG_same,y5g ej] at hg
   exact absurd hg.symm (hinj j o' ej hj)
  ·subst ej
   simp only [y00 ei] at hi
   rw [setG_same,y5g ei] at hg
   exact absurd hg (hinj i o ei hi)
  ·simp only [y00 ei] at hi
   simp only [y00 ej] at hj
   rw [y5g ei,y5g ej] at hg
   exact h.inj i j o o' hi hj hg
 ·intro i o hi
  by_cases e:i=id
  ·subst e;simpa using hB
  ·simp only [y00 e] at hi
   rw [y5g e]
   exact h.base i o hi
 ·intro i o hi
  by_cases e:i=id
  ·subst e
   simp only [upd_same,Option.some.injEq] at hi
   subst hi
   simpa using hobj
  ·simp only [y00 e] at hi
   have:=(h.objs i o hi).mono hcell hle (hother i _ e hi)
   rw [y5g e]
   exact this
 ·intro i hi
  by_cases e:i=id
  ·subst e;simp at hi
  ·simp only [y00 e] at hi
   exact h.fz0 i hi
theorem ObLe.new {ob:Nat→Option AObj} {G:Nat→GB} {id:Nat} (h:ob id=none) (o:AObj) (g:GB):ObLe ob G (upd ob id o) (setG G id g):=by
 constructor
 ·intro i cs hi
  have e:i≠id:=fun e=>by subst e;rw [h] at hi;cases hi
  exact ⟨cs,by rw [y00 e];exact hi,y5g e⟩
 ·intro i sz es ver hi
  have e:i≠id:=fun e=>by subst e;rw [h] at hi;cases hi
  exact ⟨es,ver,by rw [y00 e];exact hi,Nat.le_refl _,fun _=>⟨rfl,y5g e⟩⟩
 ·intro i es c hi
  have e:i≠id:=fun e=>by subst e;rw [h] at hi;cases hi
  exact ⟨es,c,by rw [y00 e];exact hi,y5g e⟩
 ·intro i l hi
  have e:i≠id:=fun e=>by subst e;rw [h] at hi;cases hi
  exact ⟨l,by rw [y00 e];exact hi,y5g e⟩
 ·intro i hi
  have e:i≠id:=fun e=>by subst e;rw [h] at hi;cases hi
  exact ⟨by rw [y00 e];exact hi,y5g e⟩
theorem y9p (w:World) (o:Obj):(w.alloc o).heap[w.heap.size]? =some o:=heap_alloc_new w o
theorem ybl (w:World) (o:Obj) {k:Nat} (h:k<w.heap.size):(w.alloc o).heap[k]? =w.heap[k]? :=Below.heap_alloc w o k h
theorem y78 {B:Nat} {w:World} {ok:Nat→Nat→Prop} {s:Sto} {G:Nat→GB} (h:Inv B w ok s G) (o:Obj):CellLe w ok (w.alloc o) ok:=
 ⟨fun _ _ h=>h,fun b _ hb=>y7t (ybl w o (h.okLt b _ hb))⟩
theorem Inv.newBox {B:Nat} {w:World} {ok:Nat→Nat→Prop} {s:Sto} {G:Nat→GB} (h:Inv B w ok s G) (hB:B≤w.heap.size) {id:Nat} (hid:s.ob id=none) {cs:List AV} {vs:List Value}
  (hr:RelL w ok s.ob G cs vs) (e:TypeId):
  Inv B (w.alloc (.cells vs.toArray e)) ok { s with ob:=upd s.ob id (.box cs) } (setG G id ⟨w.heap.size,0⟩)∧ObLe s.ob G (upd s.ob id (.box cs)) (setG G id ⟨w.heap.size,0⟩):=by
 have hle:ObLe s.ob G (upd s.ob id (.box cs)) (setG G id ⟨w.heap.size,0⟩):=ObLe.new hid _ _
 have hc:=y78 h (.cells vs.toArray e)
 refine ⟨h.set id _ _ _ (by simp) (fun i o _ hi=>ybl w _ (h.lt hi)) hc hle hB (fun i o _ hi=>Nat.ne_of_lt (h.lt hi)) (fun o ho=>absurd (h.okLt _ _ ho) (Nat.lt_irrefl _)) ?_,hle⟩
 exact ⟨vs.toArray,e,y9p w _,by simpa using hr.mono hc hle⟩
theorem Inv.newRow {B:Nat} {w:World} {ok:Nat→Nat→Prop} {s:Sto} {G:Nat→GB} (h:Inv B w ok s G) (hB:B≤w.heap.size) {id:Nat} (hid:s.ob id=none) {sz:Nat} {es:List (List AV)} {arr:Array Value} {cap:Nat}
  (hes:∀e∈es,e.length=sz) (hcap:es.length≤cap) (hmax:cap≤maxLen) (harr:arr.size=cap*sz) (hr:RelL w ok s.ob G es.flatten (arr.toList.take (es.length*sz))) (e:TypeId):
  Inv B (w.alloc (.cells arr e)) ok { s with ob:=upd s.ob id (.row sz es 0) } (setG G id ⟨w.heap.size,cap⟩)∧ObLe s.ob G (upd s.ob id (.row sz es 0)) (setG G id ⟨w.heap.size,cap⟩):=by
 have hle:ObLe s.ob G (upd s.ob id (.row sz es 0)) (setG G id ⟨w.heap.size,cap⟩):=ObLe.new hid _ _
 have hc:=y78 h (.cells arr e)
 refine ⟨h.set id _ _ _ (by simp) (fun i o _ hi=>ybl w _ (h.lt hi)) hc hle hB (fun i o _ hi=>Nat.ne_of_lt (h.lt hi)) (fun o ho=>absurd (h.okLt _ _ ho) (Nat.lt_irrefl _)) ?_,hle⟩
 exact ⟨hes,hcap,hmax,by rw [h.fz0 id hid];exact Nat.zero_le _,arr,e,y9p w _,harr,hr.mono hc hle⟩
theorem Inv.newObj {B:Nat} {w:World} {ok:Nat→Nat→Prop} {s:Sto} {G:Nat→GB} (h:Inv B w ok s G) (hB:B≤w.heap.size) {id:Nat} (hid:s.ob id=none) {o:AObj} (O:Obj)
  (hobj:ObjOk (w.alloc O) ok (upd s.ob id o) (setG G id ⟨w.heap.size,0⟩) 0 ⟨w.heap.size,0⟩ o):
  Inv B (w.alloc O) ok { s with ob:=upd s.ob id o } (setG G id ⟨w.heap.size,0⟩)∧ObLe s.ob G (upd s.ob id o) (setG G id ⟨w.heap.size,0⟩)∧CellLe w ok (w.alloc O) ok:=by
 have hle:ObLe s.ob G (upd s.ob id o) (setG G id ⟨w.heap.size,0⟩):=ObLe.new hid _ _
 have hc:=y78 h O
 exact ⟨h.set id _ _ _ (by simp) (fun i o _ hi=>ybl w _ (h.lt hi)) hc hle hB (fun i o _ hi=>Nat.ne_of_lt (h.lt hi)) (fun o ho=>absurd (h.okLt _ _ ho) (Nat.lt_irrefl _)) (by rw [h.fz0 id hid];exact hobj),hle,hc⟩
theorem Inv.drew {B:Nat} {w:World} {ok:Nat→Nat→Prop} {s:Sto} {G:Nat→GB} (h:Inv B w ok s G):Inv B w.drew ok s G∧CellLe w ok w.drew ok:=by
 have hc:CellLe w ok w.drew ok:=⟨fun _ _ q=>q,fun _ _ _=>rfl⟩
 exact ⟨⟨h.okLt,h.okFz,h.inj,h.base,fun i o hi=>(h.objs i o hi).mono hc (ObLe.refl _ _) rfl,h.fz0⟩,hc⟩
theorem y91 {w:World} {g:Nat} {old cs:Array Value} {t:TypeId} {fr} (hg:w.heap[g]? =some (.cells old t fr)):(w.setRow g cs).heap[g]? =some (.cells cs t fr):=setRow_heap w g old cs t fr hg
theorem y95 (w:World) (g:Nat) (cs:Array Value):(w.setRow g cs).heap.size=w.heap.size:=by simp [World.setRow]
theorem Inv.setBox {B:Nat} {w:World} {ok:Nat→Nat→Prop} {s:Sto} {G:Nat→GB} (h:Inv B w ok s G) {id:Nat} {cs cs':List AV} (hid:s.ob id=some (.box cs)) {vs':List Value}
  (hr:RelL w ok s.ob G cs' vs'):
  Inv B (w.setRow (G id).blk vs'.toArray) ok { s with ob:=upd s.ob id (.box cs') } G∧ObLe s.ob G (upd s.ob id (.box cs')) G∧CellLe w ok (w.setRow (G id).blk vs'.toArray) ok:=by
 obtain ⟨vs,e,hb,_⟩:=h.boxes id cs hid
 have hG:setG G id (G id)=G:=by funext k;simp [setG];intro e;rw [e]
 have hle:ObLe s.ob G (upd s.ob id (.box cs')) G:=by
  constructor
  ·intro i c hi
   by_cases e:i=id
   ·subst e;exact ⟨cs',by simp,rfl⟩
   ·exact ⟨c,by rw [y00 e];exact hi,rfl⟩
  ·intro i sz es ver hi
   have e:i≠id:=fun e=>by subst e;rw [hid] at hi;cases hi
   exact ⟨es,ver,by rw [y00 e];exact hi,Nat.le_refl _,fun _=>⟨rfl,rfl⟩⟩
  ·intro i es c hi
   have e:i≠id:=fun e=>by subst e;rw [hid] at hi;cases hi
   exact ⟨es,c,by rw [y00 e];exact hi,rfl⟩
  ·intro i l hi
   have e:i≠id:=fun e=>by subst e;rw [hid] at hi;cases hi
   exact ⟨l,by rw [y00 e];exact hi,rfl⟩
  ·intro i hi
   have e:i≠id:=fun e=>by subst e;rw [hid] at hi;cases hi
   exact ⟨by rw [y00 e];exact hi,rfl⟩
 have hc:CellLe w ok (w.setRow (G id).blk vs'.toArray) ok:=by
  refine ⟨fun _ _ q=>q,fun b o q=> ?_⟩
  have:b≠(G id).blk:=fun e=>by
   obtain ⟨sz,es,ver,e',_⟩:=h.okFz b o id _ q hid e.symm
   cases e'
  exact y7t (setRow_other w _ b _ this)
 have:=h.set id (.box cs') (G id) (w.setRow (G id).blk vs'.toArray) (by rw [y95];exact Nat.le_refl _)
  (fun i o e hi=>setRow_other w _ _ _ (fun e'=>e (h.inj i id _ _ hi hid e'))) hc (by rw [hG];exact hle) (h.base id _ hid)
  (fun i o e hi e'=>e (h.inj i id _ _ hi hid e'))
  (fun o ho=>by obtain ⟨sz,es,ver,e',_⟩:=h.okFz _ o id _ ho hid rfl;cases e')
  ⟨vs'.toArray,e,y91 hb,by rw [hG];simpa using hr.mono hc hle⟩
 rw [hG] at this
 exact ⟨this,hle,hc⟩
theorem Inv.setRowObj {B:Nat} {w:World} {ok:Nat→Nat→Prop} {s:Sto} {G:Nat→GB} (h:Inv B w ok s G) {id sz ver ver':Nat} {es es':List (List AV)} (hid:s.ob id=some (.row sz es ver)) {vs:Array Value} {e:TypeId}
  (hb:w.heap[(G id).blk]? =some (.cells vs e (0,0))) {vs':Array Value}
  (hver:ver≤ver') (hsame:ver=ver'→es'.length=es.length) (hlen:es.length≤es'.length) (hes:∀e∈es',e.length=sz) (hcap:es'.length≤(G id).cap) (hsz:vs'.size=(G id).cap*sz)
  (hkeep:∀o,o<s.fz id*sz→vs'[o]? =vs[o]?)
  (hr:RelL w ok s.ob G es'.flatten (vs'.toList.take (es'.length*sz))):
  Inv B (w.setRow (G id).blk vs') ok { s with ob:=upd s.ob id (.row sz es' ver') } G∧ObLe s.ob G (upd s.ob id (.row sz es' ver')) G∧CellLe w ok (w.setRow (G id).blk vs') ok:=by
 obtain ⟨_,_,hmax,hfz,_⟩:=h.rows id sz es ver hid
 have hG:setG G id (G id)=G:=by funext k;simp [setG];intro e;rw [e]
 have hle:ObLe s.ob G (upd s.ob id (.row sz es' ver')) G:=by
  constructor
  ·intro i c hi
   have e:i≠id:=fun e=>by subst e;rw [hid] at hi;cases hi
   exact ⟨c,by rw [y00 e];exact hi,rfl⟩
  ·intro i z ez v hi
   by_cases e:i=id
   ·subst e
    rw [hid] at hi
    cases hi
    exact ⟨es',ver',by simp,hver,fun e'=>⟨hsame e',rfl⟩⟩
   ·exact ⟨ez,v,by rw [y00 e];exact hi,Nat.le_refl _,fun _=>⟨rfl,rfl⟩⟩
  ·intro i es c hi
   have e:i≠id:=fun e=>by subst e;rw [hid] at hi;cases hi
   exact ⟨es,c,by rw [y00 e];exact hi,rfl⟩
  ·intro i l hi
   have e:i≠id:=fun e=>by subst e;rw [hid] at hi;cases hi
   exact ⟨l,by rw [y00 e];exact hi,rfl⟩
  ·intro i hi
   have e:i≠id:=fun e=>by subst e;rw [hid] at hi;cases hi
   exact ⟨by rw [y00 e];exact hi,rfl⟩
 have hc:CellLe w ok (w.setRow (G id).blk vs') ok:=by
  refine ⟨fun _ _ q=>q,fun b o q=> ?_⟩
  by_cases e1:b=(G id).blk
  ·subst e1
   obtain ⟨sz',es0,v0,e',ho⟩:=h.okFz _ o id _ q hid rfl
   cases e'
   rw [ya3 (y91 hb),ya3 hb,hkeep o ho]
  ·exact y7t (setRow_other w _ b _ e1)
 have:=h.set id (.row sz es' ver') (G id) (w.setRow (G id).blk vs') (by rw [y95];exact Nat.le_refl _)
  (fun i o e hi=>setRow_other w _ _ _ (fun e'=>e (h.inj i id _ _ hi hid e'))) hc (by rw [hG];exact hle) (h.base id _ hid)
  (fun i o e hi e'=>e (h.inj i id _ _ hi hid e'))
  (fun o ho=>by obtain ⟨sz',es0,v0,e',ho'⟩:=h.okFz _ o id _ ho hid rfl;cases e';exact ⟨sz,es',ver',rfl,ho'⟩)
  ⟨hes,hcap,hmax,by omega,vs',e,y91 hb,hsz,by rw [hG];exact hr.mono hc hle⟩
 rw [hG] at this
 exact ⟨this,hle,hc⟩
theorem Inv.moveRow {B:Nat} {w:World} {ok:Nat→Nat→Prop} {s:Sto} {G:Nat→GB} (h:Inv B w ok s G) (hB:B≤w.heap.size) {id sz ver ver':Nat} {es es':List (List AV)} (hid:s.ob id=some (.row sz es ver))
  {arr:Array Value} {cap:Nat} (hver:ver<ver') (hlen:es.length≤es'.length) (hes:∀e∈es',e.length=sz) (hcap:es'.length≤cap) (hmax:cap≤maxLen) (hsz:arr.size=cap*sz)
  (hr:RelL w ok s.ob G es'.flatten (arr.toList.take (es'.length*sz))) (e:TypeId):
  Inv B (w.alloc (.cells arr e)) ok { s with ob:=upd s.ob id (.row sz es' ver') } (setG G id ⟨w.heap.size,cap⟩)∧ObLe s.ob G (upd s.ob id (.row sz es' ver')) (setG G id ⟨w.heap.size,cap⟩)∧CellLe w ok (w.alloc (.cells arr e)) ok:=by
 obtain ⟨_,_,_,hfz,_⟩:=h.rows id sz es ver hid
 have hle:ObLe s.ob G (upd s.ob id (.row sz es' ver')) (setG G id ⟨w.heap.size,cap⟩):=by
  constructor
  ·intro i c hi
   have e:i≠id:=fun e=>by subst e;rw [hid] at hi;cases hi
   exact ⟨c,by rw [y00 e];exact hi,y5g e⟩
  ·intro i z ez v hi
   by_cases e:i=id
   ·subst e
    rw [hid] at hi
    cases hi
    exact ⟨es',ver',by simp,Nat.le_of_lt hver,fun e'=>by omega⟩
   ·exact ⟨ez,v,by rw [y00 e];exact hi,Nat.le_refl _,fun _=>⟨rfl,y5g e⟩⟩
  ·intro i es c hi
   have e:i≠id:=fun e=>by subst e;rw [hid] at hi;cases hi
   exact ⟨es,c,by rw [y00 e];exact hi,y5g e⟩
  ·intro i l hi
   have e:i≠id:=fun e=>by subst e;rw [hid] at hi;cases hi
   exact ⟨l,by rw [y00 e];exact hi,y5g e⟩
  ·intro i hi
   have e:i≠id:=fun e=>by subst e;rw [hid] at hi;cases hi
   exact ⟨by rw [y00 e];exact hi,y5g e⟩
 have hc:=y78 h (.cells arr e)
 refine ⟨h.set id _ _ _ (by simp) (fun i o _ hi=>ybl w _ (h.lt hi)) hc hle hB (fun i o _ hi=>Nat.ne_of_lt (h.lt hi)) (fun o ho=>absurd (h.okLt _ _ ho) (Nat.lt_irrefl _)) ?_,hle,hc⟩
 exact ⟨hes,hcap,hmax,by show s.fz id≤_;omega,arr,e,y9p w _,hsz,hr.mono hc hle⟩
theorem Inv.putObj {B:Nat} {w:World} {ok:Nat→Nat→Prop} {s:Sto} {G:Nat→GB} (h:Inv B w ok s G) {id:Nat} {o o':AObj} (hid:s.ob id=some o) (hno:∀sz es ver,o≠.row sz es ver) (O:Obj)
  (hle:ObLe s.ob G (upd s.ob id o') G) (hobj:CellLe w ok (w.putObj (G id).blk O) ok→(w.putObj (G id).blk O).heap[(G id).blk]? =some O→ObjOk (w.putObj (G id).blk O) ok (upd s.ob id o') G (s.fz id) (G id) o'):
  Inv B (w.putObj (G id).blk O) ok { s with ob:=upd s.ob id o' } G∧CellLe w ok (w.putObj (G id).blk O) ok:=by
 have hG:setG G id (G id)=G:=by funext k;simp [setG];intro e;rw [e]
 have hother:∀b,b≠(G id).blk→(w.putObj (G id).blk O).heap[b]? =w.heap[b]? :=fun b hb=>World.putObj_heap_other hb
 have hc:CellLe w ok (w.putObj (G id).blk O) ok:=by
  refine ⟨fun _ _ q=>q,fun b o q=> ?_⟩
  have:b≠(G id).blk:=fun e=>by
   obtain ⟨sz,es,ver,e',_⟩:=h.okFz b o id _ q hid e.symm
   exact hno _ _ _ e'
  exact y7t (hother b this)
 have:=h.set id o' (G id) (w.putObj (G id).blk O) (by rw [World.putObj_size];exact Nat.le_refl _)
  (fun i o e hi=>hother _ (fun e'=>e (h.inj i id _ _ hi hid e'))) hc (by rw [hG];exact hle) (h.base id _ hid)
  (fun i o e hi e'=>e (h.inj i id _ _ hi hid e'))
  (fun o ho=>by obtain ⟨sz,es,ver,e',_⟩:=h.okFz _ o id _ ho hid rfl;exact absurd e' (hno _ _ _))
  (by rw [hG];exact hobj hc (World.putObj_heap_same (h.lt hid)))
 rw [hG] at this
 exact ⟨this,hc⟩
theorem ObLe.mapSet {ob:Nat→Option AObj} {G:Nat→GB} {id:Nat} {es es':List AEnt} {c c':Nat} (hid:ob id=some (.map es c)):ObLe ob G (upd ob id (.map es' c')) G:=by
 constructor
 ·intro i c hi
  have e:i≠id:=fun e=>by subst e;rw [hid] at hi;cases hi
  exact ⟨c,by rw [y00 e];exact hi,rfl⟩
 ·intro i sz es ver hi
  have e:i≠id:=fun e=>by subst e;rw [hid] at hi;cases hi
  exact ⟨es,ver,by rw [y00 e];exact hi,Nat.le_refl _,fun _=>⟨rfl,rfl⟩⟩
 ·intro i ez c hi
  by_cases e:i=id
  ·subst e;exact ⟨es',c',by simp,rfl⟩
  ·exact ⟨ez,c,by rw [y00 e];exact hi,rfl⟩
 ·intro i l hi
  have e:i≠id:=fun e=>by subst e;rw [hid] at hi;cases hi
  exact ⟨l,by rw [y00 e];exact hi,rfl⟩
 ·intro i hi
  have e:i≠id:=fun e=>by subst e;rw [hid] at hi;cases hi
  exact ⟨by rw [y00 e];exact hi,rfl⟩
theorem ObLe.loopSet {ob:Nat→Option AObj} {G:Nat→GB} {id:Nat} {l l':ALoop} (hid:ob id=some (.loop l)):ObLe ob G (upd ob id (.loop l')) G:=by
 constructor
 ·intro i c hi
  have e:i≠id:=fun e=>by subst e;rw [hid] at hi;cases hi
  exact ⟨c,by rw [y00 e];exact hi,rfl⟩
 ·intro i sz es ver hi
  have e:i≠id:=fun e=>by subst e;rw [hid] at hi;cases hi
  exact ⟨es,ver,by rw [y00 e];exact hi,Nat.le_refl _,fun _=>⟨rfl,rfl⟩⟩
 ·intro i es c hi
  have e:i≠id:=fun e=>by subst e;rw [hid] at hi;cases hi
  exact ⟨es,c,by rw [y00 e];exact hi,rfl⟩
 ·intro i m hi
  by_cases e:i=id
  ·subst e;exact ⟨l',by simp,rfl⟩
  ·exact ⟨m,by rw [y00 e];exact hi,rfl⟩
 ·intro i hi
  have e:i≠id:=fun e=>by subst e;rw [hid] at hi;cases hi
  exact ⟨by rw [y00 e];exact hi,rfl⟩
theorem yab {ob0 ob:Nat→Option AObj} {k:Nat} {o:AObj} (h:shut ob0 ob k=some o):ob k=some o:=by
 unfold shut at h
 split at h
 ·rename_i hd
  split at h
  ·rw [hd];exact h
  ·cases h
 ·exact h
theorem y6k {ob0 ob:Nat→Option AObj} {k:Nat} {o:AObj} (h:ob k=some o) (hd:o≠.dfr):shut ob0 ob k=some o:=by
 unfold shut
 split
 ·rename_i hk;rw [h] at hk;cases hk;exact absurd rfl hd
 ·exact h
theorem yla {ob0 ob:Nat→Option AObj} {k:Nat} (h:ob k=none):shut ob0 ob k=none:=by
 unfold shut
 rw [h]
theorem yoa (ob0 ob:Nat→Option AObj) (G:Nat→GB):ObLe0 ob G (shut ob0 ob) G:=
 ⟨fun id cs h=>⟨cs,y6k h (by simp),rfl⟩,fun id sz es ver h=>⟨es,ver,y6k h (by simp),Nat.le_refl _,fun _=>⟨rfl,rfl⟩⟩,fun id es c h=>⟨es,c,y6k h (by simp),rfl⟩,fun id l h=>⟨l,y6k h (by simp),rfl⟩⟩
theorem yzu {ob0 ob:Nat→Option AObj} {G0 G:Nat→GB} (h:ObLe ob0 G0 ob G):ObLe ob0 G0 (shut ob0 ob) G:=by
 refine ⟨fun id cs hi=> ?_,fun id sz es ver hi=> ?_,fun id es c hi=> ?_,fun id l hi=> ?_,fun id hi=> ?_⟩
 ·obtain ⟨cs',h1,h2⟩:=h.box id cs hi;exact ⟨cs',y6k h1 (by simp),h2⟩
 ·obtain ⟨es',ver',h1,h2⟩:=h.row id sz es ver hi;exact ⟨es',ver',y6k h1 (by simp),h2⟩
 ·obtain ⟨es',c',h1,h2⟩:=h.map id es c hi;exact ⟨es',c',y6k h1 (by simp),h2⟩
 ·obtain ⟨l',h1,h2⟩:=h.loop id l hi;exact ⟨l',y6k h1 (by simp),h2⟩
 ·obtain ⟨h1,h2⟩:=h.dfr id hi
  refine ⟨?_,h2⟩
  unfold shut
  rw [h1,hi]
theorem Inv.shut {B:Nat} {w:World} {ok:Nat→Nat→Prop} {ob:Nat→Option AObj} {fz:Nat→Nat} {nx:Nat} {G:Nat→GB} (h:Inv B w ok ⟨ob,fz,nx⟩ G) (ob0:Nat→Option AObj):Inv B w ok ⟨Ev.shut ob0 ob,fz,nx⟩ G:=by
 refine ⟨h.okLt,fun b o id obj ho hob hb=>h.okFz b o id obj ho (yab hob) hb,fun i j o o' hi hj hg=>h.inj i j o o' (yab hi) (yab hj) hg,fun i o hi=>h.base i o (yab hi),fun i o hi=>(h.objs i o (yab hi)).mono0 (CellLe.refl _ _) (yoa _ _ _) rfl,fun i hi=> ?_⟩
 cases hob:ob i with
 | none=>exact h.fz0 i hob
 | some o=>
  by_cases hd:o=.dfr
  ·subst hd;exact (h.dfrs i hob).1
  ·rw [show (⟨Ev.shut ob0 ob,fz,nx⟩:Sto).ob i=Ev.shut ob0 ob i from rfl,y6k hob hd] at hi;cases hi
def dropI (id:Nat) (ob:Nat→Option AObj):Nat→Option AObj:=fun k=>if k=id then none else ob k
theorem y9h {ob:Nat→Option AObj} {id k:Nat} {o:AObj} (h:dropI id ob k=some o):k≠id∧ob k=some o:=by
 unfold dropI at h
 split at h
 ·cases h
 ·rename_i hk;exact ⟨hk,h⟩
theorem Inv.take {B:Nat} {w:World} {ok:Nat→Nat→Prop} {ob:Nat→Option AObj} {fz:Nat→Nat} {nx:Nat} {G:Nat→GB} (h:Inv B w ok ⟨ob,fz,nx⟩ G) {id:Nat} (hid:ob id=some .dfr) (O:Obj):
  Inv B (w.putObj (G id).blk O) ok ⟨dropI id ob,fz,nx⟩ G∧CellLe w ok (w.putObj (G id).blk O) ok∧ObLe0 ob G (dropI id ob) G:=by
 have hother:∀b,b≠(G id).blk→(w.putObj (G id).blk O).heap[b]? =w.heap[b]? :=fun b hb=>World.putObj_heap_other hb
 have hc:CellLe w ok (w.putObj (G id).blk O) ok:=by
  refine ⟨fun _ _ q=>q,fun b o q=> ?_⟩
  have:b≠(G id).blk:=fun e=>by
   obtain ⟨sz,es,ver,e',_⟩:=h.okFz b o id _ q hid e.symm
   cases e'
  exact y7t (hother b this)
 have hl:ObLe0 ob G (dropI id ob) G:=by
  have key:∀k o,ob k=some o→o≠.dfr→dropI id ob k=some o:=by
   intro k o hk ho
   unfold dropI
   rw [if_neg (fun e=>by subst e;rw [hid] at hk;cases hk;exact ho rfl)]
   exact hk
  exact ⟨fun i cs hi=>⟨cs,key _ _ hi (by simp),rfl⟩,fun i sz es ver hi=>⟨es,ver,key _ _ hi (by simp),Nat.le_refl _,fun _=>⟨rfl,rfl⟩⟩,fun i es c hi=>⟨es,c,key _ _ hi (by simp),rfl⟩,fun i l hi=>⟨l,key _ _ hi (by simp),rfl⟩⟩
 refine ⟨⟨fun b o q=>by rw [World.putObj_size];exact h.okLt b o q,fun b o i obj ho hob hb=>h.okFz b o i obj ho (y9h hob).2 hb,fun i j o o' hi hj hg=>h.inj i j o o' (y9h hi).2 (y9h hj).2 hg,fun i o hi=>h.base i o (y9h hi).2,fun i o hi=> ?_,fun i hi=> ?_⟩,hc,hl⟩
 ·obtain ⟨hne,hi⟩:=y9h hi
  exact (h.objs i o hi).mono0 hc hl (hother _ fun e=>hne (h.inj i id _ _ hi hid e))
 ·by_cases e:i=id
  ·subst e;exact (h.dfrs i hid).1
  ·refine h.fz0 i ?_
   have:dropI id ob i=none:=hi
   unfold dropI at this
   rwa [if_neg e] at this
structure OkLe (B:Nat) (ok ok':Nat→Nat→Prop):Prop where
 le:∀b o,ok b o→ok' b o
 new:∀b o,ok' b o→ok b o∨B≤b
theorem OkLe.refl (B:Nat) (ok:Nat→Nat→Prop):OkLe B ok ok:=⟨fun _ _ h=>h,fun _ _ h=>.inl h⟩
theorem OkLe.trans {B:Nat} {ok1 ok2 ok3:Nat→Nat→Prop} (h:OkLe B ok1 ok2) (k:OkLe B ok2 ok3):OkLe B ok1 ok3:=
 ⟨fun b o q=>k.le b o (h.le b o q),fun b o q=>(k.new b o q).elim (fun q=>h.new b o q) .inr⟩
theorem OkLe.cell {B:Nat} {ok ok':Nat→Nat→Prop} (h:OkLe B ok ok') (w:World):CellLe w ok w ok':=⟨h.le,fun _ _ _=>rfl⟩
theorem Inv.okUp {B:Nat} {w:World} {ok ok':Nat→Nat→Prop} {ob:Nat→Option AObj} {fz fz':Nat→Nat} {nx:Nat} {G:Nat→GB} (h:Inv B w ok ⟨ob,fz,nx⟩ G) (hle:OkLe B ok ok')
  (h1:∀b o,ok' b o→b<w.heap.size)
  (h2:∀b o id obj,ok' b o→ob id=some obj→(G id).blk=b→∃sz es ver,obj=.row sz es ver∧o<fz' id*sz)
  (h3:∀id sz es ver,ob id=some (.row sz es ver)→fz' id≤es.length) (h4:∀id,ob id=none→fz' id=0) (h5:∀id o,ob id=some o→(∀sz es ver,o≠.row sz es ver)→fz' id=fz id):Inv B w ok' ⟨ob,fz',nx⟩ G:=by
 have hc:=hle.cell w
 refine ⟨h1,h2,h.inj,h.base,fun i o hi=> ?_,h4⟩
 have ho:=(h.objs i o hi).mono hc (ObLe.refl ob G) rfl
 cases o with
 | box cs=>exact ho
 | row sz es ver=>obtain ⟨a1,a2,a3,a4,a5⟩:=ho;exact ⟨a1,a2,a3,h3 i sz es ver hi,a5⟩
 | map es c=>exact ⟨(h5 i _ hi (fun _ _ _ e=>by cases e)).trans ho.1,ho.2⟩
 | loop l=>exact ⟨(h5 i _ hi (fun _ _ _ e=>by cases e)).trans ho.1,ho.2⟩
 | dfr=>exact ⟨(h5 i _ hi (fun _ _ _ e=>by cases e)).trans ho.1,ho.2⟩
theorem Inv.hold {B:Nat} {w:World} {ok:Nat→Nat→Prop} {ob:Nat→Option AObj} {fz:Nat→Nat} {nx:Nat} {G:Nat→GB} (h:Inv B w ok ⟨ob,fz,nx⟩ G) {id sz ver:Nat} {es:List (List AV)} (hid:ob id=some (.row sz es ver)) {n:Nat} (hn:n≤es.length):
  ∃ok',Inv B w ok' ⟨ob,raise fz id n,nx⟩ G∧OkLe B ok ok'∧∀o,o<n*sz→ok' (G id).blk o:=by
 refine ⟨fun b o=>ok b o∨(b=(G id).blk∧o<n*sz), ?_,⟨fun _ _ q=>.inl q,fun b o q=>q.elim .inl fun q=>.inr (q.1 ▸ h.base id _ hid)⟩,fun o q=>.inr ⟨rfl,q⟩⟩
 refine h.okUp ⟨fun _ _ q=>.inl q,fun b o q=>q.elim .inl fun q=>.inr (q.1 ▸ h.base id _ hid)⟩ ?_ ?_ ?_ ?_ ?_
 ·intro b o q
  rcases q with q | ⟨rfl,_⟩
  ·exact h.okLt b o q
  ·exact h.lt hid
 ·intro b o i obj q hi hb
  rcases q with q | ⟨rfl,q⟩
  ·obtain ⟨z,ez,v,e,ho⟩:=h.okFz b o i obj q hi hb
   exact ⟨z,ez,v,e,Nat.lt_of_lt_of_le ho (Nat.mul_le_mul_right _ (yyc fz id n i))⟩
  ·obtain rfl:i=id:=h.inj i id _ _ hi hid hb
   obtain rfl:obj=.row sz es ver:=by
    have:some obj=some (AObj.row sz es ver):=hi.symm.trans hid
    injection this
   refine ⟨sz,es,ver,rfl,Nat.lt_of_lt_of_le q (Nat.mul_le_mul_right _ ?_)⟩
   rw [raise_same]
   exact Nat.le_max_right _ _
 ·intro i z ez v hi
  have h0:=(h.rows i z ez v hi).2.2.2.1
  by_cases e:i=id
  ·subst e
   obtain ⟨rfl,rfl,rfl⟩:sz=z∧es=ez∧ver=v:=by
    have:some (AObj.row sz es ver)=some (AObj.row z ez v):=hid.symm.trans hi
    injection this with this
    injection this with a b c
    exact ⟨a,b,c⟩
   rw [raise_same]
   exact Nat.max_le.2 ⟨h0,hn⟩
  ·rw [ybf e];exact h0
 ·intro i hi
  have e:i≠id:=fun e=>by subst e;rw [hid] at hi;cases hi
  rw [ybf e]
  exact h.fz0 i hi
 ·intro i o hi hno
  have e:i≠id:=fun e=>by subst e;rw [hid] at hi;cases hi;exact hno _ _ _ rfl
  exact ybf e
section
variable {B:Nat} {w:World} {ob:Nat→Option AObj} {nx:Nat} {G:Nat→GB}
theorem yd6 {α β γ:Type} {g:(Nat→Nat)→α→Option ((Nat→Nat)×β)} {R:(Nat→Nat→Prop)→α→γ→Prop} {R':(Nat→Nat→Prop)→β→γ→Prop}
  (hR:∀ok ok' x v,OkLe B ok ok'→R ok x v→R ok' x v) (hR':∀ok ok' y v,OkLe B ok ok'→R' ok y v→R' ok' y v)
  (hg:∀fz x fz' y,g fz x=some (fz',y)→∀ok v,Inv B w ok ⟨ob,fz,nx⟩ G→R ok x v→∃ok',Inv B w ok' ⟨ob,fz',nx⟩ G∧OkLe B ok ok'∧R' ok' y v):
  ∀(xs:List α) (fz fz':Nat→Nat) (ys:List β),mapFz g fz xs=some (fz',ys)→∀(ok:Nat→Nat→Prop) (vs:List γ),Inv B w ok ⟨ob,fz,nx⟩ G→xs.length=vs.length→
   (∀(j:Nat) (x:α) (v:γ),xs[j]? =some x→vs[j]? =some v→R ok x v)→
   ∃ok',Inv B w ok' ⟨ob,fz',nx⟩ G∧OkLe B ok ok'∧ys.length=vs.length∧∀(j:Nat) (y:β) (v:γ),ys[j]? =some y→vs[j]? =some v→R' ok' y v:=by
 intro xs
 induction xs with
 | nil=>
  intro fz fz' ys h ok vs hi hl _
  simp only [mapFz,Option.some.injEq,Prod.mk.injEq] at h
  obtain ⟨rfl,rfl⟩:=h
  exact ⟨ok,hi,OkLe.refl _ _,hl,fun j y v a _=>by simp at a⟩
 | cons x r ih=>
  intro fz fz' ys h ok vs hi hl hrel
  cases vs with
  | nil=>simp at hl
  | cons v vs=>
   simp only [mapFz] at h
   split at h
   ·rename_i fz1 y hgx
    split at h
    ·rename_i fz2 r' hrest
     simp only [Option.some.injEq,Prod.mk.injEq] at h
     obtain ⟨rfl,rfl⟩:=h
     obtain ⟨ok1,hi1,hle1,hy⟩:=hg _ _ _ _ hgx ok v hi (hrel 0 x v (by simp) (by simp))
     obtain ⟨ok2,hi2,hle2,hl2,hy2⟩:=ih fz1 fz2 r' hrest ok1 vs hi1 (by simpa using hl) (fun j x' v' a b=>hR _ _ _ _ hle1 (hrel (j+1) x' v' (by simpa using a) (by simpa using b)))
     refine ⟨ok2,hi2,hle1.trans hle2,by simp [hl2],fun j y' v' a b=> ?_⟩
     cases j with
     | zero=>simp at a b;subst a;subst b;exact hR' _ _ _ _ hle2 hy
     | succ j=>simp at a b;exact hy2 j y' v' a b
    ·cases h
   ·cases h
theorem y6w {id ver sz:Nat} {es:List (List AV)} (h:rowAt ob id ver=some (sz,es)):ob id=some (.row sz es ver):=by
 unfold rowAt at h
 split at h
 ·rename_i z ez v hob
  cases hb:Nat.beq v ver with
  | true=>
   simp only [hb,cond_true,Option.some.injEq,Prod.mk.injEq] at h
   obtain ⟨rfl,rfl⟩:=h
   rw [hob,Nat.eq_of_beq_eq_true hb]
  | false=>simp [hb] at h
 ·cases h
theorem y4g {a b:Nat} (h:Nat.ble a b=true):a≤b:=Nat.le_of_ble_eq_true h
theorem y77 {a b:Nat} (h:Nat.blt a b=true):a<b:=Nat.le_of_ble_eq_true h
theorem y05 {α:Type} {b:Bool} {x:Option α} {y:α} (h:(bif b then x else none)=some y):b=true∧x=some y:=by
 cases b<;>simp_all
theorem yhi {ok:Nat→Nat→Prop} {id ver zz lo len sz:Nat} {full:Bool} {es:List (List AV)} {v:Value} (h:Rel w ok ob G (.rsl id ver zz lo len full) v) (hid:ob id=some (.row sz es ver)):
  zz=sz∧lo+len≤es.length∧SlV (G id) sz lo len full v:=by
 cases h with
 | rsl _ _ z _ _ _ ez v h hle hv=>
  rw [hid] at h
  cases h
  exact ⟨rfl,hle,hv⟩
 | rslDead _ _ _ _ _ _ z ez ver' v h hlt hv=>
  rw [hid] at h
  cases h
  exact absurd hlt (Nat.lt_irrefl _)
theorem yt8:∀(d:Nat) (fz:Nat→Nat) (x:AV) (fz':Nat→Nat) (y:AV),frz ob d fz x=some (fz',y)→∀(ok:Nat→Nat→Prop) (v:Value),Inv B w ok ⟨ob,fz,nx⟩ G→Rel w ok ob G x v→
  ∃ok',Inv B w ok' ⟨ob,fz',nx⟩ G∧OkLe B ok ok'∧Rel w ok' noOb noG y v:=by
 intro d
 induction d with
 | zero=>intro fz x fz' y h;simp [frz] at h
 | succ d ih=>
  intro fz x fz' y h ok v hi hr
  cases x with
  | int k n=>simp only [frz,Option.some.injEq,Prod.mk.injEq] at h;obtain ⟨rfl,rfl⟩:=h;cases hr;exact ⟨ok,hi,OkLe.refl _ _,.int k n⟩
  | bool b=>simp only [frz,Option.some.injEq,Prod.mk.injEq] at h;obtain ⟨rfl,rfl⟩:=h;cases hr;exact ⟨ok,hi,OkLe.refl _ _,.bool b⟩
  | str s=>simp only [frz,Option.some.injEq,Prod.mk.injEq] at h;obtain ⟨rfl,rfl⟩:=h;cases hr;exact ⟨ok,hi,OkLe.refl _ _,.str s⟩
  | nilp=>simp only [frz,Option.some.injEq,Prod.mk.injEq] at h;obtain ⟨rfl,rfl⟩:=h;cases hr;exact ⟨ok,hi,OkLe.refl _ _,.nilp⟩
  | nilf=>simp only [frz,Option.some.injEq,Prod.mk.injEq] at h;obtain ⟨rfl,rfl⟩:=h;cases hr;exact ⟨ok,hi,OkLe.refl _ _,.nilf⟩
  | nils=>
   simp only [frz,Option.some.injEq,Prod.mk.injEq] at h
   obtain ⟨rfl,rfl⟩:=h
   cases hr
   exact ⟨ok,hi,OkLe.refl _ _,.sl false [] none 0 0 0 0 (fun _ _=>default) (by simp) (by simp [maxLen]) (by simp) (by simp) (by simp) (by simp) (by simp)⟩
  | sl full es=>
   simp only [frz,Option.some.injEq,Prod.mk.injEq] at h
   obtain ⟨rfl,rfl⟩:=h
   cases hr with
   | sl _ _ a cap sz b off f h1 h2 h3 h4 h5 h6 h7=>exact ⟨ok,hi,OkLe.refl _ _,.sl false es a cap sz b off f h1 h2 (by simp) h4 h5 h6 h7⟩
  | rsl id ver zz lo len full=>
   simp only [frz] at h
   split at h
   ·rename_i sz es hrow
    have hid:=y6w hrow
    obtain ⟨hle,h⟩:=y05 h
    have hle:=y4g hle
    split at h
    ·rename_i fz2 es' hmap
     simp only [Option.some.injEq,Prod.mk.injEq] at h
     obtain ⟨rfl,rfl⟩:=h
     obtain ⟨_,_,a,c,rfl,hc1,hc2,ha,_⟩:=yhi hr hid
     obtain ⟨hes,hcap,hmax,hfz,vs,et,hblk,hvs,hrl⟩:=hi.rows id sz es ver hid
     obtain ⟨ok1,hi1,hle1,hheld⟩:=hi.hold hid hle
     have hwin:∀e∈(es.drop lo).take len,e.length=sz:=fun e he=>hes e (List.mem_of_mem_drop (List.mem_of_mem_take he))
     have hwl:((es.drop lo).take len).length=len:=by rw [List.length_take,List.length_drop];omega
     let ws:List (List Value):=(List.range len).map fun i=>(vs.toList.drop ((lo+i)*sz)).take sz
     have hws:ws.length=len:=by simp [ws]
     have hvsl:es.length*sz≤vs.size:=by rw [hvs];exact Nat.mul_le_mul_right _ hcap
     obtain ⟨ok2,hi2,hle2,hl2,hr2⟩:=yd6 (B:=B) (w:=w) (ob:=ob) (nx:=nx) (G:=G) (g:=mapFz (frz ob d)) (R:=fun ok e (v:List Value)=>RelL w ok ob G e v) (R':=fun ok e (v:List Value)=>RelL w ok noOb noG e v)
      (fun ok ok' x v hl h=>h.mono (hl.cell w) (ObLe.refl _ _)) (fun ok ok' x v hl h=>h.mono (hl.cell w) (ObLe.refl _ _))
      (fun fz x fz' y hm ok v hi hx=>by
       obtain ⟨ok',a1,a2,a3,a4⟩:=yd6 (B:=B) (w:=w) (ob:=ob) (nx:=nx) (G:=G) (g:=frz ob d) (R:=fun ok e (v:Value)=>Rel w ok ob G e v) (R':=fun ok e (v:Value)=>Rel w ok noOb noG e v)
        (fun ok ok' x v hl h=>h.mono (hl.cell w) (ObLe.refl _ _)) (fun ok ok' x v hl h=>h.mono (hl.cell w) (ObLe.refl _ _))
        (fun fz x fz' y h ok v hi hx=>ih fz x fz' y h ok v hi hx) x fz fz' y hm ok v hi hx.1 hx.2
       exact ⟨ok',a1,a2,a3,a4⟩)
      _ _ _ _ hmap ok1 ws hi1 (by rw [hwl,hws]) (by
       intro i e v he hv
       have hi':i<len:=by
        have:=(List.getElem?_eq_some_iff.1 he).1
        omega
       have hei:es[lo+i]? =some e:=by
        rw [List.getElem?_take,if_pos hi',List.getElem?_drop] at he
        exact he
       have hilt:lo+i<es.length:=by omega
       have hv':v=(vs.toList.drop ((lo+i)*sz)).take sz:=by
        simp [ws,hi'] at hv
        exact hv.symm
       subst hv'
       have hb:(lo+i)*sz+sz≤es.length*sz:=by
        have:=Nat.mul_le_mul_right sz (show lo+i+1≤es.length by omega)
        rw [Nat.add_mul (lo+i)] at this
        omega
       refine ⟨by have:=hes e (List.mem_of_getElem? hei);rw [List.length_take,List.length_drop,Array.length_toList (xs:=vs)];omega,fun j x u a b=> ?_⟩
       have hj:j<sz:=by
        have:=(List.getElem?_eq_some_iff.1 a).1
        rw [hes e (List.mem_of_getElem? hei)] at this
        exact this
       refine (hrl.2 ((lo+i)*sz+j) x u (by rw [ybm hes hei hj];exact a) ?_).mono (hle1.cell w) (ObLe.refl _ _)
       rw [List.getElem?_take,if_pos hj,List.getElem?_drop] at b
       rw [List.getElem?_take,if_pos (by omega)]
       exact b)
     refine ⟨ok2,hi2,hle1.trans hle2, ?_⟩
     have hl':es'.length=len:=by rw [hl2,hws]
     have hel:∀(i:Nat) (e:List AV),es'[i]? =some e→i<len∧e.length=sz∧∀j x,e[j]? =some x→∃v,vs[(lo+i)*sz+j]? =some v∧Rel w ok2 noOb noG x v:=by
      intro i e he
      have hi':i<len:=by
       have:=(List.getElem?_eq_some_iff.1 he).1
       omega
      have hb:(lo+i)*sz+sz≤es.length*sz:=by
       have:=Nat.mul_le_mul_right sz (show lo+i+1≤es.length by omega)
       rw [Nat.add_mul (lo+i)] at this
       omega
      have hrel:=hr2 i e ((vs.toList.drop ((lo+i)*sz)).take sz) he (by simp [ws,hi'])
      have hlen:e.length=sz:=by rw [hrel.1,List.length_take,List.length_drop,Array.length_toList (xs:=vs)];omega
      refine ⟨hi',hlen,fun j x hx=> ?_⟩
      have hj:j<sz:=by
       have:=(List.getElem?_eq_some_iff.1 hx).1
       omega
      have hlt:(lo+i)*sz+j<vs.size:=by omega
      refine ⟨vs[(lo+i)*sz+j],by simp [hlt],hrel.2 j x _ hx ?_⟩
      rw [List.getElem?_take,if_pos hj,List.getElem?_drop]
      simp [hlt]
     rw [←hl']
     refine .sl false es' (some a) c sz (G id).blk (lo*sz) (fun i j=>(vs[(lo+i)*sz+j]?).getD default) (by omega) hc2 (by simp) ?_ ?_ ?_ ?_
     ·intro e he
      obtain ⟨i,hi',rfl⟩:=List.getElem_of_mem he
      exact (hel i es'[i] (by simp [hi'])).2.1
     ·intro hne
      have:0<es'.length:=by cases es' with | nil=>exact absurd rfl hne | cons=>simp
      rw [ha (by omega)]
     ·intro i e j he hj
      obtain ⟨hi',hlen,hcell⟩:=hel i e he
      obtain ⟨u,hu,_⟩:=hcell j e[j] (by simp [hj])
      have heq:lo*sz+(i*sz+j)=(lo+i)*sz+j:=by rw [Nat.add_mul];omega
      rw [heq]
      refine ⟨by rw [ya3 hblk,hu];rfl,hle2.le _ _ (hheld _ ?_)⟩
      have:=Nat.mul_le_mul_right sz (show lo+i+1≤lo+len by omega)
      rw [Nat.add_mul (lo+i)] at this
      omega
     ·intro i e j x he hx
      obtain ⟨_,_,hcell⟩:=hel i e he
      obtain ⟨u,hu,hux⟩:=hcell j x hx
      show Rel w ok2 noOb noG x ((vs[(lo+i)*sz+j]?).getD default)
      rw [hu]
      exact hux
    ·cases h
   ·cases h
  | box id off=>simp [frz] at h
  | raddr id ver i off=>simp [frz] at h
  | saddr es i off=>simp [frz] at h
  | fn f first caps=>
   cases first with
   | cons a r=>simp [frz] at h
   | nil=>
    cases caps with
    | cons a r=>simp [frz] at h
    | nil=>
     simp only [frz,Option.some.injEq,Prod.mk.injEq] at h
     obtain ⟨rfl,rfl⟩:=h
     cases hr with
     | fn _ _ _ vs us h1 h2 r1 r2=>exact ⟨ok,hi,OkLe.refl _ _,.fn f [] [] vs us h1 h2 (fun j x v a _=>by simp at a) (fun j x v a _=>by simp at a)⟩
  | yld l=>simp [frz] at h
  | mp l=>simp [frz] at h
  | nilm=>simp [frz] at h
theorem yzz (d:Nat) {fz fz':Nat→Nat} {xs ys:List AV} (h:mapFz (frz ob d) fz xs=some (fz',ys)) {ok:Nat→Nat→Prop} {vs:List Value} (hi:Inv B w ok ⟨ob,fz,nx⟩ G) (hr:RelL w ok ob G xs vs):
  ∃ok',Inv B w ok' ⟨ob,fz',nx⟩ G∧OkLe B ok ok'∧RelL w ok' noOb noG ys vs:=by
 obtain ⟨ok',a1,a2,a3,a4⟩:=yd6 (B:=B) (w:=w) (ob:=ob) (nx:=nx) (G:=G) (g:=frz ob d) (R:=fun ok e (v:Value)=>Rel w ok ob G e v) (R':=fun ok e (v:Value)=>Rel w ok noOb noG e v)
  (fun ok ok' x v hl h=>h.mono (hl.cell w) (ObLe.refl _ _)) (fun ok ok' x v hl h=>h.mono (hl.cell w) (ObLe.refl _ _))
  (fun fz x fz' y h ok v hi hx=>yt8 d fz x fz' y h ok v hi hx) xs fz fz' ys h ok vs hi hr.1 hr.2
 exact ⟨ok',a1,a2,a3,a4⟩
theorem ykb {fz fz':Nat→Nat} {x y:SV} (h:frzS ob fz x=some (fz',y)) {ok:Nat→Nat→Prop} {v:Value} (hi:Inv B w ok ⟨ob,fz,nx⟩ G) (hr:RelS w ok ob G x v):
  ∃ok',Inv B w ok' ⟨ob,fz',nx⟩ G∧OkLe B ok ok'∧RelS w ok' noOb noG y v:=by
 cases hr with
 | one x v hr=>
  simp only [frzS] at h
  split at h
  ·rename_i fz2 v' hf
   simp only [Option.some.injEq,Prod.mk.injEq] at h
   obtain ⟨rfl,rfl⟩:=h
   obtain ⟨ok',a1,a2,a3⟩:=yt8 _ _ _ _ _ hf ok v hi hr
   exact ⟨ok',a1,a2,.one _ _ a3⟩
  ·cases h
 | agg xs vs hr=>
  simp only [frzS] at h
  split at h
  ·rename_i fz2 v' hf
   simp only [Option.some.injEq,Prod.mk.injEq] at h
   obtain ⟨rfl,rfl⟩:=h
   obtain ⟨ok',a1,a2,a3⟩:=yzz _ hf hi hr
   exact ⟨ok',a1,a2,.agg _ _ a3⟩
  ·cases h
 | tup xs vs h1 h2=>simp [frzS] at h
 | unk v=>simp [frzS] at h
theorem ypf {fz fz':Nat→Nat} {xs ys:List SV} (h:mapFz (frzS ob) fz xs=some (fz',ys)) {ok:Nat→Nat→Prop} {vs:List Value} (hi:Inv B w ok ⟨ob,fz,nx⟩ G) (hl:xs.length=vs.length)
  (hr:∀(j:Nat) (x:SV) (v:Value),xs[j]? =some x→vs[j]? =some v→RelS w ok ob G x v):
  ∃ok',Inv B w ok' ⟨ob,fz',nx⟩ G∧OkLe B ok ok'∧ys.length=vs.length∧∀(j:Nat) (x:SV) (v:Value),ys[j]? =some x→vs[j]? =some v→RelS w ok' noOb noG x v:=
 yd6 (B:=B) (w:=w) (ob:=ob) (nx:=nx) (G:=G) (g:=frzS ob) (R:=fun ok e (v:Value)=>RelS w ok ob G e v) (R':=fun ok e (v:Value)=>RelS w ok noOb noG e v)
  (fun ok ok' x v hl h=>h.mono (hl.cell w) (ObLe.refl _ _)) (fun ok ok' x v hl h=>h.mono (hl.cell w) (ObLe.refl _ _))
  (fun fz x fz' y h ok v hi hx=>ykb h hi hx) xs fz fz' ys h ok vs hi hl hr
theorem yr1 {fz fz':Nat→Nat} {x y:SV} (h:frzR ob fz x=some (fz',y)) {ok:Nat→Nat→Prop} {v:Value} (hi:Inv B w ok ⟨ob,fz,nx⟩ G) (hr:RelS w ok ob G x v):
  ∃ok',Inv B w ok' ⟨ob,fz',nx⟩ G∧OkLe B ok ok'∧RelS w ok' noOb noG y v:=by
 cases hr with
 | one x v hr=>exact ykb (by simpa only [frzR] using h) hi (.one x v hr)
 | agg xs vs hr=>exact ykb (by simpa only [frzR] using h) hi (.agg xs vs hr)
 | tup xs vs h1 h2=>
  simp only [frzR] at h
  split at h
  ·rename_i fz2 v' hf
   simp only [Option.some.injEq,Prod.mk.injEq] at h
   obtain ⟨rfl,rfl⟩:=h
   obtain ⟨ok',a1,a2,a3,a4⟩:=ypf hf hi h1 h2
   exact ⟨ok',a1,a2,.tup _ _ a3 a4⟩
  ·cases h
 | unk v=>simp [frzR,frzS] at h
end
theorem RelS.any {w:World} {ok:Nat→Nat→Prop} {x:SV} {v:Value} (h:RelS w ok noOb noG x v) (ob:Nat→Option AObj) (G:Nat→GB):RelS w ok ob G x v:=h.mono (CellLe.refl _ _) (ybt _ _)
theorem Rel.any {w:World} {ok:Nat→Nat→Prop} {x:AV} {v:Value} (h:Rel w ok noOb noG x v) (ob:Nat→Option AObj) (G:Nat→GB):Rel w ok ob G x v:=h.mono (CellLe.refl _ _) (ybt _ _)
theorem Inv.empty {w:World} {ok:Nat→Nat→Prop} (B:Nat) (h:∀b o,ok b o→b<w.heap.size):Inv B w ok Sto.empty noG:=
 ⟨h,fun _ _ _ _ _ h=>by simp [Sto.empty] at h,fun _ _ _ _ h=>by simp [Sto.empty] at h,fun _ _ h=>by simp [Sto.empty] at h,fun _ _ h=>by simp [Sto.empty] at h,fun _ _=>rfl⟩
theorem Inv.called {B:Nat} {w w':World} {ok ok':Nat→Nat→Prop} {s:Sto} {G:Nat→GB} (h:Inv B w ok s G) (hB:B≤w.heap.size) (hb:Below w.heap.size w w') (hle:OkLe w.heap.size ok ok') (hlt:∀b o,ok' b o→b<w'.heap.size):
  Inv B w' ok' s G∧CellLe w ok w' ok'∧OkLe B ok ok':=by
 have hc:CellLe w ok w' ok':=⟨hle.le,fun b o q=>y7t (hb.block b (h.okLt b o q))⟩
 refine ⟨⟨hlt, ?_,h.inj,h.base, ?_,h.fz0⟩,hc,⟨hle.le,fun b o q=>(hle.new b o q).elim .inl fun q=>.inr (Nat.le_trans hB q)⟩⟩
 ·intro b o id obj q hid hblk
  have hlt':=h.lt hid
  rcases hle.new b o q with q | q
  ·exact h.okFz b o id obj q hid hblk
  ·omega
 ·intro i o hi
  exact (h.objs i o hi).mono hc (ObLe.refl _ _) (hb.block _ (h.lt hi))
end Go.Ev
namespace Go.Ev
open Go.RowKit
variable [Cd]
def cVal1:Value→Option AV
 | .int k n=>some (.int k n)
 | .bool b=>some (.bool b)
 | .string s=>some (.str s)
 | .pointer none=>some .nilp
 | .slice none 0 0=>some .nils
 | .nilFunc=>some .nilf
 | .map none=>some .nilm
 | _=>none
def cVal:Value→Option SV
 | .agg cs=>match cs.toList.mapM cVal1 with
  | some l=>some (.agg l)
  | none=>none
 | v=>match cVal1 v with
  | some x=>some (.one x)
  | none=>none
def cOpd:Operand→Option Opd
 | .tmp t=>some (.t t)
 | .const v=>match cVal v with
  | some x=>some (.c x)
  | none=>none
 | .func f=>some (.f f)
 | .global _=>none
def cOpdO:Option Operand→Option (Option Opd)
 | none=>some none
 | some x=>match cOpd x with
  | some y=>some (some y)
  | none=>none
def tSize (P:Program) (t:TypeId):Option Nat:=(P.info? t).map (·.size)
def tAgg (P:Program) (t:TypeId):Option Bool:=match P.underlying t with
 | some (.struct _) | some (.array _ _)=>some true
 | some _=>some false
 | none=>none
def tZero (P:Program) (t:TypeId):Option (List AV):=match (P.info? t).bind (·.zero) with
 | some z=>z.cells.toList.mapM cVal1
 | none=>none
def tSlice (P:Program) (t:TypeId):Option TypeId:=match P.underlying t with
 | some (.slice e)=>some e
 | _=>none
def cParts (P:Program) (place:Nat→Option (Nat×Nat)):List (Nat×Operand)→Option (List (Nat×Nat×Opd))
 | []=>some []
 |(i,x)::r=>match place i,cOpd x,cParts P place r with
  | some (off,n),some y,some l=>some ((off,n,y)::l)
  | _,_,_=>none
def fieldPlaces (P:Program) (fs:List Field):Option (List (Nat×Nat)):=fs.mapM fun f=>(tSize P f.type).map fun n=>(f.offset,n)
def keyKind (P:Program) (t:TypeId):Option KK:=match P.underlying t with
 | some (.int k)=>some (.int k)
 | some .bool=>some .bool
 | some .string=>some .str
 | _=>none
def zeroSV (P:Program) (t:TypeId):Option SV:=match (P.info? t).bind (·.zero) with
 | some z=>cVal z
 | none=>none
def tMap (P:Program) (t:TypeId):Option (TypeId×TypeId):=match P.underlying t with
 | some (.map k e)=>some (k,e)
 | _=>none
def isNilS:Operand→Bool
 | .const (.slice none 0 0)=>true
 | _=>false
def flatFs (P:Program):Nat→List Field→Option (List KK)
 | _,[]=>some []
 | i, f :: r => if f.offset = i ∧ f.name ≠ "_" then (match keyKind P f.type, flatFs P (i + 1) r with | some k, some l => some (k :: l) | _, _ => none) else none
def flatT (P:Program) (t:TypeId):Option (List KK):=match P.underlying t with
 | some (.struct fs)=>if P.stoodInHeld t=false∧P.eqGuardType P.depth t=false then flatFs P 0 fs.toList else none
 | some (.array n e)=>if P.cellsOf e=1∧P.eqGuardType P.depth t=false then (keyKind P e).map fun k=>List.replicate n k else none
 | _=>none
def cEqa (P:Program) (t:TypeId) (x y:Option Opd) (op:BinOp):Option AOp:=match flatT P t,x,y with
 | some ks,some x,some y=>match op with
  | .eql=>some (.eqa false ks x y)
  | .neq=>some (.eqa true ks x y)
  | _=>none
 | _,_,_=>none
def cEqn (op:BinOp) (nil:Bool):Option Opd→Option AOp
 | some x=>match nil,op with
  | true,.eql=>some (.eqn false x)
  | true,.neq=>some (.eqn true x)
  | _,_=>none
 | none=>none
def callable (P:Program) (f:FuncId):Bool:=match P.funcs[f]? with
 | some fn => fn.body.isSome && !(fn.name == "runtime.NumGoroutine")
 | none=>false
def cOp (P:Program) (br:FuncId→Bool):Op→Option AOp
 | .move x | .assign x=>do some (.mov (←cOpd x))
 | .pick c a b=>do some (.pick (←cOpd c) (←cOpd a) (←cOpd b))
 | .alloc e=>do some (.alloc (←tZero P e))
 | .box _ x=>do some (.box (←cOpd x))
 | .build t ps=>match P.underlying t with
  | some (.struct fs)=>do
   let pl ←fieldPlaces P fs.toList
   some (.build (←tZero P t) (←cParts P (pl[·]?) ps.toList))
  | some (.array _ e)=>do
   let n ←tSize P e
   some (.build (←tZero P t) (←cParts P (fun i=>some (i*n,n)) ps.toList))
  | _=>none
 | .buildSlice t len ps=>do
  let e ←tSlice P t
  let n ←tSize P e
  let z ←tZero P e
  let l ←cParts P (fun i=>some (i,n)) ps.toList
  if z.length=n∧len*n≤16777216∧0<n then some (.bslice n z len (l.map fun x=>(x.1,x.2.2))) else none
 | .load t a=>do
  let agg ←tAgg P t
  let n ←tSize P t
  if agg=true∨n=1 then some (.load agg n (←cOpd a)) else none
 | .store t a x=>do some (.store (←tSize P t) (←cOpd a) (←cOpd x))
 | .nilCheck x=>do some (.nilc (←cOpd x))
 | .binOp op t x y _=>match P.underlying t with
  | some .bool=>match op with
   | .eql=>do some (.beq false (←cOpd x) (←cOpd y))
   | .neq=>do some (.beq true (←cOpd x) (←cOpd y))
   | _=>none
  | some (.int _) | some .string=>do some (.bin op (←cOpd x) (←cOpd y))
  | some (.slice _)=>cEqn op (isNilS y) (cOpd x)
  | some (.struct _) | some (.array _ _)=>cEqa P t (cOpd x) (cOpd y) op
  | _=>none
 | .unOp op _ x=>do some (.un op (←cOpd x))
 | .convert s d x=>match P.underlying s,P.underlying d with
  | some (.int _),some (.int k)=>do some (.cnv k (←cOpd x))
  | some (.slice e),some .string=>match P.underlying e with
   | some (.int .u8)=>do some (.b2s (←cOpd x))
   | _=>none
  | _,_=>none
 | .makeSlice t l c=>do
  let e ←tSlice P t
  let n ←tSize P e
  let z ←tZero P e
  let i ←P.info? e
  if z.length=n then some (.mks n i.bytes z (←cOpd l) (←cOpd c)) else none
 | .slice t x lo hi mx=>match P.underlying t with
  | some (.slice e)=>do some (.slic (←tSize P e) (←cOpd x) (←cOpdO lo) (←cOpdO hi) (←cOpdO mx))
  | some .string=>match mx with
   | none=>do some (.slcS (←cOpd x) (←cOpdO lo) (←cOpdO hi))
   | some _=>none
  | _=>none
 | .fieldAddr t x f=>match P.underlying t with
  | some (.struct fs)=>match fs[f]? with
   | some fd=>do
    let n ←tSize P fd.type
    if n=0 then none else some (.fadr fd.offset (←cOpd x))
   | none=>none
  | _=>none
 | .field t x f=>match P.underlying t with
  | some (.struct fs)=>match fs[f]? with
   | some fd=>do
    let agg ←tAgg P fd.type
    let n ←tSize P fd.type
    if agg=true∨n=1 then some (.fld agg n fd.offset (←cOpd x)) else none
   | none=>none
  | _=>none
 | .indexAddr t x i=>match P.underlying t with
  | some (.slice e)=>do some (.iadr (←tSize P e) (←cOpd x) (←cOpd i))
  | some (.array len e)=>do some (.iarr (←tSize P e) len (←cOpd x) (←cOpd i))
  | _=>none
 | .index t x i=>match P.underlying t with
  | some (.array len e)=>do
   let agg ←tAgg P e
   let n ←tSize P e
   if agg=true∨n=1 then some (.idxA agg n n len (←cOpd x) (←cOpd i)) else none
  | some .string=>do some (.idxS (←cOpd x) (←cOpd i))
  | _=>none
 | .extract x i=>do some (.ext (←cOpd x) i)
 | .makeFunc fn first caps=>match fn with
  | .func f=>do some (.mkf f (←first.toList.mapM cOpd) (←caps.toList.mapM cOpd))
  | _=>none
 | .makeMap t r=>do
  let _ ←tMap P t
  match r with
  | none=>some .mkm
  | some (.const (.int _ _))=>some .mkm
  | _=>none
 | .lookup t x k ok=>do
  let m ←tMap P t
  some (.lkup (←keyKind P m.1) (←zeroSV P m.2) ok (←cOpd x) (←cOpd k))
 | .mapUpdate t x k v=>do
  let m ←tMap P t
  some (.mput (←keyKind P m.1) (←cOpd x) (←cOpd k) (←cOpd v))
 | .insert t x k v=>do
  let m ←tMap P t
  some (.mput (←keyKind P m.1) (←cOpd x) (←cOpd k) (←cOpd v))
 | .mapEntry t x k=>do
  let m ←tMap P t
  some (.ment (←keyKind P m.1) (←zeroSV P m.2) (←cOpd x) (←cOpd k))
 | .entryStore t x c v=>do some (.mset (←cOpd x) (←cOpd c) (←cOpd v))
 | .call c=>match c.callee with
  | .builtin .len=>match c.args.toList,c.argTypes[0]? with
   | [x],some t=>match P.underlying t with
    | some (.slice _)=>do some (.len false (←cOpd x))
    | some .string=>do some (.len true (←cOpd x))
    | some (.map _ _)=>do some (.mlen (←cOpd x))
    | _=>none
   | _,_=>none
  | .builtin .clear=>match c.args.toList,c.argTypes[0]? with
   | [x],some t=>match P.underlying t with
    | some (.map _ _)=>do some (.mclr (←cOpd x))
    | _=>none
   | _,_=>none
  | .builtin .append=>match c.args.toList,c.argTypes.toList with
   | [x,y],[t,t2]=>do
    let e ←tSlice P t
    let e2 ←tSlice P t2
    let n ←tSize P e
    let i ←P.info? e
    let z ←tZero P e
    if z.length=n∧0<n∧0<i.bytes then some (.app n i.bytes (←cOpd x) (←cOpd y)) else none
   | _,_=>none
  | .builtin .copy=>match c.args.toList,c.argTypes.toList with
   | [x,y],[t,t2]=>do
    let _ ←tSlice P t2
    let e ←tSlice P t
    let n ←tSize P e
    if 0<n then some (.cpy n (←cOpd x) (←cOpd y)) else none
   | _,_=>none
  | .value (.func f)=>if callable P f=true then do some (.call (br f) f (←c.args.toList.mapM cOpd)) else none
  | .value x=>do some (.callv (←cOpd x) (←c.args.toList.mapM cOpd))
  | _=>none
 | _=>none
section
variable {P:Program} {w:World} {ok:Nat→Nat→Prop} {ob:Nat→Option AObj} {G:Nat→GB} {sl:Nat→SV} {a:Act}
theorem yal {sl:Nat→SV} {d:Nat} {v:SV}:putS sl (some d) v d=v:=by simp [putS]
theorem y9v {sl:Nat→SV} {d t:Nat} {v:SV} (h:d≠t):putS sl (some d) v t=sl t:=by
 have:Nat.beq d t=false:=by
  cases hb:Nat.beq d t with
  | false=>rfl
  | true=>exact absurd (Nat.eq_of_beq_eq_true hb) h
 simp [putS,this]
theorem RelT.put (h:RelT w ok ob G sl a.tmps) (d:Option Nat) (hd:∀t,d=some t→t<a.tmps.size) {x:SV} {v:Value} (hr:RelS w ok ob G x v):RelT w ok ob G (putS sl d x) (a.put d v).tmps:=by
 cases d with
 | none=>exact h
 | some d=>
  intro t
  by_cases e:d=t
  ·subst e
   have:=hd d rfl
   rw [yal]
   simpa [Act.put,Array.getD_eq_getD_getElem?,this] using hr
  ·rw [y9v e]
   have:=h t
   simpa [Act.put,Array.getD_eq_getD_getElem?,Array.getElem?_setIfInBounds,e] using this
theorem y80:RelS w ok ob G SV.undef undef:=by
 have:=RelS.tup (w:=w) (ok:=ok) (ob:=ob) (G:=G) [] [] rfl (fun j x v p _=>by simp at p)
 exact this
theorem RelT.getD (h:RelT w ok ob G sl a.tmps) (t:Nat):RelS w ok ob G (sl t) (a.tmps.getD t undef):=h t
theorem RelT.keep {tmps:Array Value} (h:RelT w ok ob G sl tmps) (ks:List Nat):RelT w ok ob G (keep ks sl) tmps:=by
 intro t
 unfold Ev.keep
 cases memN t ks with
 | true=>exact h t
 | false=>exact .unk _
theorem ylw {v:Value} {x:AV} (h:cVal1 v=some x):Rel w ok ob G x v:=by
 unfold cVal1 at h
 split at h<;>first | (cases h;first | exact .int _ _ | exact .bool _ | exact .str _ | exact .nilp | exact .nils | exact .nilf | exact .nilm) | cases h
theorem mapM_cons {α β:Type} (f:α→Option β) (x:α) (r:List α) (ys:List β):(x::r).mapM f=some ys↔∃y l,f x=some y∧r.mapM f=some l∧ys=y::l:=by
 rw [List.mapM_cons]
 constructor
 ·intro h
  cases h1:f x with
  | none=>simp [h1] at h
  | some y=>
   cases h2:r.mapM f with
   | none=>simp [h1,h2] at h
   | some l=>simp [h1,h2] at h;exact ⟨y,l,rfl,rfl,h.symm⟩
 ·rintro ⟨y,l,h1,h2,rfl⟩
  simp [h1,h2]
theorem y8p {α β:Type} {f:α→Option β}:∀{xs:List α} {ys:List β},xs.mapM f=some ys→xs.length=ys.length∧∀(j:Nat) (x:α) (y:β),xs[j]? =some x→ys[j]? =some y→f x=some y
 | [],ys,h=>by simp at h;subst h;exact ⟨rfl,fun j x y p _=>by simp at p⟩
 | x::r,ys,h=>by
  obtain ⟨y,l,h1,h2,rfl⟩:=(mapM_cons f x r ys).1 h
  obtain ⟨a,b⟩:=y8p h2
  refine ⟨by simp [a],fun j u v p q=> ?_⟩
  cases j with
  | zero=>simp at p q;subst p;subst q;exact h1
  | succ j=>simp at p q;exact b j u v p q
theorem yia {vs:List Value} {xs:List AV} (h:vs.mapM cVal1=some xs):RelL w ok ob G xs vs:=by
 obtain ⟨h1,h2⟩:=y8p h
 exact ⟨h1.symm,fun j x v p q=>ylw (h2 j v x q p)⟩
theorem yoo {v:Value} {x:SV} (h:cVal v=some x):RelS w ok ob G x v:=by
 unfold cVal at h
 split at h
 ·split at h
  ·rename_i cs l hl
   cases h
   have:=RelS.agg (w:=w) (ok:=ok) (ob:=ob) (G:=G) _ _ (yia hl)
   simpa using this
  ·cases h
 ·split at h
  ·rename_i x hx
   cases h
   exact .one _ _ (ylw hx)
  ·cases h
theorem y0a (hT:RelT w ok ob G sl a.tmps) {x:Operand} {y:Opd} (h:cOpd x=some y):RelS w ok ob G (y.ev sl) (a.eval x):=by
 cases x with
 | tmp t=>simp [cOpd] at h;subst h;exact hT.getD t
 | const v=>
  simp only [cOpd] at h
  split at h
  ·rename_i s hs
   cases h
   exact yoo hs
  ·cases h
 | global g=>simp [cOpd] at h
 | func f=>
  simp [cOpd] at h
  subst h
  exact .one _ _ (.fn f [] [] [] [] rfl rfl (fun j x v p _=>by simp at p) (fun j x v p _=>by simp at p))
theorem ylc (hT:RelT w ok ob G sl a.tmps) {xs:List Operand} {ys:List Opd} (h:xs.mapM cOpd=some ys):
  (ys.map (·.ev sl)).length=(xs.map a.eval).length∧∀(j:Nat) (y:SV) (v:Value),(ys.map (·.ev sl))[j]? =some y→(xs.map a.eval)[j]? =some v→RelS w ok ob G y v:=by
 obtain ⟨h1,h2⟩:=y8p h
 refine ⟨by simp [h1],fun j y v p q=> ?_⟩
 rw [List.getElem?_map,Option.map_eq_some_iff] at p q
 obtain ⟨y',p1,rfl⟩:=p
 obtain ⟨x',q1,rfl⟩:=q
 exact y0a hT (h2 j x' y' q1 p1)
theorem y7z {x:SV} {v:Value} {n:Int} (h:isInt x=some n) (hr:RelS w ok ob G x v):∃k,v=.int k n:=by
 unfold isInt at h
 split at h
 ·cases h
  cases hr with
  | one _ _ hr=>cases hr;exact ⟨_,rfl⟩
 ·cases h
theorem yas {x:SV} {v:Value} {b:Bool} (h:isBool x=some b) (hr:RelS w ok ob G x v):v=.bool b:=by
 unfold isBool at h
 split at h
 ·cases h
  cases hr with
  | one _ _ hr=>cases hr;rfl
 ·cases h
theorem yps {x:SV} {v:Value} (hu:x≠.unk) (h:isBool x=none) (hr:RelS w ok ob G x v):∀b,v≠.bool b:=by
 intro b e
 subst e
 cases hr with
 | one _ _ hr=>cases hr<;>first | (simp [isBool] at h;done) | (rename_i hv;obtain ⟨_,_,e,_⟩:=hv;cases e)
 | unk=>exact hu rfl
theorem y7k {i:Int} {n:Nat} (h:natOf i=some n):0≤i∧i=n∧i.toNat=n:=by
 unfold natOf at h
 split at h
 ·cases h;omega
 ·cases h
theorem yl7 {agg:Bool} {cs:List AV} {x:SV} (h:asOne agg cs=some x) {vs:List Value} (hr:RelL w ok ob G cs vs):
  (agg=true→x=.agg cs)∧(agg=false→∃v y,vs=[v]∧cs=[y]∧x=.one y∧Rel w ok ob G y v):=by
 cases agg with
 | true=>simp [asOne] at h;exact ⟨fun _=>h.symm,fun e=>by cases e⟩
 | false=>
  refine ⟨fun e=>(by cases e),fun _=> ?_⟩
  simp only [asOne,cond_false] at h
  split at h
  ·rename_i y
   cases h
   obtain ⟨hl,hr⟩:=hr
   match vs,hl with
   | [v],_=>exact ⟨v,y,rfl,rfl,rfl,hr 0 y v (by simp) (by simp)⟩
  ·cases h
theorem yro {cs ds:List AV} {off n:Nat} (h:sub cs off n=some ds) {vs:List Value} (hr:RelL w ok ob G cs vs):RelL w ok ob G ds ((vs.drop off).take n)∧off+n≤vs.length∧ds.length=n:=by
 obtain ⟨hb,h⟩:=y05 h
 cases h
 have hb:=y4g hb
 refine ⟨(hr.drop off).take n,by rw [←hr.1];exact hb,by rw [List.length_take,List.length_drop];omega⟩
theorem yqi {cs ds xs:List AV} {off:Nat} (h:put cs off xs=some ds) {vs us:List Value} (hr:RelL w ok ob G cs vs) (hx:RelL w ok ob G xs us):
  RelL w ok ob G ds (vs.take off++us++vs.drop (off+us.length))∧off+us.length≤vs.length∧ds.length=cs.length:=by
 obtain ⟨hb,h⟩:=y05 h
 cases h
 have hb:=y4g hb
 rw [hx.1] at hb
 refine ⟨((hr.take off).append hx).append ?_,by rw [←hr.1];exact hb, ?_⟩
 ·rw [hx.1];exact hr.drop _
 ·simp only [List.length_append,List.length_take,List.length_drop,hx.1];omega
end
end Go.Ev
namespace Go.Ev
open Go.RowKit
variable [Cd]
theorem add_mid (b o j:Nat):(⟨b,o,none⟩:Addr).add j=⟨b,o+j,none⟩:=Addr.add_mid b o j
section
variable {P:Program} {br:FuncId→Bool} {F:Caller} {draw:Bool} {rb id:Nat} {st:St} {w:World} {ok:Nat→Nat→Prop} {G:Nat→GB} {a:Act} {o:Oper}
def Pure1 (P:Program) (w:World) (ok:Nat→Nat→Prop) (ob:Nat→Option AObj) (G:Nat→GB) (a:Act) (o:Oper) (x:SV):Prop:=
 ∃v,(execOp a.eval o).run P w=.ok (.value v) w∧RelS w ok ob G x v
theorem yar {t:TypeId} {n:Nat} (h:tSize P t=some n):∃i,P.info? t=some i∧i.size=n:=by
 unfold tSize at h
 cases hq:P.info? t with
 | none=>simp [hq] at h
 | some i=>simp [hq] at h;exact ⟨i,rfl,h⟩
theorem y4x {t:TypeId} {n:Nat} (h:tSize P t=some n) (w:World):(sizeOf t).run P w=.ok n w:=by
 obtain ⟨i,hi,rfl⟩:=yar h
 simp [sizeOf,typeInfo,hi]
theorem yc5 {t:TypeId} {b:Bool} (h:tAgg P t=some b) (w:World):(isAgg t).run P w=.ok b w:=by
 unfold tAgg at h
 split at h
 ·rename_i fs hu;cases h;simp [isAgg,run_underlying hu]
 ·rename_i n e hu;cases h;simp [isAgg,run_underlying hu]
 ·rename_i d hn1 hn2 hu
  cases h
  simp only [isAgg,Sem.run_bind,run_underlying hu,Result.andThen_ok]
  cases d<;>first | rfl | (exact absurd hu (hn1 _)) | (exact absurd hu (hn2 _ _))
 ·cases h
theorem ynq (hT:RelT w ok st.ob G st.sl a.tmps) {x:Operand} {y:Opd} (ho:o.op=.move x∨o.op=.assign x) (hx:cOpd x=some y):Pure1 P w ok st.ob G a o (y.ev st.sl):=by
 refine ⟨a.eval x, ?_,y0a hT hx⟩
 rcases ho with ho | ho<;>simp [execOp,ho]
theorem yvq (hT:RelT w ok st.ob G st.sl a.tmps) {c x y:Operand} {c' x' y':Opd} (ho:o.op=.pick c x y) (hc:cOpd c=some c') (hx:cOpd x=some x') (hy:cOpd y=some y') {b:Bool} (hb:isBool (c'.ev st.sl)=some b):
  Pure1 P w ok st.ob G a o (bif b then x'.ev st.sl else y'.ev st.sl):=by
 have h:=yas hb (y0a hT hc)
 refine ⟨if b then a.eval x else a.eval y,by simp [execOp,ho,h,asBool], ?_⟩
 cases b
 ·exact y0a hT hy
 ·exact y0a hT hx
theorem yz6 (hT:RelT w ok st.ob G st.sl a.tmps) {x:Operand} {x':Opd} {i:Nat} (ho:o.op=.extract x i) (hx:cOpd x=some x') {vs:List SV} (hv:x'.ev st.sl=.tup vs) {y:SV} (hy:vs[i]? =some y):Pure1 P w ok st.ob G a o y:=by
 have h:=y0a hT hx
 rw [hv] at h
 generalize hu:a.eval x=u at h
 cases h with
 | tup _ us h1 h2=>
  have hi:i<us.length:=by rw [←h1];exact (List.getElem?_eq_some_iff.1 hy).1
  exact ⟨us[i],by simp [execOp,ho,hu,Instr.extract,hi],h2 i y us[i] hy (by simp [hi])⟩
theorem ykj {f:Field} {n:Nat} (hn:tSize P f.type=some n) (h0:¬n=0) (ad:Addr) (w:World):(fieldPlace ad f).run P w=.ok (ad.add f.offset) w:=by
 simp [fieldPlace,y4x hn,h0]
theorem yq7 {t:TypeId} {fs:Array Field} (hu:P.underlying t=some (.struct fs)) {i:Nat} {f:Field} (hf:fs[i]? =some f) {n:Nat} (hn:tSize P f.type=some n) (h0:¬n=0) (ad:Addr) (w:World):
  (Instr.fieldAt t (.pointer (some ad)) i).run P w=.ok (.pointer (some (ad.add f.offset))) w:=by
 simp [Instr.fieldAt,run_underlying hu,hf,Instr.sureAddr,ykj hn h0]
theorem ywb (hT:RelT w ok st.ob G st.sl a.tmps) {t:TypeId} {x:Operand} {x':Opd} {i:Nat} (ho:o.op=.fieldAddr t x i) (hx:cOpd x=some x') {fs:Array Field} (hu:P.underlying t=some (.struct fs)) {f:Field} (hf:fs[i]? =some f)
  {n:Nat} (hn:tSize P f.type=some n) (h0:¬n=0) {eff:Eff} (he:evOp F draw rb id st (.fadr f.offset x')=some eff):∃y,eff=.val y∧Pure1 P w ok st.ob G a o y:=by
 have h:=y0a hT hx
 have hrun:∀ad,a.eval x=.pointer (some ad)→(execOp a.eval o).run P w=.ok (.value (.pointer (some (ad.add f.offset)))) w:=by
  intro ad hv
  simp [execOp,ho,hv,yq7 hu hf hn h0]
 simp only [evOp] at he
 generalize hv:a.eval x=u at h
 split at he
 ·rename_i j off hx'
  cases he
  rw [hx'] at h
  cases h with
  | one _ _ h=>cases h with
   | box _ _ cs hb=>exact ⟨_,rfl,_,hrun _ hv,.one _ _ (by rw [add_mid];exact .box j (off+f.offset) cs hb)⟩
 ·rename_i j ver k off hx'
  cases he
  rw [hx'] at h
  cases h with
  | one _ _ h=>cases h with
   | raddr _ _ _ _ sz es hb=>exact ⟨_,rfl,_,hrun _ hv,.one _ _ (by rw [add_mid,Nat.add_assoc];exact .raddr j ver k (off+f.offset) sz es hb)⟩
   | raddrDead _ _ _ _ sz es ver' ad hb hlt=>exact ⟨_,rfl,_,hrun _ hv,.one _ _ (.raddrDead j ver k (off+f.offset) sz es ver' _ hb hlt)⟩
 ·rename_i es k off hx'
  cases he
  rw [hx'] at h
  cases h with
  | one _ _ h=>cases h with
   | saddr _ _ _ sz b o' e g h1 h2 h3 h4=>exact ⟨_,rfl,_,hrun _ hv,.one _ _ (by rw [add_mid,Nat.add_assoc];exact .saddr es k (off+f.offset) sz b o' e g h1 h2 h3 h4)⟩
 ·cases he
theorem yow {t:TypeId} {agg:Bool} (ha:tAgg P t=some agg) {n:Nat} (hn:tSize P t=some n) (h1:agg=true∨n=1) {cs ds:List AV} {off:Nat} {ob:Nat→Option AObj} (hs:sub cs off n=some ds) {y:SV} (hy:asOne agg ds=some y) {vs:List Value} (hr:RelL w ok ob G cs vs):
  ∃v,(part t vs.toArray off).run P w=.ok v w∧RelS w ok ob G y v:=by
 obtain ⟨hr',hle,hl⟩:=yro hs hr
 obtain ⟨q1,q2⟩:=yl7 hy hr'
 cases agg with
 | true=>
  have e:vs.toArray.extract off (off+n)=((vs.drop off).take n).toArray:=by
   rw [List.extract_toArray,List.extract_eq_take_drop]
   simp
  refine ⟨.agg ((vs.drop off).take n).toArray, ?_, ?_⟩
  ·simp only [part,Sem.run_bind,yc5 ha,Result.andThen_ok,if_true,y4x hn,Sem.run_pure,e]
  ·rw [q1 rfl]
   exact .agg _ _ hr'
 | false=>
  obtain ⟨v,y',e1,e2,e3,e4⟩:=q2 rfl
  have hn1:n=1:=h1.resolve_left (by simp)
  subst hn1
  have hv:vs[off]? =some v:=by
   have:((vs.drop off).take 1)[0]? =some v:=by rw [e1];rfl
   rw [List.getElem?_take,if_pos (by omega),List.getElem?_drop] at this
   simpa using this
  refine ⟨v,by simp [part,yc5 ha,hv], ?_⟩
  rw [e3]
  exact .one _ _ e4
theorem yxo (hT:RelT w ok st.ob G st.sl a.tmps) {t:TypeId} {x:Operand} {x':Opd} {i:Nat} (ho:o.op=.field t x i) (hx:cOpd x=some x') {fs:Array Field} (hu:P.underlying t=some (.struct fs)) {f:Field} (hf:fs[i]? =some f)
  {agg:Bool} (hagg:tAgg P f.type=some agg) {n:Nat} (hn:tSize P f.type=some n) (h1:agg=true∨n=1) {eff:Eff} (he:evOp F draw rb id st (.fld agg n f.offset x')=some eff):∃y,eff=.val y∧Pure1 P w ok st.ob G a o y:=by
 have h:=y0a hT hx
 simp only [evOp] at he
 generalize hv:a.eval x=u at h
 split at he
 ·rename_i cs hx'
  rw [hx'] at h
  cases h with
  | agg _ vs h=>
   split at he
   ·rename_i ds hs
    split at he
    ·rename_i y hy
     cases he
     obtain ⟨v,hrun,hrel⟩:=yow hagg hn h1 hs hy h
     exact ⟨_,rfl,v,by simp [execOp,ho,hv,Instr.field,run_underlying hu,hf,asAgg,hrun],hrel⟩
    ·cases he
   ·cases he
 ·cases he
theorem y8d {t e:TypeId} (hu:P.underlying t=some (.slice e)) {n:Nat} (hn:tSize P e=some n) (ad:Addr) (len cap:Nat) (k:IntKind) (i:Nat) (hi:i<len) (w:World):
  (Instr.indexAt t (.slice (some ad) len cap) (.int k i)).run P w=.ok (.pointer (some (ad.add (i*n)))) w:=by
 have h1:(i:Int)<(len:Int):=by omega
 simp [Instr.indexAt,asIntOf,run_underlying hu,y4x hn,hi]
theorem yto (hT:RelT w ok st.ob G st.sl a.tmps) {t e:TypeId} {x i:Operand} {x' i':Opd} (ho:o.op=.indexAddr t x i) (hx:cOpd x=some x') (hi:cOpd i=some i') (hu:P.underlying t=some (.slice e)) {n:Nat} (hn:tSize P e=some n)
  {eff:Eff} (he:evOp F draw rb id st (.iadr n x' i')=some eff):∃y,eff=.val y∧Pure1 P w ok st.ob G a o y:=by
 have h:=y0a hT hx
 have hI:=y0a hT hi
 simp only [evOp] at he
 generalize hv:a.eval x=u at h
 split at he
 ·rename_i m hm
  obtain ⟨kk,hiv⟩:=y7z hm hI
  split at he
  ·rename_i k hk
   obtain ⟨h0,rfl,_⟩:=y7k hk
   split at he
   ·rename_i full es hx'
    rw [hx'] at h
    split at he
    ·rename_i el hel
     obtain ⟨hb,he⟩:=y05 he
     cases he
     have hlen:el.length=n:=Nat.eq_of_beq_eq_true hb
     cases h with
     | one _ _ h=>cases h with
      | sl _ _ ad cap sz b off g h1 h2 h3 h4 h5 h6 h7=>
       have hk':k<es.length:=(List.getElem?_eq_some_iff.1 hel).1
       have hne:es≠[]:=fun q=>by rw [q] at hk';simp at hk'
       have hsz:sz=n:=by rw [←h4 el (List.mem_of_getElem? hel)];exact hlen
       subst hsz
       rw [h5 hne] at hv
       refine ⟨_,rfl,_, ?_,.one _ _ (.saddr es k 0 sz b (off+k*sz) el (g k) hel hlen ?_ ?_)⟩
       ·simp only [execOp,ho,hv,hiv,Sem.run_bind,y8d hu hn _ _ _ _ _ hk',Result.andThen_ok,Sem.run_pure,add_mid]
        simp
       ·intro j hj
        rw [Nat.add_assoc]
        exact h6 k el j hel hj
       ·intro j y hy
        exact h7 k el j y hel hy
    ·cases he
   ·rename_i r ver zz lo len full hx'
    rw [hx'] at h
    obtain ⟨hb,he⟩:=y05 he
    cases he
    simp only [Bool.and_eq_true] at hb
    have hk':=y77 hb.2
    have hsz:zz=n:=Nat.eq_of_beq_eq_true hb.1
    subst hsz
    cases h with
    | one _ _ h=>cases h with
     | rsl _ _ _ _ _ _ es _ hob hle hsv=>
      obtain ⟨ad,c,rfl,hc1,hc2,had,_⟩:=hsv
      rw [had (by omega)] at hv
      refine ⟨_,rfl,_, ?_,.one _ _ (.raddr r ver (lo+k) 0 zz es hob)⟩
      simp only [execOp,ho,hv,hiv,Sem.run_bind,y8d hu hn _ _ _ _ _ hk',Result.andThen_ok,Sem.run_pure,add_mid]
      simp [Nat.add_mul]
     | rslDead _ _ _ _ _ _ sz es ver' _ hob hlt hsh=>
      obtain ⟨ad,c,rfl,hc1,hc2⟩:=hsh
      refine ⟨_,rfl,_, ?_,.one _ _ (.raddrDead r ver (lo+k) 0 sz es ver' (ad.add (k*zz)) hob hlt)⟩
      simp only [execOp,ho,hv,hiv,Sem.run_bind,y8d hu hn _ _ _ _ _ hk',Result.andThen_ok,Sem.run_pure]
   ·cases he
  ·cases he
 ·cases he
theorem yee {t e:TypeId} {len:Nat} (hu:P.underlying t=some (.array len e)) {n:Nat} (hn:tSize P e=some n) (ad:Addr) (k:IntKind) (i:Nat) (hi:i<len) (w:World):
  (Instr.indexAt t (.pointer (some ad)) (.int k i)).run P w=.ok (.pointer (some (ad.add (i*n)))) w:=by
 have h1:(i:Int)<(len:Int):=by omega
 simp [Instr.indexAt,asIntOf,run_underlying hu,Instr.sureAddr,y4x hn,hi]
theorem yu5 (hT:RelT w ok st.ob G st.sl a.tmps) {t e:TypeId} {len:Nat} {x i:Operand} {x' i':Opd} (ho:o.op=.indexAddr t x i) (hx:cOpd x=some x') (hi:cOpd i=some i') (hu:P.underlying t=some (.array len e)) {n:Nat} (hn:tSize P e=some n)
  {eff:Eff} (he:evOp F draw rb id st (.iarr n len x' i')=some eff):∃y,eff=.val y∧Pure1 P w ok st.ob G a o y:=by
 have h:=y0a hT hx
 have hI:=y0a hT hi
 simp only [evOp] at he
 generalize hv:a.eval x=u at h
 split at he
 ·rename_i m hm
  obtain ⟨kk,hiv⟩:=y7z hm hI
  split at he
  ·rename_i k hk
   obtain ⟨h0,rfl,_⟩:=y7k hk
   obtain ⟨hb,he⟩:=y05 he
   have hk':=y77 hb
   have hrun:∀ad,u=.pointer (some ad)→(execOp a.eval o).run P w=.ok (.value (.pointer (some (ad.add (k*n))))) w:=by
    intro ad e
    subst e
    simp only [execOp,ho,hv,hiv,Sem.run_bind,yee hu hn _ _ _ hk',Result.andThen_ok,Sem.run_pure]
   split at he
   ·rename_i j off hx'
    cases he
    rw [hx'] at h
    cases h with
    | one _ _ h=>cases h with
     | box _ _ cs hb=>exact ⟨_,rfl,_,hrun _ rfl,.one _ _ (by rw [add_mid];exact .box j (off+k*n) cs hb)⟩
   ·rename_i j ver kk off hx'
    cases he
    rw [hx'] at h
    cases h with
    | one _ _ h=>cases h with
     | raddr _ _ _ _ sz es hb=>exact ⟨_,rfl,_,hrun _ rfl,.one _ _ (by rw [add_mid,Nat.add_assoc];exact .raddr j ver kk (off+k*n) sz es hb)⟩
     | raddrDead _ _ _ _ sz es ver' ad hb hlt=>exact ⟨_,rfl,_,hrun _ rfl,.one _ _ (.raddrDead j ver kk (off+k*n) sz es ver' _ hb hlt)⟩
   ·rename_i es kk off hx'
    cases he
    rw [hx'] at h
    cases h with
    | one _ _ h=>cases h with
     | saddr _ _ _ sz b o' e g h1 h2 h3 h4=>exact ⟨_,rfl,_,hrun _ rfl,.one _ _ (by rw [add_mid,Nat.add_assoc];exact .saddr es kk (off+k*n) sz b o' e g h1 h2 h3 h4)⟩
   ·cases he
  ·cases he
 ·cases he
theorem yuf (hT:RelT w ok st.ob G st.sl a.tmps) {t e:TypeId} {len:Nat} {x i:Operand} {x' i':Opd} (ho:o.op=.index t x i) (hx:cOpd x=some x') (hi:cOpd i=some i') (hu:P.underlying t=some (.array len e))
  {agg:Bool} (hagg:tAgg P e=some agg) {n:Nat} (hn:tSize P e=some n) (h1:agg=true∨n=1)
  {eff:Eff} (he:evOp F draw rb id st (.idxA agg n n len x' i')=some eff):∃y,eff=.val y∧Pure1 P w ok st.ob G a o y:=by
 have h:=y0a hT hx
 have hI:=y0a hT hi
 simp only [evOp] at he
 generalize hv:a.eval x=u at h
 split at he
 ·rename_i m hm
  obtain ⟨kk,hiv⟩:=y7z hm hI
  split at he
  ·rename_i k hk
   obtain ⟨h0,rfl,_⟩:=y7k hk
   obtain ⟨hb,he⟩:=y05 he
   have hk':=y77 hb
   split at he
   ·rename_i cs hx'
    rw [hx'] at h
    cases h with
    | agg _ vs h=>
     split at he
     ·rename_i ds hs
      split at he
      ·rename_i y hy
       cases he
       obtain ⟨v,hrun,hrel⟩:=yow hagg hn h1 hs hy h
       have h1:(k:Int)<(len:Int):=by omega
       exact ⟨_,rfl,v,by simp [execOp,ho,hv,hiv,Instr.index,asIntOf,run_underlying hu,y4x hn,hk',hrun],hrel⟩
      ·cases he
     ·cases he
   ·cases he
  ·cases he
 ·cases he
theorem yu0 (hT:RelT w ok st.ob G st.sl a.tmps) {t:TypeId} {x i:Operand} {x' i':Opd} (ho:o.op=.index t x i) (hx:cOpd x=some x') (hi:cOpd i=some i') (hu:P.underlying t=some .string)
  {eff:Eff} (he:evOp F draw rb id st (.idxS x' i')=some eff):∃y,eff=.val y∧Pure1 P w ok st.ob G a o y:=by
 have h:=y0a hT hx
 have hI:=y0a hT hi
 simp only [evOp] at he
 generalize hv:a.eval x=u at h
 split at he
 ·rename_i m s hm hx'
  obtain ⟨kk,hiv⟩:=y7z hm hI
  split at he
  ·rename_i k hk
   obtain ⟨h0,rfl,_⟩:=y7k hk
   split at he
   ·rename_i b hb
    cases he
    rw [hx'] at h
    cases h with
    | one _ _ h=>
     cases h
     exact ⟨_,rfl,_,by simp [execOp,ho,hv,hiv,Instr.index,asIntOf,run_underlying hu,hb],.one _ _ (.int _ _)⟩
   ·cases he
  ·cases he
 ·cases he
theorem yxt {s:Nat→SV} {d n:Nat} {x:Option Opd} (h:opt s d x=some n):(x=none∧n=d)∨(∃y i,x=some y∧isInt (y.ev s)=some i∧natOf i=some n):=by
 cases x with
 | none=>simp [opt] at h;exact .inl ⟨rfl,h.symm⟩
 | some y=>
  simp only [opt] at h
  split at h
  ·rename_i i hi;exact .inr ⟨y,i,rfl,hi,h⟩
  ·cases h
theorem yaf (hT:RelT w ok st.ob G st.sl a.tmps) {x:Option Operand} {y:Option Opd} (h:cOpdO x=some y) {d n:Nat} (hn:opt st.sl d y=some n):
  (x=none∧y=none∧n=d)∨(∃x' k,x=some x'∧y.isSome=true∧a.eval x'=.int k n):=by
 cases x with
 | none=>
  simp [cOpdO] at h
  subst h
  simp [opt] at hn
  exact .inl ⟨rfl,rfl,hn.symm⟩
 | some x'=>
  simp only [cOpdO] at h
  split at h
  ·rename_i y' hy
   cases h
   rcases yxt hn with ⟨e,_⟩ | ⟨y2,i,e,hi,hk⟩
   ·cases e
   ·cases e
    obtain ⟨k,hv⟩:=y7z hi (y0a hT hy)
    obtain ⟨_,rfl,_⟩:=y7k hk
    exact .inr ⟨x',k,rfl,rfl,hv⟩
  ·cases h
theorem y6m (k:IntKind) (i y:Nat) (code:BoundsCode) (h:i≤y) (w:World):(Instr.sliceBound (.int k i) y code).run P w=.ok i w:=by
 have:(i:Int)≤(y:Int):=by omega
 simp [Instr.sliceBound,asIntOf,h]
theorem y82 (isSlice:Bool) (len cap l h:Nat) (lo hi mx:Option Value) (hlo:(lo=none∧l=0)∨∃k,lo=some (.int k l)) (hhi:(hi=none∧h=len∧mx=none)∨∃k,hi=some (.int k h)) (m:Nat) (hmx:(mx=none∧m=cap)∨∃k,mx=some (.int k m))
  (h1:l≤h) (h2:h≤m) (h3:m≤cap) (w:World):(Instr.sliceBounds isSlice len cap lo hi mx).run P w=.ok (l,h,m) w:=by
 rcases hlo with ⟨rfl,rfl⟩ | ⟨kl,rfl⟩<;>rcases hhi with ⟨rfl,rfl,hm0⟩ | ⟨kh,rfl⟩<;>rcases hmx with ⟨hm,rfl⟩ | ⟨km,hm⟩
 all_goals first
  |(subst hm0;cases hm;done)
  |(subst hm;simp [Instr.sliceBounds,y6m _ _ _ _ h1,y6m _ _ _ _ h2,y6m _ _ _ _ h3];done)
  |(subst hm0;simp [Instr.sliceBounds,y6m _ _ _ _ h1,y6m _ _ _ _ h2,y6m _ _ _ _ h3];done)
theorem yna {sz:Nat} {es:List (List AV)} (h:okSz sz es=true) {z:Nat} (hz:∀e∈es,e.length=z) (hne:es≠[]):z=sz:=by
 cases es with
 | nil=>exact absurd rfl hne
 | cons e r=>exact (hz e (by simp)).symm.trans (Nat.eq_of_beq_eq_true h)
theorem ysv {ob:Nat→Option AObj} {x:AV} {v:Value} (hr:Rel w ok ob G x v) {sz l:Nat} {hi:Option Nat} {full:Bool} {y:AV} (hy:slicOf sz l hi full (.one x)=some y):
  ∃ao len cap,v=.slice ao len cap∧l≤hi.getD len∧hi.getD len≤len∧len≤cap∧
   ∀m,(full=true→m=hi.getD len)→(full=false→m=cap)→Rel w ok ob G y (.slice (if m=l then ao else ao.map (·.add (l*sz))) (hi.getD len-l) (m-l)):=by
 cases hr with
 | nils=>
  simp only [slicOf] at hy
  obtain ⟨hb,hy⟩:=y05 hy
  cases hy
  simp only [Bool.and_eq_true] at hb
  have e1:=Nat.eq_of_beq_eq_true hb.1
  have e2:=Nat.eq_of_beq_eq_true hb.2
  subst e2
  refine ⟨none,0,0,rfl,Nat.zero_le _,by rw [e1];exact Nat.le_refl _,Nat.le_refl _,fun m h1 h2=> ?_⟩
  have hm:m=0:=by
   cases full with
   | true=>rw [h1 rfl,e1]
   | false=>exact h2 rfl
  subst hm
  rw [e1]
  exact .nils
 | sl fl es ao cap z b off g h1 h2 h3 h4 h5 h6 h7=>
  simp only [slicOf] at hy
  obtain ⟨hb,hy⟩:=y05 hy
  cases hy
  simp only [Bool.and_eq_true] at hb
  have q2:=y4g hb.1.2
  have q3:=y4g hb.2
  refine ⟨ao,es.length,cap,rfl,q2,q3,h1,fun m e1 e2=> ?_⟩
  have hm1:hi.getD es.length≤m:=by
   cases full with
   | true=>rw [e1 rfl];exact Nat.le_refl _
   | false=>rw [e2 rfl];omega
  have hm2:m≤cap:=by
   cases full with
   | true=>rw [e1 rfl];omega
   | false=>rw [e2 rfl];exact Nat.le_refl _
  have hl:((es.drop l).take (hi.getD es.length-l)).length=hi.getD es.length-l:=by rw [List.length_take,List.length_drop];omega
  have hget:∀(i:Nat) (e:List AV),((es.drop l).take (hi.getD es.length-l))[i]? =some e→i<hi.getD es.length-l∧es[l+i]? =some e:=by
   intro i e he
   rw [List.getElem?_take] at he
   split at he
   ·rw [List.getElem?_drop] at he;exact ⟨by assumption,he⟩
   ·cases he
  have:=Rel.sl (w:=w) (ok:=ok) (ob:=ob) (G:=G) (full || (fl&&Nat.beq (hi.getD es.length) es.length)) ((es.drop l).take (hi.getD es.length-l)) (if m=l then ao else ao.map (·.add (l*sz))) (m-l) z b (off+l*z) (fun i j=>g (l+i) j)
   (by rw [hl];omega) (by omega) (by
    intro hf
    rw [hl]
    rcases Bool.or_eq_true_iff.1 hf with hf | hf
    ·rw [e1 hf]
    ·simp only [Bool.and_eq_true] at hf
     have q4:=Nat.eq_of_beq_eq_true hf.2
     have q5:=h3 hf.1
     omega)
   (fun e he=>h4 e (List.mem_of_mem_drop (List.mem_of_mem_take he)))
   (by
    intro hne
    have hpos:0<hi.getD es.length-l:=by rw [←hl];cases hq:(es.drop l).take (hi.getD es.length-l) with | nil=>exact absurd hq hne | cons=>simp
    have hes:es≠[]:=fun q=>by
     have:es.length=0:=by rw [q];rfl
     omega
    have hz:=yna hb.1.1 h4 hes
    rw [if_neg (by omega),h5 hes,Option.map_some,add_mid,hz])
   (by
    intro i e j he hj
    obtain ⟨p1,p2⟩:=hget i e he
    have:=h6 (l+i) e j p2 hj
    rw [show off+l*z+(i*z+j)=off+((l+i)*z+j) by rw [Nat.add_mul];omega]
    exact this)
   (by
    intro i e j y he hy
    obtain ⟨p1,p2⟩:=hget i e he
    exact h7 (l+i) e j y p2 hy)
  rw [hl] at this
  exact this
 | rsl jd ver zz lo len fl es v hob hle hv=>
  obtain ⟨ad,c,rfl,c1,c2,c3,c4⟩:=hv
  simp only [slicOf] at hy
  obtain ⟨hb,hy⟩:=y05 hy
  cases hy
  simp only [Bool.and_eq_true] at hb
  have q1:=Nat.eq_of_beq_eq_true hb.1.1.1
  have q2:=y4g hb.1.1.2
  have q3:=y4g hb.1.2
  subst q1
  refine ⟨some ad,len,c,rfl,q2,q3,c1,fun m e1 e2=> ?_⟩
  have hm1:hi.getD len≤m:=by
   cases full with
   | true=>rw [e1 rfl];exact Nat.le_refl _
   | false=>rw [e2 rfl];omega
  have hm2:m≤c:=by
   cases full with
   | true=>rw [e1 rfl];omega
   | false=>rw [e2 rfl];exact Nat.le_refl _
  refine .rsl jd ver zz (lo+l) (hi.getD len-l) (full || fl) es _ hob (by omega) ⟨if m=l then ad else ad.add (l*zz),m-l,by split<;>rfl,by omega,by omega,fun hpos=> ?_, ?_⟩
  ·rw [if_neg (by omega),c3 (by omega),add_mid,Nat.add_mul]
  ·cases full with
   | true=>
    simp only [Bool.true_or,if_true]
    rw [e1 rfl]
   | false=>
    have e2:=e2 rfl
    subst e2
    cases fl with
    | true=>
     simp only [Bool.not_true,Bool.false_or] at hb
     have q4:=Nat.eq_of_beq_eq_true hb.2
     simp only [if_true] at c4
     simp only [Bool.or_true,if_true]
     omega
    | false=>
     simp only [Bool.false_eq_true,if_false] at c4
     simp only [Bool.or_self,Bool.false_eq_true,if_false]
     omega
 | rslDead jd ver zz lo len fl z es ver' v hob hlt hv=>
  obtain ⟨ad,c,rfl,c1,c2⟩:=hv
  simp only [slicOf] at hy
  obtain ⟨hb,hy⟩:=y05 hy
  cases hy
  simp only [Bool.and_eq_true] at hb
  have q2:=y4g hb.1.1.2
  have q3:=y4g hb.1.2
  refine ⟨some ad,len,c,rfl,q2,q3,c1,fun m e1 e2=> ?_⟩
  have hm1:hi.getD len≤m:=by
   cases full with
   | true=>rw [e1 rfl];exact Nat.le_refl _
   | false=>rw [e2 rfl];omega
  have hm2:m≤c:=by
   cases full with
   | true=>rw [e1 rfl];omega
   | false=>rw [e2 rfl];exact Nat.le_refl _
  exact .rslDead jd ver zz (lo+l) (hi.getD len-l) (full || fl) z es ver' _ hob hlt ⟨if m=l then ad else ad.add (l*sz),m-l,by split<;>rfl,by omega,by omega⟩
 | _=>simp [slicOf] at hy
theorem ybe {t e:TypeId} (hu:P.underlying t=some (.slice e)) {n:Nat} (hn:tSize P e=some n) (ao:Option Addr) (len cap l h m:Nat) (lo hi mx:Option Value) (hb:(Instr.sliceBounds true len cap lo hi mx).run P w=.ok (l,h,m) w):
  (Instr.sliceAt t (.slice ao len cap) lo hi mx).run P w=.ok (.slice (if m=l then ao else ao.map (·.add (l*n))) (h-l) (m-l)) w:=by
 simp [Instr.sliceAt,run_underlying hu,Instr.slice,hb,y4x hn]
theorem yv2 (hT:RelT w ok st.ob G st.sl a.tmps) {t e:TypeId} {x:Operand} {lo hi mx:Option Operand} {x':Opd} {lo' hi' mx':Option Opd} (ho:o.op=.slice t x lo hi mx) (hx:cOpd x=some x') (hlo:cOpdO lo=some lo') (hhi:cOpdO hi=some hi') (hmx:cOpdO mx=some mx')
  (hu:P.underlying t=some (.slice e)) {n:Nat} (hn:tSize P e=some n) {eff:Eff} (he:evOp F draw rb id st (.slic n x' lo' hi' mx')=some eff):∃y,eff=.val y∧Pure1 P w ok st.ob G a o y:=by
 have h:=y0a hT hx
 simp only [evOp] at he
 have key:∀(l:Nat) (hv:Option Nat) (full:Bool),opt st.sl 0 lo'=some l→one (slicOf n l hv full (x'.ev st.sl))=some eff→
   ((hi=none∧hv=none∧mx=none∧full=false)∨(∃xh h kh,hi=some xh∧hv=some h∧a.eval xh=.int kh h∧((mx=none∧full=false)∨(∃xm km,mx=some xm∧full=true∧a.eval xm=.int km h))))→
   ∃y,eff=.val y∧Pure1 P w ok st.ob G a o y:=by
  intro l hv full hl hs hcase
  have hlo2:(lo.map a.eval=none∧l=0)∨∃k,lo.map a.eval=some (.int k l):=by
   rcases yaf hT hlo hl with ⟨e1,_,e2⟩ | ⟨xl,k,e1,_,e2⟩
   ·subst e1;exact .inl ⟨rfl,e2⟩
   ·subst e1;exact .inr ⟨k,by rw [Option.map_some,e2]⟩
  cases hsl:slicOf n l hv full (x'.ev st.sl) with
  | none=>rw [hsl] at hs;simp [one] at hs
  | some y=>
   rw [hsl] at hs
   simp [one] at hs
   subst hs
   refine ⟨.one y,rfl, ?_⟩
   generalize hval:a.eval x=u at h
   cases hxe:x'.ev st.sl with
   | agg cs=>rw [hxe] at hsl;simp [slicOf] at hsl
   | tup cs=>rw [hxe] at hsl;simp [slicOf] at hsl
   | unk=>rw [hxe] at hsl;simp [slicOf] at hsl
   | one xv=>
    rw [hxe] at hsl h
    cases h with
    | one _ _ h=>
     obtain ⟨ao,len,cap,rfl,q1,q2,q3,q4⟩:=ysv h hsl
     rcases hcase with ⟨rfl,rfl,rfl,rfl⟩ | ⟨xh,hh,kh,rfl,rfl,hve,hm⟩
     ·refine ⟨_, ?_,.one _ _ (q4 cap (by simp) (by simp))⟩
      have hb:=y82 (P:=P) true len cap l len (lo.map a.eval) none none hlo2 (.inl ⟨rfl,rfl,rfl⟩) cap (.inl ⟨rfl,rfl⟩) (by simpa using q1) q3 (Nat.le_refl _) w
      simp only [execOp,ho,hval,Option.map_none,Sem.run_bind,ybe hu hn _ _ _ _ _ _ _ _ _ hb,Result.andThen_ok,Sem.run_pure,Option.getD_none]
     ·rcases hm with ⟨rfl,rfl⟩ | ⟨xm,km,rfl,rfl,hmv⟩
      ·refine ⟨_, ?_,.one _ _ (q4 cap (by simp) (by simp))⟩
       have hb:=y82 (P:=P) true len cap l hh (lo.map a.eval) (some (.int kh hh)) none hlo2 (.inr ⟨kh,rfl⟩) cap (.inl ⟨rfl,rfl⟩) (by simpa using q1) (by simp at q2;omega) (Nat.le_refl _) w
       simp only [execOp,ho,hval,Option.map_none,Option.map_some,hve,Sem.run_bind,ybe hu hn _ _ _ _ _ _ _ _ _ hb,Result.andThen_ok,Sem.run_pure,Option.getD_some]
      ·refine ⟨_, ?_,.one _ _ (q4 hh (by simp) (by simp))⟩
       have hb:=y82 (P:=P) true len cap l hh (lo.map a.eval) (some (.int kh hh)) (some (.int km hh)) hlo2 (.inr ⟨kh,rfl⟩) hh (.inr ⟨km,rfl⟩) (by simpa using q1) (Nat.le_refl _) (by simp at q2;omega) w
       simp only [execOp,ho,hval,Option.map_some,hve,hmv,Sem.run_bind,ybe hu hn _ _ _ _ _ _ _ _ _ hb,Result.andThen_ok,Sem.run_pure,Option.getD_some]
 split at he
 ·rename_i l hl
  split at he
  ·--no upper bound
   split at he
   ·refine key l none false hl he (.inl ⟨?_,rfl, ?_,rfl⟩)
    ·cases hi with
     | none=>rfl
     | some q=>simp only [cOpdO] at hhi;split at hhi<;>cases hhi
    ·cases mx with
     | none=>rfl
     | some q=>simp only [cOpdO] at hmx;split at hmx<;>cases hmx
   ·cases he
  ·rename_i hq
   split at he
   ·rename_i h' hh'
    have hhi2:∃xh k,hi=some xh∧a.eval xh=.int k h':=by
     rcases yaf hT hhi hh' with ⟨_,e,_⟩ | ⟨xl,k,e1,_,e2⟩
     ·cases e
     ·exact ⟨xl,k,e1,e2⟩
    obtain ⟨xh,kh,e1,e2⟩:=hhi2
    split at he
    ·refine key l (some h') false hl he (.inr ⟨xh,h',kh,e1,rfl,e2,.inl ⟨?_,rfl⟩⟩)
     cases mx with
     | none=>rfl
     | some q=>simp only [cOpdO] at hmx;split at hmx<;>cases hmx
    ·split at he
     ·rename_i m' hm'
      obtain ⟨hb,he⟩:=y05 he
      have:=Nat.eq_of_beq_eq_true hb
      subst this
      rcases yaf hT hmx hm' with ⟨_,e,_⟩ | ⟨xm,km,m1,_,m2⟩
      ·cases e
      ·exact key l (some m') true hl he (.inr ⟨xh,m',kh,e1,rfl,e2,.inr ⟨xm,km,m1,rfl,m2⟩⟩)
     ·cases he
   ·cases he
 ·cases he
theorem yua (hT:RelT w ok st.ob G st.sl a.tmps) {t:TypeId} {x:Operand} {lo hi:Option Operand} {x':Opd} {lo' hi':Option Opd} (ho:o.op=.slice t x lo hi none) (hx:cOpd x=some x') (hlo:cOpdO lo=some lo') (hhi:cOpdO hi=some hi')
  (hu:P.underlying t=some .string) {eff:Eff} (he:evOp F draw rb id st (.slcS x' lo' hi')=some eff):∃y,eff=.val y∧Pure1 P w ok st.ob G a o y:=by
 have h:=y0a hT hx
 simp only [evOp] at he
 generalize hval:a.eval x=u at h
 split at he
 ·rename_i s hxe
  rw [hxe] at h
  cases h with
  | one _ _ h=>
   cases h
   split at he
   ·rename_i l hh hl hhh
    obtain ⟨hb,he⟩:=y05 he
    cases he
    simp only [Bool.and_eq_true] at hb
    have q1:=y4g hb.1
    have q2:=y4g hb.2
    refine ⟨_,rfl,_, ?_,.one _ _ (.str _)⟩
    have hlo2:(lo.map a.eval=none∧l=0)∨∃k,lo.map a.eval=some (.int k l):=by
     rcases yaf hT hlo hl with ⟨e1,_,e2⟩ | ⟨xl,k,e1,_,e2⟩
     ·subst e1;exact .inl ⟨rfl,e2⟩
     ·subst e1;exact .inr ⟨k,by rw [Option.map_some,e2]⟩
    have hhi2:(hi.map a.eval=none∧hh=s.size∧(none:Option Value)=none)∨∃k,hi.map a.eval=some (.int k hh):=by
     rcases yaf hT hhi hhh with ⟨e1,_,e2⟩ | ⟨xl,k,e1,_,e2⟩
     ·subst e1;exact .inl ⟨rfl,e2,rfl⟩
     ·subst e1;exact .inr ⟨k,by rw [Option.map_some,e2]⟩
    have hb:=y82 (P:=P) false s.size s.size l hh (lo.map a.eval) (hi.map a.eval) none hlo2 hhi2 s.size (.inl ⟨rfl,rfl⟩) q1 q2 (Nat.le_refl _) w
    simp [execOp,ho,hval,Instr.sliceAt,run_underlying hu,Instr.slice,hb]
   ·cases he
 ·cases he
theorem yjt (op:BinOp) (t:TypeId) (x y:Operand) (k k':IntKind) (i j:Int) (w:World):(eqGuard op t x y (.int k i) (.int k' j)).run P w=.ok () w:=by
 cases op<;>rfl
theorem yj0 (op:BinOp) (t:TypeId) (x y:Operand) (s u:ByteArray) (w:World):(eqGuard op t x y (.string s) (.string u)).run P w=.ok () w:=by
 cases op<;>rfl
theorem yb3 (op:BinOp) (t:TypeId) (x y:Operand) (s u:Bool) (w:World):(eqGuard op t x y (.bool s) (.bool u)).run P w=.ok () w:=by
 cases op<;>rfl
theorem yz2 {op:BinOp} {k:IntKind} {i j:Int} {y:AV} (h:binI op k i j=some y) (hs:op≠.shl) (hr:op≠.shr) (t:TypeId) (w:World):∃v,(binOp op t (.int k i) (.int k j)).run P w=.ok v w∧∀ok ob G,Rel w ok ob G y v:=by
 cases op<;>simp only [binI] at h<;>first
  |(exact absurd rfl hs)
  |(exact absurd rfl hr)
  |(simp only [Option.some.injEq] at h
    subst h
    first
     | exact ⟨_,by simp only [binOp,ne_eq,not_true_eq_false,ite_false,Op.intArith,Op.intCmp,Op.intBits];rfl,fun _ _ _=>.int _ _⟩
     | exact ⟨_,by simp only [binOp,ne_eq,not_true_eq_false,ite_false,Op.intArith,Op.intCmp,Op.intBits];rfl,fun _ _ _=>.bool _⟩)
  |(split at h
    ·simp at h
    ·rename_i hj
     simp only [Option.some.injEq] at h
     subst h
     exact ⟨_,by simp only [binOp,ne_eq,not_true_eq_false,ite_false,Op.intDiv,if_neg hj];rfl,fun _ _ _=>.int _ _⟩)
  |(simp at h)
theorem yjw {op:BinOp} {k k':IntKind} {i j:Int} {y:AV} (h:shiftI op k i j=some y) (t:TypeId) (w:World):∃v,(binOp op t (.int k i) (.int k' j)).run P w=.ok v w∧∀ok ob G,Rel w ok ob G y v:=by
 unfold shiftI at h
 split at h
 ·cases h
 ·rename_i hj
  cases op<;>simp only at h<;>first
   |(simp only [Option.some.injEq] at h
     subst h
     exact ⟨_,by simp only [binOp,Op.shift,if_neg hj];rfl,fun _ _ _=>.int _ _⟩)
   |(simp at h)
theorem yxx {op:BinOp} {s u:ByteArray} {y:AV} (h:binS op s u=some y) (t:TypeId) (w:World):∃v,(binOp op t (.string s) (.string u)).run P w=.ok v w∧∀ok ob G,Rel w ok ob G y v:=by
 cases op<;>simp only [binS] at h<;>first
  |(cases h;exact ⟨_,by simp only [binOp,Op.stringOp];rfl,fun _ _ _=>.bool _⟩)
  |(split at h
    ·cases h
    ·rename_i hj;cases h;exact ⟨_,by simp only [binOp,Op.stringOp,if_neg hj];rfl,fun _ _ _=>.str _⟩)
  | cases h
theorem yox (hT:RelT w ok st.ob G st.sl a.tmps) {op:BinOp} {t t2:TypeId} {x z:Operand} {x' z':Opd} (ho:o.op=.binOp op t x z t2) (hx:cOpd x=some x') (hz:cOpd z=some z') {eff:Eff} (he:evOp F draw rb id st (.bin op x' z')=some eff):∃y,eff=.val y∧Pure1 P w ok st.ob G a o y:=by
 have h:=y0a hT hx
 have hk:=y0a hT hz
 simp only [evOp] at he
 generalize hv:a.eval x=u at h
 generalize hv2:a.eval z=u2 at hk
 cases hb:binOf op (x'.ev st.sl) (z'.ev st.sl) with
 | none=>rw [hb] at he;simp [one] at he
 | some y=>
  rw [hb] at he
  simp [one] at he
  subst he
  refine ⟨.one y,rfl, ?_⟩
  unfold binOf at hb
  split at hb
  ·rename_i k i k' j e1 e2
   rw [e1] at h
   rw [e2] at hk
   cases h with | one _ _ h=>cases h with | int=>
   cases hk with | one _ _ hk=>cases hk with | int=>
   have fin:(∃v,(binOp op t (.int k i) (.int k' j)).run P w=.ok v w∧∀ok ob G,Rel w ok ob G y v)→Pure1 P w ok st.ob G a o (.one y):=by
    rintro ⟨v,hrun,hrel⟩
    exact ⟨v,by simp only [execOp,ho,hv,hv2,Sem.run_bind,yjt,Result.andThen_ok,hrun,Sem.run_pure],.one _ _ (hrel _ _ _)⟩
   split at hb
   ·exact fin (yjw hb t w)
   ·exact fin (yjw hb t w)
   ·rename_i n1 n2
    split at hb
    ·rename_i ek
     subst ek
     exact fin (yz2 hb n1 n2 t w)
    ·cases hb
  ·rename_i s1 s2 e1 e2
   rw [e1] at h
   rw [e2] at hk
   cases h with | one _ _ h=>cases h with | str=>
   cases hk with | one _ _ hk=>cases hk with | str=>
   obtain ⟨v,hrun,hrel⟩:=yxx (P:=P) hb t w
   exact ⟨v,by simp only [execOp,ho,hv,hv2,Sem.run_bind,yj0,Result.andThen_ok,hrun,Sem.run_pure],.one _ _ (hrel _ _ _)⟩
  ·cases hb
theorem ynt (hT:RelT w ok st.ob G st.sl a.tmps) {neg:Bool} {t t2:TypeId} {x z:Operand} {x' z':Opd} (ho:o.op=.binOp (if neg then .neq else .eql) t x z t2) (hu:P.underlying t=some .bool) (hx:cOpd x=some x') (hz:cOpd z=some z') {eff:Eff} (he:evOp F draw rb id st (.beq neg x' z')=some eff):
  ∃y,eff=.val y∧Pure1 P w ok st.ob G a o y:=by
 have h:=y0a hT hx
 have hk:=y0a hT hz
 simp only [evOp] at he
 split at he
 ·rename_i b1 b2 e1 e2
  cases he
  have v1:=yas e1 h
  have v2:=yas e2 hk
  refine ⟨_,rfl,_, ?_,.one _ _ (.bool _)⟩
  cases neg with
  | true=>simp only [execOp,ho,v1,v2,if_true,Sem.run_bind,yb3,Result.andThen_ok,run_neq_bool w t b1 b2 hu,Sem.run_pure,cond_true]
  | false=>simp only [execOp,ho,v1,v2,Bool.false_eq_true,if_false,Sem.run_bind,yb3,Result.andThen_ok,run_eql_bool w t b1 b2 hu,Sem.run_pure,cond_false]
 ·cases he
theorem y8z {t:TypeId} {k:KK} (hk:keyKind P t=some k):P.plainKey t=true:=by
 unfold keyKind at hk
 unfold Program.plainKey
 split at hk<;>first | (rename_i h;rw [h];done) | (rename_i h;rw [h]) | cases hk
theorem yqt (d:Nat) {t:TypeId} {k:KK} (hk:keyKind P t=some k) {ob:Nat→Option AObj} {a b:AV} {u v:Value} (hu:Rel w ok ob G a u) (hv:Rel w ok ob G b v) (h1:keyIs k a=true) (h2:keyIs k b=true) {p:Bool} (he:keyEq a b=some p):
  (Op.equalIn (d+1) t u v).run P w=.ok p w:=by
 unfold keyKind at hk
 split at hk
 ·rename_i q hq
  cases hk
  cases a<;>simp only [keyIs,Bool.false_eq_true] at h1
  cases b<;>simp only [keyIs,Bool.false_eq_true] at h2
  cases hu
  cases hv
  simp only [keyEq] at he
  split at he
  ·rename_i hkk
   subst hkk
   cases he
   exact run_equalIn_int w d t _ _ _ _ hq
  ·cases he
 ·rename_i hq
  cases hk
  cases a<;>simp only [keyIs,Bool.false_eq_true] at h1
  cases b<;>simp only [keyIs,Bool.false_eq_true] at h2
  cases hu
  cases hv
  simp only [keyEq,Option.some.injEq] at he
  subst he
  exact run_equalIn_bool' w d t _ _ hq
 ·rename_i hq
  cases hk
  cases a<;>simp only [keyIs,Bool.false_eq_true] at h1
  cases b<;>simp only [keyIs,Bool.false_eq_true] at h2
  cases hu
  cases hv
  simp only [keyEq,Option.some.injEq] at he
  subst he
  rw [beq_toListBytes]
  exact run_equalIn_string w d t _ _ hq
 ·cases hk
theorem yeh {k:KK} {ks:List KK} {cs ds:List AV} {i:Nat} {b:Bool} (h:cellsEq (k::ks) (cs.drop i) (ds.drop i)=some b):∃a a' p q,cs[i]? =some a∧ds[i]? =some a'∧keyIs k a=true∧keyIs k a'=true∧keyEq a a'=some p∧cellsEq ks (cs.drop (i+1)) (ds.drop (i+1))=some q∧b=(p&&q):=by
 have split1:∀l:List AV,l.drop i=[]∨∃a,l[i]? =some a∧l.drop i=a::l.drop (i+1):=fun l=>by
  rcases Nat.lt_or_ge i l.length with hl | hl
  ·exact .inr ⟨l[i],by simp,List.drop_eq_getElem_cons hl⟩
  ·exact .inl (List.drop_eq_nil_of_le hl)
 rcases split1 cs with e | ⟨a,g1,e⟩
 ·rw [e] at h;simp [cellsEq] at h
 rcases split1 ds with e' | ⟨a',g2,e'⟩
 ·rw [e,e'] at h;simp [cellsEq] at h
 rw [e,e'] at h
 simp only [cellsEq] at h
 cases hk:(keyIs k a&&keyIs k a') with
 | false=>rw [hk] at h;simp at h
 | true=>
  rw [hk,cond_true] at h
  rw [Bool.and_eq_true] at hk
  split at h
  ·rename_i p q hp hq
   cases h
   exact ⟨a,a',p,q,g1,g2,hk.1,hk.2,hp,hq,rfl⟩
  ·cases h
theorem ydb {ob:Nat→Option AObj} {cs:List AV} {us:List Value} (h:RelL w ok ob G cs us) {i:Nat} {a:AV} (g:cs[i]? =some a):∃u,us.toArray[i]? =some u∧Rel w ok ob G a u:=by
 have hl:i<us.length:=by rw [←h.1];exact (List.getElem?_eq_some_iff.1 g).1
 exact ⟨us[i],by simp,h.2 i a us[i] g (by simp)⟩
theorem yne (d:Nat) {ob:Nat→Option AObj} {cs ds:List AV} {us vs:List Value} (hu:RelL w ok ob G cs us) (hv:RelL w ok ob G ds vs):∀(fs:List Field) (i:Nat) (ks:List KK) (b:Bool),flatFs P i fs=some ks→cellsEq ks (cs.drop i) (ds.drop i)=some b→(Op.eqFields (d+1) us.toArray vs.toArray fs).run P w=.ok b w
 | [],i,ks,b,hf,h=>by
  simp only [flatFs,Option.some.injEq] at hf
  subst hf
  have hb:b=true:=by
   generalize cs.drop i=x at h
   generalize ds.drop i=y at h
   cases x<;>cases y<;>simp [cellsEq] at h
   exact h
  subst hb
  simp only [Op.eqFields,Sem.run_pure]
 | f::fs,i,ks,b,hf,h=>by
  simp only [flatFs] at hf
  split at hf
  ·rename_i hc
   split at hf
   ·rename_i k l hk hl
    cases hf
    obtain ⟨a,a',p,q,g1,g2,k1,k2,he,hr,rfl⟩:=yeh h
    obtain ⟨u,gu,ru⟩:=ydb hu g1
    obtain ⟨v,gv,rv⟩:=ydb hv g2
    have ih:=yne d hu hv fs (i+1) l q hl hr
    have e1:=run_part_plain w (y8z hk) gu
    have e2:=run_part_plain w (y8z hk) gv
    have e3:=yqt d hk ru rv k1 k2 he
    simp only [Op.eqFields,if_pos hc.2,Sem.run_bind,hc.1,e1,e2,e3,Result.andThen_ok]
    cases p
    ·simp only [Bool.not_false,if_true,Bool.false_and,Sem.run_pure]
    ·simp only [Bool.not_true,Bool.false_eq_true,if_false,Bool.true_and,ih]
   ·cases hf
  ·cases hf
theorem yn4 (d:Nat) {e:TypeId} {k:KK} (hk:keyKind P e=some k) {ob:Nat→Option AObj} {cs ds:List AV} {us vs:List Value} (hu:RelL w ok ob G cs us) (hv:RelL w ok ob G ds vs):∀(m i:Nat) (b:Bool),cellsEq (List.replicate m k) (cs.drop i) (ds.drop i)=some b→(Op.eqItems (d+1) e 1 us.toArray vs.toArray (List.range' i m)).run P w=.ok b w
 | 0,i,b,h=>by
  have hb:b=true:=by
   rw [List.replicate_zero] at h
   generalize cs.drop i=x at h
   generalize ds.drop i=y at h
   cases x<;>cases y<;>simp [cellsEq] at h
   exact h
  subst hb
  simp only [List.range'_zero,Op.eqItems,Sem.run_pure]
 | m+1,i,b,h=>by
  rw [List.replicate_succ] at h
  obtain ⟨a,a',p,q,g1,g2,k1,k2,he,hr,rfl⟩:=yeh h
  obtain ⟨u,gu,ru⟩:=ydb hu g1
  obtain ⟨v,gv,rv⟩:=ydb hv g2
  have ih:=yn4 d hk hu hv m (i+1) q hr
  have e1:=run_part_plain w (y8z hk) gu
  have e2:=run_part_plain w (y8z hk) gv
  have e3:=yqt d hk ru rv k1 k2 he
  rw [List.range'_succ]
  simp only [Op.eqItems,Sem.run_bind,Nat.mul_one,e1,e2,e3,Result.andThen_ok]
  cases p
  ·simp only [Bool.not_false,if_true,Bool.false_and,Sem.run_pure]
  ·simp only [Bool.not_true,Bool.false_eq_true,if_false,Bool.true_and,ih]
theorem yw6 {t:TypeId} {ks:List KK} (hf:flatT P t=some ks) {ob:Nat→Option AObj} {cs ds:List AV} {us vs:List Value} (hu:RelL w ok ob G cs us) (hv:RelL w ok ob G ds vs) {b:Bool} (h:cellsEq ks cs ds=some b):
  P.eqGuardType P.depth t=false∧(Op.equalIn 10000 t (.agg us.toArray) (.agg vs.toArray)).run P w=.ok b w:=by
 unfold flatT at hf
 split at hf
 ·rename_i fs hq
  split at hf
  ·rename_i hc
   refine ⟨hc.2, ?_⟩
   have hfs:P.fieldsOf t=fs:=by simp [Program.fieldsOf,hq]
   rw [show (10000:Nat)=9998+1+1 from rfl,run_equalIn_struct w (9998+1) t _ _ (by rw [hfs];exact hq) hc.1,hfs]
   exact yne 9998 hu hv fs.toList 0 ks b hf (by simpa using h)
  ·cases hf
 ·rename_i n e hq
  split at hf
  ·rename_i hc
   refine ⟨hc.2, ?_⟩
   simp only [Option.map_eq_some_iff] at hf
   obtain ⟨k,hk,rfl⟩:=hf
   have hi:∃i,P.info? e=some i:=by
    cases h:P.info? e with
    | some i=>exact ⟨i,rfl⟩
    | none=>have:=hc.1;simp [Program.cellsOf,h] at this
   obtain ⟨i,hi⟩:=hi
   rw [show (10000:Nat)=9998+1+1 from rfl,run_equalIn_array w (9998+1) _ _ hq hi,hc.1,List.range_eq_range']
   exact yn4 9998 hk hu hv n 0 b (by simpa using h)
  ·cases hf
 ·cases hf
theorem ydx (hT:RelT w ok st.ob G st.sl a.tmps) {neg:Bool} {t t2:TypeId} {x z:Operand} {x' z':Opd} {ks:List KK} (ho:o.op=.binOp (if neg then .neq else .eql) t x z t2) (hf:flatT P t=some ks) (hx:cOpd x=some x') (hz:cOpd z=some z') {eff:Eff} (he:evOp F draw rb id st (.eqa neg ks x' z')=some eff):
  ∃y,eff=.val y∧Pure1 P w ok st.ob G a o y:=by
 have h:=y0a hT hx
 have hk:=y0a hT hz
 simp only [evOp] at he
 generalize hv:a.eval x=u at h
 generalize hv2:a.eval z=v at hk
 split at he
 ·rename_i cs ds e1 e2
  rw [e1] at h
  rw [e2] at hk
  split at he
  ·rename_i b hb
   cases he
   cases h with | agg _ us ru=>
   cases hk with | agg _ vs rv=>
   obtain ⟨hg,hr⟩:=yw6 hf ru rv hb
   refine ⟨_,rfl,_, ?_,.one _ _ (.bool _)⟩
   cases neg with
   | true=>simp only [execOp,ho,hv,hv2,if_true,Sem.run_bind,run_eqGuard_agg w _ t x z _ _ hg,Result.andThen_ok,run_neq_struct,hr,Sem.run_pure,cond_true]
   | false=>simp only [execOp,ho,hv,hv2,Bool.false_eq_true,if_false,Sem.run_bind,run_eqGuard_agg w _ t x z _ _ hg,Result.andThen_ok,run_eql_struct,hr,Sem.run_pure,cond_false]
  ·cases he
 ·cases he
theorem y10r (hT:RelT w ok st.ob G st.sl a.tmps) {op:UnOp} {t:TypeId} {x:Operand} {x':Opd} (ho:o.op=.unOp op t x) (hx:cOpd x=some x') {eff:Eff} (he:evOp F draw rb id st (.un op x')=some eff):∃y,eff=.val y∧Pure1 P w ok st.ob G a o y:=by
 have h:=y0a hT hx
 simp only [evOp] at he
 generalize hv:a.eval x=u at h
 cases hb:unOf op (x'.ev st.sl) with
 | none=>rw [hb] at he;simp [one] at he
 | some y=>
  rw [hb] at he
  simp [one] at he
  subst he
  refine ⟨.one y,rfl, ?_⟩
  unfold unOf at hb
  split at hb
  ·rename_i k n e1
   rw [e1] at h
   cases h with | one _ _ h=>cases h with | int=>
   split at hb<;>cases hb
   ·exact ⟨_,by simp only [execOp,ho,hv,Op.unary,Op.intArith,Sem.run_bind,Sem.run_pure,Result.andThen_ok],.one _ _ (.int _ _)⟩
   ·exact ⟨_,by simp only [execOp,ho,hv,Op.unary,Op.intBits,Sem.run_bind,Sem.run_pure,Result.andThen_ok],.one _ _ (.int _ _)⟩
  ·rename_i b e1
   rw [e1] at h
   cases h with | one _ _ h=>cases h with | bool=>
   split at hb<;>cases hb
   exact ⟨_,by simp only [execOp,ho,hv,Op.unary,Sem.run_bind,Sem.run_pure,Result.andThen_ok],.one _ _ (.bool _)⟩
  ·cases hb
theorem yww (hT:RelT w ok st.ob G st.sl a.tmps) {s d:TypeId} {k0 k:IntKind} {x:Operand} {x':Opd} (ho:o.op=.convert s d x) (hs:P.underlying s=some (.int k0)) (hd:P.underlying d=some (.int k)) (hx:cOpd x=some x') {eff:Eff} (he:evOp F draw rb id st (.cnv k x')=some eff):
  ∃y,eff=.val y∧Pure1 P w ok st.ob G a o y:=by
 have h:=y0a hT hx
 simp only [evOp] at he
 generalize hv:a.eval x=u at h
 split at he
 ·rename_i k1 n e1
  cases he
  rw [e1] at h
  cases h with | one _ _ h=>cases h with | int=>
  exact ⟨_,rfl,_,by simp only [execOp,ho,hv,convert,Sem.run_bind,run_underlying hs,run_underlying hd,Conv.intToInt,Sem.run_pure,Result.andThen_ok],.one _ _ (.int _ _)⟩
 ·cases he
theorem yv3 {ob:Nat→Option AObj} {x:SV} {v:Value} (hr:RelS w ok ob G x v) {str:Bool} {n:Nat} (h:lenOf str x=some n):(str=false∧∃ao c,v=.slice ao n c)∨(str=true∧∃s,v=.string s∧s.size=n):=by
 cases hr with
 | one _ _ hr=>
  cases hr with
  | nils=>cases str<;>simp [lenOf] at h;subst h;exact .inl ⟨rfl,_,_,rfl⟩
  | sl=>cases str<;>simp [lenOf] at h;subst h;exact .inl ⟨rfl,_,_,rfl⟩
  | rsl _ _ _ _ _ _ _ _ _ _ hv=>cases str<;>simp [lenOf] at h;subst h;obtain ⟨a,c,rfl,_⟩:=hv;exact .inl ⟨rfl,_,_,rfl⟩
  | rslDead _ _ _ _ _ _ _ _ _ _ _ _ hv=>cases str<;>simp [lenOf] at h;subst h;obtain ⟨a,c,rfl,_⟩:=hv;exact .inl ⟨rfl,_,_,rfl⟩
  | str s=>cases str<;>simp [lenOf] at h;subst h;exact .inr ⟨rfl,s,rfl,rfl⟩
  | _=>simp [lenOf] at h
 | agg=>simp [lenOf] at h
 | tup=>simp [lenOf] at h
 | unk=>simp [lenOf] at h
end
end Go.Ev
namespace Go.Ev
open Go.RowKit
variable [Cd]
def Post (B:Nat) (w:World) (ok:Nat→Nat→Prop) (s:Sto) (G:Nat→GB) (s':Sto) (x:SV) (v:Value) (w':World):Prop:=
 ∃ok' G',Inv B w' ok' s' G'∧ObLe s.ob G s'.ob G'∧CellLe w ok w' ok'∧OkLe B ok ok'∧Below B w w'∧RelS w' ok' s'.ob G' x v
section
variable {P:Program} {br:FuncId→Bool} {F:Caller} {draw:Bool} {rb id:Nat} {st:St} {B:Nat} {w:World} {ok:Nat→Nat→Prop} {G:Nat→GB} {a:Act} {o:Oper}
theorem Post.pure {x:SV} {v:Value} (hi:Inv B w ok st.sto G) (h:RelS w ok st.ob G x v):Post B w ok st.sto G st.sto x v w:=
 ⟨ok,G,hi,ObLe.refl _ _,CellLe.refl _ _,OkLe.refl _ _,Below.refl _ _,h⟩
theorem y90 {c:Call} {xs:List Operand} (ha:c.args.toList=xs) (f:Operand→Value):c.args.map f=(xs.map f).toArray:=by
 apply Array.ext'
 simp [ha]
theorem yp4 (hT:RelT w ok st.ob G st.sl a.tmps) {c:Call} {x:Operand} {x':Opd} {t:TypeId} (ho:o.op=.call c) (hc:c.callee=.builtin .len) (ha:c.args.toList=[x]) (ht:c.argTypes[0]? =some t) {str:Bool}
  (hu:if str=true then P.underlying t=some .string else ∃e,P.underlying t=some (.slice e)) (hx:cOpd x=some x') {eff:Eff} (he:evOp F draw rb id st (.len str x')=some eff):∃y,eff=.val y∧Pure1 P w ok st.ob G a o y:=by
 have h:=y0a hT hx
 simp only [evOp] at he
 split at he
 ·rename_i n hn
  cases he
  refine ⟨_,rfl,.int .i64 n, ?_,.one _ _ (.int _ _)⟩
  rcases yv3 h hn with ⟨rfl,ao,cap,hv⟩ | ⟨rfl,s,hv,hs⟩
  ·obtain ⟨e,hu⟩:=(by simpa using hu:∃e,P.underlying t=some (.slice e))
   simp [execOp,ho,resolve,hc,y90 ha,invoke,builtin,Builtin.len_,ht,hv,run_underlying hu,goInt]
  ·have hu:P.underlying t=some .string:=by simpa using hu
   simp [execOp,ho,resolve,hc,y90 ha,invoke,builtin,Builtin.len_,ht,hv,run_underlying hu,goInt,hs]
 ·cases he
theorem ynj (hT:RelT w ok st.ob G st.sl a.tmps) {xs:List Operand} {ys:List Opd} (h:xs.mapM cOpd=some ys) {zs:List AV} (hz:(ys.mapM fun x=>(x.ev st.sl).av)=some zs):
  RelL w ok st.ob G zs (xs.map a.eval):=by
 obtain ⟨h1,h2⟩:=y8p h
 obtain ⟨k1,k2⟩:=y8p hz
 refine ⟨by simp [h1,k1],fun j x v p q=> ?_⟩
 rw [List.getElem?_map,Option.map_eq_some_iff] at q
 obtain ⟨xo,q1,rfl⟩:=q
 have hj:j<ys.length:=by rw [←h1];exact (List.getElem?_eq_some_iff.1 q1).1
 have hy:ys[j]? =some ys[j]:=by simp [hj]
 have hr:=y0a hT (h2 j xo ys[j] q1 hy)
 have he:=k2 j ys[j] x hy p
 unfold SV.av at he
 split at he
 ·rename_i v' hv
  cases he
  rw [hv] at hr
  cases hr with
  | one _ _ hr=>exact hr
 ·cases he
theorem yz7 (hT:RelT w ok st.ob G st.sl a.tmps) {f:FuncId} {first caps:Array Operand} {first' caps':List Opd} (ho:o.op=.makeFunc (.func f) first caps) (h1:first.toList.mapM cOpd=some first') (h2:caps.toList.mapM cOpd=some caps')
  {eff:Eff} (he:evOp F draw rb id st (.mkf f first' caps')=some eff):∃y,eff=.val y∧Pure1 P w ok st.ob G a o y:=by
 simp only [evOp] at he
 split at he
 ·rename_i zs us e1 e2
  cases he
  have r1:=ynj hT h1 e1
  have r2:=ynj hT h2 e2
  have m1:first.map a.eval=(first.toList.map a.eval).toArray:=by apply Array.ext';simp
  have m2:caps.map a.eval=(caps.toList.map a.eval).toArray:=by apply Array.ext';simp
  refine ⟨_,rfl,_, ?_,.one _ _ (.fn f zs us _ _ r1.1 r2.1 r1.2 r2.2)⟩
  rw [←m1,←m2]
  simp only [execOp,ho,Instr.makeFunc,Sem.run_bind,Sem.run_pure,Result.andThen_ok]
 ·cases he
theorem ytw (hT:RelT w ok st.ob G st.sl a.tmps) {x:Operand} {x':Opd} (ho:o.op=.nilCheck x) (hx:cOpd x=some x') {eff:Eff} (he:evOp F draw rb id st (.nilc x')=some eff):∃y,eff=.val y∧Pure1 P w ok st.ob G a o y:=by
 have h:=y0a hT hx
 have hrun:(∃ad,a.eval x=.pointer (some ad))∨(∃f vs us,a.eval x=.func (.func f) vs us)→(execOp a.eval o).run P w=.ok (.value (a.eval x)) w:=by
  rintro (⟨ad,hv⟩ | ⟨f,vs,us,hv⟩)<;>simp [execOp,ho,hv]
 simp only [evOp] at he
 split at he<;>first
  |(cases he;done)
  |(rename_i e;cases he;rw [e] at h
    refine ⟨_,rfl,_,hrun ?_,h⟩
    generalize a.eval x=u at h
    cases h with
    | one _ _ h=>cases h<;>first | exact .inl ⟨_,rfl⟩ | exact .inr ⟨_,_,_,rfl⟩)
theorem y11q {cs xs ds:List AV} {off:Nat} (h:put cs off xs=some ds):off+xs.length≤cs.length∧ds=cs.take off++xs++cs.drop (off+xs.length):=by
 obtain ⟨hb,h⟩:=y05 h
 cases h
 exact ⟨y4g hb,rfl⟩
theorem yh4:∀(xs:List Value) (k off:Nat) (cs:Array Value),off+k+xs.length≤cs.size→
  ((xs.zipIdx k).foldl (fun cs (c,j)=>cs.setIfInBounds (off+j) c) cs).toList=cs.toList.take (off+k)++xs++cs.toList.drop (off+k+xs.length)
 | [],k,off,cs,h=>by simp
 | x::r,k,off,cs,h=>by
  simp only [List.zipIdx_cons,List.foldl_cons]
  rw [yh4 r (k+1) off _ (by simp at h ⊢;omega)]
  simp only [Array.toList_setIfInBounds,List.length_cons] at h ⊢
  apply List.ext_getElem?
  intro i
  simp only [List.getElem?_append,List.length_append,List.length_take,List.length_set,Array.length_toList,List.getElem?_take,List.getElem?_set,List.getElem?_drop,List.length_cons]
  have hs:off+(k+1)≤cs.size:=by omega
  rcases Nat.lt_trichotomy i (off+k) with hlt | rfl | hgt
  ·simp [show i<off+(k+1) by omega,show i<off+k by omega,show i<cs.size by omega,show off+k≠i by omega,Nat.min_eq_left (show off+(k+1)≤cs.size by omega),Nat.min_eq_left (show off+k≤cs.size by omega),show i<off+(k+1)+r.length by omega,show i<off+k+(r.length+1) by omega]
  ·simp [Nat.min_eq_left (show off+(k+1)≤cs.size by omega),Nat.min_eq_left (show off+k≤cs.size by omega),show off+k<off+(k+1) by omega,show off+k<off+(k+1)+r.length by omega,show off+k<off+k+(r.length+1) by omega,show off+k<cs.size by omega]
  ·by_cases h2:i<off+(k+1)+r.length
   ·simp [Nat.min_eq_left (show off+(k+1)≤cs.size by omega),Nat.min_eq_left (show off+k≤cs.size by omega),show ¬i<off+(k+1) by omega,show ¬i<off+k by omega,h2,show i<off+k+(r.length+1) by omega,show i-(off+k)=(i-(off+(k+1)))+1 by omega]
   ·simp [Nat.min_eq_left (show off+(k+1)≤cs.size by omega),Nat.min_eq_left (show off+k≤cs.size by omega),h2,show ¬i<off+k+(r.length+1) by omega,show off+(k+1)+r.length+(i-(off+(k+1)+r.length))=off+k+(r.length+1)+(i-(off+k+(r.length+1))) by omega,show off+k≠off+k+(r.length+1)+(i-(off+k+(r.length+1))) by omega]
theorem yof (hT:RelT w ok st.ob G st.sl a.tmps) {place:Nat→Option (Nat×Nat)}:∀{ps:List (Nat×Operand)} {qs:List (Nat×Nat×Opd)},cParts P place ps=some qs→∀{cs ds:List AV} {vs:Array Value},fill st.sl qs cs=some ds→RelL w ok st.ob G cs vs.toList→
  ∃us,Instr.fill place vs (ps.map fun (i,x)=>(i,a.eval x))=some us∧RelL w ok st.ob G ds us.toList∧us.size=vs.size
 | [],qs,h,cs,ds,vs,hf,hr=>by
  simp [cParts] at h
  subst h
  simp [fill] at hf
  subst hf
  exact ⟨vs,rfl,hr,rfl⟩
 |(i,x)::r,qs,h,cs,ds,vs,hf,hr=>by
  simp only [cParts] at h
  split at h
  ·rename_i off n y l hpl hx hrest
   cases h
   simp only [fill] at hf
   split at hf
   ·rename_i xs hxs
    obtain ⟨hb,hf⟩:=y05 hf
    have hlen:xs.length=n:=Nat.eq_of_beq_eq_true hb
    split at hf
    ·rename_i cs' hput
     have hrx:=(y0a hT hx).cells hxs
     have hvl:(a.eval x).cells.size=n:=by rw [←hlen,hrx.1];simp
     obtain ⟨q1,q2,q3⟩:=yqi hput hr hrx
     have hsz:off+(a.eval x).cells.size≤vs.size:=by simpa using q2
     have hfold:=yh4 (a.eval x).cells.toList 0 off vs (by simpa using hsz)
     have hz:(a.eval x).cells.zipIdx.foldl (fun cs (c,j)=>cs.setIfInBounds (off+j) c) vs=((a.eval x).cells.toList.zipIdx 0).foldl (fun cs (c,j)=>cs.setIfInBounds (off+j) c) vs:=by
      rw [←Array.foldl_toList,Array.toList_zipIdx]
     have hcs:RelL w ok st.ob G cs' ((a.eval x).cells.zipIdx.foldl (fun cs (c,j)=>cs.setIfInBounds (off+j) c) vs).toList:=by
      rw [hz,hfold]
      simpa using q1
     obtain ⟨us,e1,e2,e3⟩:=yof hT hrest hf hcs
     refine ⟨us, ?_,e2, ?_⟩
     ·simp only [List.map_cons,Instr.fill,hpl]
      rw [if_neg (by simp [hvl];omega)]
      exact e1
     ·rw [e3]
      rw [hz,←Array.length_toList,hfold]
      simp only [List.length_append,List.length_take,List.length_drop,Array.length_toList]
      omega
    ·cases hf
   ·cases hf
  ·cases h
theorem yc0 {t:TypeId} {z:List AV} (h:tZero P t=some z):∃i v,P.info? t=some i∧i.zero=some v∧RelL w ok st.ob G z v.cells.toList:=by
 unfold tZero at h
 cases hi:P.info? t with
 | none=>simp [hi] at h
 | some i=>
  cases hz:i.zero with
  | none=>simp [hi,hz] at h
  | some v=>
   simp [hi,hz] at h
   exact ⟨i,v,rfl,hz,yia h⟩
theorem yjb {fs:Array Field} {pl:List (Nat×Nat)} (h:fieldPlaces P fs.toList=some pl) (w:World):(fs.mapM fun f=>(do pure (f.offset,←sizeOf f.type):Sem (Nat×Nat))).run P w=.ok pl.toArray w:=by
 have key:∀(l:List Field) (pl:List (Nat×Nat)),fieldPlaces P l=some pl→(l.mapM fun f=>(do pure (f.offset,←sizeOf f.type):Sem (Nat×Nat))).run P w=.ok pl w:=by
  intro l
  induction l with
  | nil=>intro pl h;simp [fieldPlaces] at h;subst h;rfl
  | cons f r ih=>
   intro pl h
   obtain ⟨y,l',h1,h2,rfl⟩:=(mapM_cons _ f r pl).1 h
   rw [Option.map_eq_some_iff] at h1
   obtain ⟨n,hn,rfl⟩:=h1
   simp only [List.mapM_cons,Sem.run_bind,y4x hn,Result.andThen_ok,Sem.run_pure,ih l' h2]
 have:=key fs.toList pl h
 rw [Array.mapM_eq_mapM_toList]
 simp only [Sem.run_map,this,Result.andThen_ok]
theorem yje (hT:RelT w ok st.ob G st.sl a.tmps) {t:TypeId} {ps:Array (Nat×Operand)} (ho:o.op=.build t ps) {z:List AV} (hz:tZero P t=some z) {place:Nat→Option (Nat×Nat)} {qs:List (Nat×Nat×Opd)} (hq:cParts P place ps.toList=some qs)
  (hrun:(∃fs pl,P.underlying t=some (.struct fs)∧fieldPlaces P fs.toList=some pl∧place=fun i=>pl[i]?)∨(∃len e n,P.underlying t=some (.array len e)∧tSize P e=some n∧place=fun i=>some (i*n,n)))
  {eff:Eff} (he:evOp F draw rb id st (.build z qs)=some eff):∃y,eff=.val y∧Pure1 P w ok st.ob G a o y:=by
 obtain ⟨i,zv,hi,hzi,hzr⟩:=yc0 (P:=P) (w:=w) (ok:=ok) (st:=st) (G:=G) hz
 simp only [evOp] at he
 split at he
 ·rename_i cs hcs
  cases he
  obtain ⟨us,e1,e2,_⟩:=yof (P:=P) hT hq hcs hzr
  have em:(ps.map fun (i,x)=>(i,a.eval x)).toList=ps.toList.map fun (i,x)=>(i,a.eval x):=by simp
  refine ⟨_,rfl,.agg us, ?_, ?_⟩
  ·rcases hrun with ⟨fs,pl,hu,hpl,hp⟩ | ⟨len,e,n,hu,hn,hp⟩
   ·have hp':(fun i=>(pl.toArray)[i]?)=place:=by rw [hp];funext i;simp
    simp only [execOp,ho,Instr.build,Sem.run_bind,zeroValue,typeInfo,run_program,Result.andThen_ok,hi,Sem.run_pure,hzi,run_underlying hu,yjb hpl,em]
    rw [hp',e1]
    simp
   ·simp only [execOp,ho,Instr.build,Sem.run_bind,zeroValue,typeInfo,run_program,Result.andThen_ok,hi,Sem.run_pure,hzi,run_underlying hu,y4x hn,em]
    rw [←hp,e1]
    simp
  ·have:=RelS.agg (w:=w) (ok:=ok) (ob:=st.ob) (G:=G) _ _ e2
   simpa using this
 ·cases he
theorem yjv (hi:Inv B w ok st.sto G) {x:SV} {v:Value} (hr:RelS w ok st.ob G x v) {n:Nat} {cs:List AV} (h:loadAt st.ob n x=some cs):
  ∃b off vs,v=.pointer (some ⟨b,off,none⟩)∧cs.length=n∧RelL w ok st.ob G cs vs∧∀j u,vs[j]? =some u→w.cell? ⟨b,off+j,none⟩=some u:=by
 unfold loadAt at h
 split at h
 ·rename_i j off
  split at h
  ·rename_i c hob
   cases hr with | one _ _ hr=>cases hr with | box _ _ c' hb=>
   rw [hob] at hb
   cases hb
   obtain ⟨vs,e,hblk,hrl⟩:=hi.boxes j c hob
   obtain ⟨h1,h2,h3⟩:=yro h hrl
   refine ⟨_,_,_,rfl,h3,h1,fun k u hu=> ?_⟩
   rw [List.getElem?_take] at hu
   split at hu
   ·rw [List.getElem?_drop] at hu
    rw [ya3 hblk]
    simpa using hu
   ·cases hu
  ·cases h
 ·rename_i j ver k off
  split at h
  ·rename_i sz es hrow
   have hob:=y6w hrow
   split at h
   ·rename_i e he
    obtain ⟨hes,hcap,hmax,hfz,vs,et,hblk,hvs,hrl⟩:=hi.rows j sz es ver hob
    have hk:k<es.length:=(List.getElem?_eq_some_iff.1 he).1
    have hel:e.length=sz:=hes e (List.mem_of_getElem? he)
    obtain ⟨hb,hs⟩:=y05 h
    cases hs
    have hb:=y4g hb
    cases hr with | one _ _ hr=>cases hr with
    | raddrDead _ _ _ _ z ez v' ad hb' hlt=>
     have:some (AObj.row sz es ver)=some (AObj.row z ez v'):=hob.symm.trans hb'
     cases this
     exact absurd hlt (Nat.lt_irrefl _)
    | raddr _ _ _ _ z ez hb'=>
     have:some (AObj.row sz es ver)=some (AObj.row z ez ver):=hob.symm.trans hb'
     cases this
     have hbig:k*sz+sz≤es.length*sz:=by
      have:=Nat.mul_le_mul_right sz (show k+1≤es.length by omega)
      rw [Nat.add_mul] at this
      omega
     have hfl:=y6r hes
     refine ⟨_,_,((vs.toList.drop (k*sz+off)).take n),rfl,by rw [List.length_take,List.length_drop];omega, ?_,fun i u hu=> ?_⟩
     ·have hsz:(vs.toList.take (es.length*sz)).length=es.length*sz:=by rw [←hrl.1,hfl]
      refine ⟨?_,fun i x u p q=> ?_⟩
      ·simp only [List.length_take,List.length_drop,Array.length_toList] at hsz ⊢
       omega
      ·rw [List.getElem?_take] at p q
       split at p
       ·rename_i hin
        rw [if_pos hin,List.getElem?_drop] at q
        rw [List.getElem?_drop] at p
        refine hrl.2 (k*sz+(off+i)) x u (by rw [ybm hes he (by omega)];exact p) ?_
        rw [List.getElem?_take,if_pos (by omega)]
        rw [←Nat.add_assoc]
        exact q
       ·cases p
     ·rw [List.getElem?_take] at hu
      split at hu
      ·rw [List.getElem?_drop] at hu
       rw [ya3 hblk]
       simpa using hu
      ·cases hu
   ·cases h
  ·cases h
 ·rename_i es k off
  split at h
  ·rename_i e he
   obtain ⟨hb,hs⟩:=y05 h
   cases hs
   have hb:=y4g hb
   cases hr with | one _ _ hr=>cases hr with
   | saddr _ _ _ sz b ob' e' f he' hsz hc hrr=>
    rw [he] at he'
    cases he'
    refine ⟨b,ob'+off,(List.range n).map (fun j=>f (off+j)),rfl,by rw [List.length_take,List.length_drop];omega,⟨?_,fun j x u p q=> ?_⟩,fun j u hu=> ?_⟩
    ·simp only [List.length_take,List.length_drop,List.length_map,List.length_range];omega
    ·rw [List.getElem?_take] at p
     split at p
     ·rename_i hin
      rw [List.getElem?_drop] at p
      simp [hin] at q
      subst q
      exact (hrr _ _ p).any _ _
     ·cases p
    ·have hj:j<n:=by
      have:=(List.getElem?_eq_some_iff.1 hu).1
      simpa using this
     simp [hj] at hu
     subst hu
     rw [Nat.add_assoc]
     exact (hc (off+j) (by omega)).1
  ·cases h
 ·cases h
theorem yer {t:TypeId} {agg:Bool} (ha:tAgg P t=some agg) {n:Nat} (hn:tSize P t=some n) (h1:agg=true∨n=1) {b off:Nat} {ob:Nat→Option AObj} {cs:List AV} (hl:cs.length=n) {vs:List Value} (hr:RelL w ok ob G cs vs)
  (hc:∀j u,vs[j]? =some u→w.cell? ⟨b,off+j,none⟩=some u) {y:SV} (hy:asOne agg cs=some y):∃v,(loadVar t ⟨b,off,none⟩).run P w=.ok v w∧RelS w ok ob G y v:=by
 obtain ⟨q1,q2⟩:=yl7 hy hr
 cases agg with
 | true=>
  refine ⟨.agg vs.toArray, ?_,by rw [q1 rfl];exact .agg _ _ hr⟩
  have hlc:=run_loadCells_list (P:=P) w ⟨b,off,none⟩ vs (fun j u hu=>by rw [add_mid];exact hc j u hu)
  rw [←hr.1,hl] at hlc
  simp only [loadVar,Sem.run_bind,yc5 ha,Result.andThen_ok,if_true,y4x hn,hlc,Sem.run_pure]
 | false=>
  obtain ⟨v,y',e1,e2,e3,e4⟩:=q2 rfl
  subst e1
  have hcell:=hc 0 v (by simp)
  refine ⟨v, ?_,by rw [e3];exact .one _ _ e4⟩
  simp only [loadVar,Sem.run_bind,yc5 ha,Result.andThen_ok,Bool.false_eq_true,if_false,run_load]
  rw [show (⟨b,off,none⟩:Addr)=⟨b,off+0,none⟩ from rfl,hcell]
theorem ytu (hi:Inv B w ok st.sto G) (hT:RelT w ok st.ob G st.sl a.tmps) {t:TypeId} {x:Operand} {x':Opd} (ho:o.op=.load t x) (hx:cOpd x=some x') {agg:Bool} (hagg:tAgg P t=some agg) {n:Nat} (hn:tSize P t=some n) (h1:agg=true∨n=1)
  {eff:Eff} (he:evOp F draw rb id st (.load agg n x')=some eff):∃y,eff=.val y∧Pure1 P w ok st.ob G a o y:=by
 have h:=y0a hT hx
 simp only [evOp] at he
 obtain ⟨_,he⟩:=y05 he
 split at he
 ·rename_i cs hcs
  split at he
  ·rename_i y hy
   cases he
   obtain ⟨b,off,vs,hv,hl,hr,hc⟩:=yjv hi h hcs
   obtain ⟨v,hrun,hrel⟩:=yer (P:=P) hagg hn h1 hl hr hc hy
   exact ⟨_,rfl,v,by simp [execOp,ho,hv,Instr.loadAt,Instr.sureAddr,hrun],hrel⟩
  ·cases he
 ·cases he
end
end Go.Ev
namespace Go.Ev
open Go.RowKit
variable [Cd]
def Eff1 (P:Program) (B:Nat) (w:World) (ok:Nat→Nat→Prop) (s:Sto) (G:Nat→GB) (a:Act) (o:Oper) (s':Sto) (x:SV):Prop:=
 ∃v w',((execOp a.eval o).run P w=.ok (.value v) w'∨((execOp a.eval o).run P w=.ok .skip w'∧v=undef))∧Post B w ok s G s' x v w'
section
variable {P:Program} {br:FuncId→Bool} {F:Caller} {draw:Bool} {rb id:Nat} {st:St} {B:Nat} {w:World} {ok:Nat→Nat→Prop} {G:Nat→GB} {a:Act} {o:Oper}
theorem Pure1.eff {x:SV} (hi:Inv B w ok st.sto G) (h:Pure1 P w ok st.ob G a o x):Eff1 P B w ok st.sto G a o st.sto x:=by
 obtain ⟨v,h1,h2⟩:=h
 exact ⟨v,w,.inl h1,Post.pure hi h2⟩
theorem yb8 (hB:B≤w.heap.size) (o:Obj):Below B w (w.alloc o):=(Below.refl B w).alloc hB o
theorem y9k {g:Nat} (hB:B≤g) (cs:Array Value):Below B w (w.setRow g cs):=
 ⟨rfl,rfl,rfl,by rw [y95];exact Nat.le_refl _,fun k hk=>setRow_other w g k cs (by omega)⟩
theorem yqo (hi:Inv B w ok st.sto G) (hid:st.sto.ob id=none) (hB:B≤w.heap.size) (t:TypeId) {v:Value} {cs:List AV} (hr:RelL w ok st.ob G cs v.cells.toList) {s':Sto} {y:SV} (he:(Eff.new (.box cs) (.one (.box id 0))).sto st.sto id=(s',y)):
  (newVar t v).run P w=.ok ⟨w.heap.size,0,none⟩ (w.alloc (.cells v.cells t))∧Post B w ok st.sto G s' y (.pointer (some ⟨w.heap.size,0,none⟩)) (w.alloc (.cells v.cells t)):=by
 cases he
 obtain ⟨h1,h2⟩:=hi.newBox hB hid hr t
 simp only [Array.toArray_toList] at h1
 refine ⟨by simp [newVar,newRow],ok,_,h1,h2,y78 hi _,OkLe.refl _ _,yb8 hB _, ?_⟩
 have:=Rel.box (w:=w.alloc (.cells v.cells t)) (ok:=ok) (ob:=upd st.ob id (.box cs)) (G:=setG G id ⟨w.heap.size,0⟩) id 0 cs (by simp)
 rw [setG_same] at this
 exact .one _ _ this
theorem yui (hi:Inv B w ok st.sto G) (hid:st.sto.ob id=none) (hB:B≤w.heap.size) {t:TypeId} {z:List AV} (ho:o.op=.alloc t) (hz:tZero P t=some z) {eff:Eff} (he:evOp F draw rb id st (.alloc z)=some eff) {s':Sto} {y:SV} (hs:eff.sto st.sto id=(s',y)):
  Eff1 P B w ok st.sto G a o s' y:=by
 obtain ⟨i,zv,hi',hzi,hzr⟩:=yc0 (P:=P) (w:=w) (ok:=ok) (st:=st) (G:=G) hz
 simp only [evOp,Option.some.injEq] at he
 subst he
 obtain ⟨h1,h2⟩:=yqo (P:=P) hi hid hB t hzr hs
 exact ⟨_,_,.inl (by simp [execOp,ho,Instr.alloc,zeroValue,typeInfo,hi',hzi,h1]),h2⟩
theorem y10v (hi:Inv B w ok st.sto G) (hid:st.sto.ob id=none) (hB:B≤w.heap.size) (hT:RelT w ok st.ob G st.sl a.tmps) {t:TypeId} {x:Operand} {x':Opd} (ho:o.op=.box t x) (hx:cOpd x=some x') {eff:Eff} (he:evOp F draw rb id st (.box x')=some eff) {s':Sto} {y:SV} (hs:eff.sto st.sto id=(s',y)):
  Eff1 P B w ok st.sto G a o s' y:=by
 simp only [evOp] at he
 split at he
 ·rename_i cs hcs
  cases he
  obtain ⟨h1,h2⟩:=yqo (P:=P) hi hid hB t ((y0a hT hx).cells hcs) hs
  exact ⟨_,_,.inl (by simp [execOp,ho,Instr.box,h1]),h2⟩
 ·cases he
theorem yhn (hi:Inv B w ok st.sto G) (hid:st.sto.ob id=none) (hB:B≤w.heap.size) {sz cap len:Nat} {es:List (List AV)} {arr:Array Value} (t:TypeId) (hes:∀e∈es,e.length=sz) (hlen:es.length=len) (hcap:len≤cap) (hmax:cap≤maxLen) (harr:arr.size=cap*sz)
  (hr:RelL w ok st.ob G es.flatten (arr.toList.take (len*sz))) {s':Sto} {y:SV} (he:(Eff.new (.row sz es 0) (.one (.rsl id 0 sz 0 len false))).sto st.sto id=(s',y)):
  Post B w ok st.sto G s' y (.slice (some ⟨w.heap.size,0,none⟩) len cap) (w.alloc (.cells arr t)):=by
 cases he
 subst hlen
 obtain ⟨h1,h2⟩:=hi.newRow hB hid hes hcap hmax harr hr t
 refine ⟨ok,_,h1,h2,y78 hi _,OkLe.refl _ _,yb8 hB _, ?_⟩
 refine .one _ _ (.rsl id 0 sz 0 es.length false es _ (by simp) (by omega) ⟨⟨w.heap.size,0,none⟩,cap,rfl,hcap,hmax,fun _=>by simp,by simp⟩)
theorem yfo {α:Type} (n:Nat) (z:List α) {sz:Nat} (hz:z.length=sz):∀e∈List.replicate n z,e.length=sz:=by
 intro e he
 rw [(List.mem_replicate.1 he).2]
 exact hz
theorem ypc {ob:Nat→Option AObj} {z:List AV} {zv:Array Value} {sz:Nat} (hz:z.length=sz) (hr:RelL w ok ob G z zv.toList):∀(n m:Nat),n*sz≤m→RelL w ok ob G (List.replicate n z).flatten ((madeCells zv m).toList.take (n*sz)):=by
 intro n m hm
 have hzs:zv.size=sz:=by rw [←hz,hr.1];simp
 have hfl:(List.replicate n z).flatten.length=n*sz:=by rw [y6r (yfo n z hz)];simp
 refine ⟨by rw [hfl];simp [madeCells];omega,fun j x v p q=> ?_⟩
 have hj:j<n*sz:=by rw [←hfl];exact (List.getElem?_eq_some_iff.1 p).1
 have hsz:0<sz:=Nat.pos_of_ne_zero fun e=>by subst e;simp at hj
 have hdiv:j / sz<n:=Nat.div_lt_of_lt_mul (by rw [Nat.mul_comm];exact hj)
 have hmod:j%sz<sz:=Nat.mod_lt _ hsz
 have hp:(List.replicate n z).flatten[j / sz*sz+j%sz]? =z[j%sz]? :=ybm (yfo n z hz) (by simp [hdiv]) hmod
 rw [Nat.div_add_mod'] at hp
 rw [hp] at p
 rw [List.getElem?_take,if_pos hj] at q
 have hlt:j<m:=by omega
 have hv:v=zv[j%sz]! :=by
  simp [madeCells,hlt] at q
  rw [hzs] at q
  exact q.symm
 subst hv
 refine hr.2 (j%sz) x _ p ?_
 have:j%sz<zv.size:=by rw [hzs];exact hmod
 simp [this]
theorem y119 (hi:Inv B w ok st.sto G) (hid:st.sto.ob id=none) (hB:B≤w.heap.size) (hT:RelT w ok st.ob G st.sl a.tmps) {t e:TypeId} {l c:Operand} {l' c':Opd} (ho:o.op=.makeSlice t l c) (hu:P.underlying t=some (.slice e)) {n:Nat} (hn:tSize P e=some n) {z:List AV} (hz:tZero P e=some z) (hzl:z.length=n)
  {i:TypeInfo} (hie:P.info? e=some i) (hl:cOpd l=some l') (hc:cOpd c=some c') {eff:Eff} (he:evOp F draw rb id st (.mks n i.bytes z l' c')=some eff) {s':Sto} {y:SV} (hs:eff.sto st.sto id=(s',y)):Eff1 P B w ok st.sto G a o s' y:=by
 obtain ⟨i2,zv,hi2,hzi,hzr⟩:=yc0 (P:=P) (w:=w) (ok:=ok) (st:=st) (G:=G) hz
 rw [hie] at hi2
 cases hi2
 obtain ⟨i3,hi3,hsz⟩:=yar hn
 rw [hie] at hi3
 cases hi3
 simp only [evOp] at he
 split at he
 ·rename_i li ci e1 e2
  obtain ⟨kl,hv1⟩:=y7z e1 (y0a hT hl)
  obtain ⟨kc,hv2⟩:=y7z e2 (y0a hT hc)
  split at he
  ·rename_i ln cn e3 e4
   obtain ⟨_,rfl,_⟩:=y7k e3
   obtain ⟨_,rfl,_⟩:=y7k e4
   obtain ⟨hb,he⟩:=y05 he
   cases he
   simp only [Bool.and_eq_true] at hb
   have b1:=y4g hb.1.1
   have b2:=y4g hb.1.2
   have b3:=y4g hb.2
   have hrun:=run_make (P:=P) w t e i zv hu hie hzi kl kc (ln:Int) (cn:Int) (by omega) (by omega) (by rw [←Int.natCast_mul];omega) (by omega)
   simp only [Int.toNat_natCast,hsz] at hrun
   refine ⟨_,_,.inl (by simp [execOp,ho,hv1,hv2,hrun];exact ⟨rfl,rfl⟩), ?_⟩
   exact yhn hi hid hB e (yfo ln z hzl) (by simp) b1 (by unfold maxLen;omega) (by simp [madeCells]) (ypc hzl hzr ln _ (Nat.mul_le_mul_right _ b1)) hs
  ·cases he
 ·cases he
theorem yko (hT:RelT w ok st.ob G st.sl a.tmps) {sz:Nat}:∀{ps:List (Nat×Operand)} {qs:List (Nat×Nat×Opd)},cParts P (fun i=>some (i,sz)) ps=some qs→∀{es fs:List (List AV)} {vs:Array Value},fillS st.sl sz (qs.map fun x=>(x.1,x.2.2)) es=some fs→
  (∀e∈es,e.length=sz)→vs.size=es.length*sz→RelL w ok st.ob G es.flatten vs.toList→
  ∃us,Instr.fill (fun i=>some (i*sz,sz)) vs (ps.map fun (i,x)=>(i,a.eval x))=some us∧RelL w ok st.ob G fs.flatten us.toList∧us.size=vs.size∧fs.length=es.length∧∀e∈fs,e.length=sz
 | [],qs,h,es,fs,vs,hf,hes,hsz,hr=>by
  simp [cParts] at h
  subst h
  simp [fillS] at hf
  subst hf
  exact ⟨vs,rfl,hr,rfl,rfl,hes⟩
 |(i,x)::r,qs,h,es,fs,vs,hf,hes,hsz,hr=>by
  simp only [cParts] at h
  split at h
  ·rename_i off n y l hpl hx hrest
   cases h
   cases hpl
   simp only [List.map_cons,fillS] at hf
   split at hf
   ·rename_i xs hxs
    obtain ⟨hb,hf⟩:=y05 hf
    simp only [Bool.and_eq_true] at hb
    have hlen:xs.length=sz:=Nat.eq_of_beq_eq_true hb.1
    have hi':i<es.length:=y77 hb.2
    have hrx:=(y0a hT hx).cells hxs
    have hvl:(a.eval x).cells.size=sz:=by rw [←hlen,hrx.1];simp
    have hbig:i*sz+sz≤es.length*sz:=by
     have:=Nat.mul_le_mul_right sz (show i+1≤es.length by omega)
     rw [Nat.add_mul] at this
     omega
    have hfold:=yh4 (a.eval x).cells.toList 0 (i*sz) vs (by simp [hvl];omega)
    have hz:(a.eval x).cells.zipIdx.foldl (fun cs (c,j)=>cs.setIfInBounds (i*sz+j) c) vs=((a.eval x).cells.toList.zipIdx 0).foldl (fun cs (c,j)=>cs.setIfInBounds (i*sz+j) c) vs:=by
     rw [←Array.foldl_toList,Array.toList_zipIdx]
    have hset:∀e∈es.set i xs,e.length=sz:=by
     intro e he
     rcases List.mem_or_eq_of_mem_set he with h | h
     ·exact hes e h
     ·rw [h];exact hlen
    have hcs:RelL w ok st.ob G (es.set i xs).flatten ((a.eval x).cells.zipIdx.foldl (fun cs (c,j)=>cs.setIfInBounds (i*sz+j) c) vs).toList:=by
     rw [hz,hfold,ynr hes hi' hlen]
     have e1:i*sz+0+(a.eval x).cells.toList.length=(i+1)*sz:=by rw [Array.length_toList,hvl,Nat.add_mul];omega
     rw [e1]
     exact ((hr.take (i*sz)).append hrx).append (hr.drop _)
    have hsize:((a.eval x).cells.zipIdx.foldl (fun cs (c,j)=>cs.setIfInBounds (i*sz+j) c) vs).size=vs.size:=by
     rw [hz,←Array.length_toList,hfold]
     simp only [List.length_append,List.length_take,List.length_drop,Array.length_toList,hvl]
     omega
    obtain ⟨us,e1,e2,e3,e4,e5⟩:=yko hT hrest hf hset (by rw [hsize,hsz];simp) hcs
    refine ⟨us, ?_,e2,by rw [e3,hsize],by rw [e4];simp,e5⟩
    simp only [List.map_cons,Instr.fill]
    rw [if_neg (by simp [hvl];omega)]
    exact e1
   ·cases hf
  ·cases h
theorem ys0 (hi:Inv B w ok st.sto G) (hid:st.sto.ob id=none) (hB:B≤w.heap.size) (hT:RelT w ok st.ob G st.sl a.tmps) {t e:TypeId} {len:Nat} {ps:Array (Nat×Operand)} (ho:o.op=.buildSlice t len ps) (hu:P.underlying t=some (.slice e)) {n:Nat} (hn:tSize P e=some n) {z:List AV} (hz:tZero P e=some z) (hzl:z.length=n)
  (hsmall:len*n≤16777216) (hpos:0<n) {qs:List (Nat×Nat×Opd)} (hq:cParts P (fun i=>some (i,n)) ps.toList=some qs) {eff:Eff} (he:evOp F draw rb id st (.bslice n z len (qs.map fun x=>(x.1,x.2.2)))=some eff) {s':Sto} {y:SV} (hs:eff.sto st.sto id=(s',y)):
  Eff1 P B w ok st.sto G a o s' y:=by
 obtain ⟨i,zv,hie,hzi,hzr⟩:=yc0 (P:=P) (w:=w) (ok:=ok) (st:=st) (G:=G) hz
 obtain ⟨i3,hi3,hsz⟩:=yar hn
 rw [hie] at hi3
 cases hi3
 simp only [evOp] at he
 split at he
 ·rename_i es hes
  cases he
  have h0:RelL w ok st.ob G (List.replicate len z).flatten (madeCells zv.cells (len*n)).toList:=by
   have:=ypc hzl hzr len (len*n) (Nat.le_refl _)
   rwa [List.take_of_length_le (by simp [madeCells])] at this
  obtain ⟨us,e1,e2,e3,e4,e5⟩:=yko (P:=P) hT hq hes (yfo len z hzl) (by simp [madeCells]) h0
  have hel:es.length=len:=by rw [e4];simp
  have hus:us.size=len*n:=by rw [e3];simp [madeCells]
  have em:(ps.map fun (i,x)=>(i,a.eval x)).toList=ps.toList.map fun (i,x)=>(i,a.eval x):=by simp
  refine ⟨.slice (some ⟨w.heap.size,0,none⟩) len len,w.alloc (.cells us e),.inl ?_,yhn hi hid hB e e5 hel (Nat.le_refl _) ?_ hus (by rw [List.take_of_length_le (by simp [hus])];exact e2) hs⟩
  ·by_cases hlen:len=0
   ·subst hlen
    have hps:ps.toList=[]:=by
     cases hp:ps.toList with
     | nil=>rfl
     | cons q r=>
      obtain ⟨q1,q2⟩:=q
      rw [hp] at hq
      simp only [cParts] at hq
      split at hq
      ·rename_i l _ _ _ hpl hx hr
       cases hq
       cases hpl
       simp only [List.map_cons,fillS] at hes
       split at hes
       ·obtain ⟨hb,_⟩:=y05 hes
        simp [Nat.blt] at hb
       ·cases hes
      ·cases hq
    have hus0:us=#[]:=by
     apply Array.eq_empty_of_size_eq_zero
     rw [hus];simp
    subst hus0
    have hmap:(ps.map fun (i,x)=>(i,a.eval x)).toList=[]:=by rw [em,hps];rfl
    simp [execOp,ho,Instr.buildSlice,run_underlying hu,y4x hn,hmap,Instr.fill,newRow,Array.range_zero']
    rw [hps]
    simp [Instr.fill]
   ·have hrun:=run_buildSlice (P:=P) w t e len (ps.map fun (i,x)=>(i,a.eval x)) us i zv hu hie hzi (by rw [hsz];omega) (by rw [hsz];exact Nat.ne_of_gt (Nat.mul_pos (by omega) hpos)) (by rw [hsz,em];exact e1)
    simp only [execOp,ho,Sem.run_bind,hrun,Result.andThen_ok,Sem.run_pure]
  ·have:len≤len*n:=Nat.le_mul_of_pos_right _ hpos
   unfold maxLen
   omega
 ·cases he
end
end Go.Ev
namespace Go.Ev
open Go.RowKit
variable [Cd]
section
variable {P:Program} {br:FuncId→Bool} {F:Caller} {draw:Bool} {rb id:Nat} {st:St} {B:Nat} {w:World} {ok:Nat→Nat→Prop} {G:Nat→GB} {a:Act} {o:Oper}
theorem ymu {t:TypeId} {n:Nat} (hn:tSize P t=some n) {g off:Nat} {cur:Array Value} {e:TypeId} (hg:w.heap[g]? =some (.cells cur e (0,0))) {v:Value} {cs:List AV} {ob:Nat→Option AObj} (hr:RelL w ok ob G cs v.cells.toList) (hl:cs.length=n) (hle:off+n≤cur.size):
  (storeVar t ⟨g,off,none⟩ v).run P w=.ok () (w.setRow g (cur.toList.take off++v.cells.toList++cur.toList.drop (off+n)).toArray):=by
 have hs:v.cells.size=n:=by rw [←hl,hr.1];simp
 have:=run_storeCells_at P g off e v.cells.toList 0 cur w hg (by simp [hs];omega) hr.one
 simp only [Nat.add_zero,Array.length_toList,hs] at this
 simp [storeVar,y4x hn,hs,this]
theorem ytz (hi:Inv B w ok st.sto G) (hB:B≤w.heap.size) (hT:RelT w ok st.ob G st.sl a.tmps) {t:TypeId} {x z:Operand} {x' z':Opd} (ho:o.op=.store t x z) (hx:cOpd x=some x') (hz:cOpd z=some z') {n:Nat} (hn:tSize P t=some n)
  {eff:Eff} (he:evOp F draw rb id st (.store n x' z')=some eff) {s':Sto} {y:SV} (hs:eff.sto st.sto id=(s',y)):Eff1 P B w ok st.sto G a o s' y:=by
 have hA:=y0a hT hx
 have hV:=y0a hT hz
 simp only [evOp] at he
 split at he
 ·rename_i xs hxs
  obtain ⟨hb,he⟩:=y05 he
  have hl:xs.length=n:=Nat.eq_of_beq_eq_true hb
  have hrx:=hV.cells hxs
  have hvs:(a.eval z).cells.size=n:=by rw [←hl,hrx.1];simp
  have hrun:∀(g off:Nat) (cur:Array Value) (e:TypeId),a.eval x=.pointer (some ⟨g,off,none⟩)→w.heap[g]? =some (.cells cur e (0,0))→off+n≤cur.size→
    (execOp a.eval o).run P w=.ok .skip (w.setRow g (cur.toList.take off++(a.eval z).cells.toList++cur.toList.drop (off+n)).toArray):=by
   intro g off cur e hv hg hle
   simp [execOp,ho,hv,Instr.storeAt,Instr.sureAddr,ymu hn hg hrx hl hle]
  split at he
  ·rename_i j off hae
   split at he
   ·rename_i cs hob
    split at he
    ·rename_i cs' hput
     cases he
     simp only [Eff.sto,Prod.mk.injEq] at hs
     obtain ⟨rfl,rfl⟩:=hs
     rw [hae] at hA
     generalize hv:a.eval x=u at hA
     cases hA with | one _ _ hA=>cases hA with | box _ _ c' hb'=>
     obtain ⟨vs,e,hblk,hrl⟩:=hi.boxes j cs hob
     obtain ⟨q1,q2,q3⟩:=yqi hput hrl hrx
     rw [Array.length_toList,hvs] at q1 q2
     obtain ⟨i1,i2,i3⟩:=hi.setBox hob q1
     exact ⟨undef,_,.inr ⟨hrun _ _ _ _ hv hblk (by simpa using q2),rfl⟩,ok,G,i1,i2,i3,OkLe.refl _ _,y9k (hi.base j _ hob) _,y80⟩
    ·cases he
   ·cases he
  ·rename_i j ver k off hae
   split at he
   ·rename_i sz es hrow
    have hob:=y6w hrow
    split at he
    ·rename_i el hel
     split at he
     ·rename_i el' hput
      obtain ⟨hfr,he⟩:=y05 he
      have hfr:=y4g hfr
      cases he
      simp only [Eff.sto,Prod.mk.injEq] at hs
      obtain ⟨rfl,rfl⟩:=hs
      rw [hae] at hA
      generalize hv:a.eval x=u at hA
      obtain ⟨hes,hcap,hmax,hfz,vs,et,hblk,hvsz,hrl⟩:=hi.rows j sz es ver hob
      obtain ⟨p1,p2⟩:=y11q hput
      have hk:k<es.length:=(List.getElem?_eq_some_iff.1 hel).1
      have hell:el.length=sz:=hes el (List.mem_of_getElem? hel)
      cases hA with | one _ _ hA=>cases hA with
      | raddrDead _ _ _ _ z2 ez v' ad hb' hlt=>
       have:some (AObj.row sz es ver)=some (AObj.row z2 ez v'):=hob.symm.trans hb'
       cases this
       exact absurd hlt (Nat.lt_irrefl _)
      | raddr _ _ _ _ z2 ez hb'=>
       have:some (AObj.row sz es ver)=some (AObj.row z2 ez ver):=hob.symm.trans hb'
       cases this
       have hbig:k*sz+sz≤es.length*sz:=by
        have:=Nat.mul_le_mul_right sz (show k+1≤es.length by omega)
        rw [Nat.add_mul] at this
        omega
       have hcapsz:es.length*sz≤vs.size:=by rw [hvsz];exact Nat.mul_le_mul_right _ hcap
       rw [hl] at p1 p2
       have hel'len:el'.length=sz:=by rw [p2];simp only [List.length_append,List.length_take,List.length_drop,hl];omega
       have hset:∀e∈es.set k el',e.length=sz:=by
        intro e he
        rcases List.mem_or_eq_of_mem_set he with h | h
        ·exact hes e h
        ·rw [h];exact hel'len
       have hfl:=y6r hes
       have hflat:(es.set k el').flatten=es.flatten.take (k*sz+off)++xs++es.flatten.drop (k*sz+off+n):=by
        rw [ynr hes hk hel'len,p2]
        have t1:el.take off=(es.flatten.drop (k*sz)).take off:=by
         apply List.ext_getElem?
         intro i
         rw [List.getElem?_take,List.getElem?_take]
         split
         ·rw [List.getElem?_drop,ybm hes hel (by omega)]
         ·rfl
        have t2:el.drop (off+n)=(es.flatten.drop (k*sz+off+n)).take (sz-(off+n)):=by
         apply List.ext_getElem?
         intro i
         rw [List.getElem?_drop,List.getElem?_take]
         split
         ·rw [List.getElem?_drop,show k*sz+off+n+i=k*sz+(off+n+i) by omega,ybm hes hel (by omega)]
         ·rw [List.getElem?_eq_none (by omega)]
        rw [t1,t2]
        have t3:es.flatten.take (k*sz+off)=es.flatten.take (k*sz)++(es.flatten.drop (k*sz)).take off:=by rw [List.take_add]
        have t4:es.flatten.drop (k*sz+off+n)=(es.flatten.drop (k*sz+off+n)).take (sz-(off+n))++es.flatten.drop ((k+1)*sz):=by
         have:=(List.take_append_drop (sz-(off+n)) (es.flatten.drop (k*sz+off+n))).symm
         rw [List.drop_drop] at this
         rw [show k*sz+off+n+(sz-(off+n))=(k+1)*sz by rw [Nat.add_mul];omega] at this
         exact this
        rw [t3]
        conv=>rhs;rw [t4]
        simp only [List.append_assoc]
       have hnewsz:(vs.toList.take (k*sz+off)++(a.eval z).cells.toList++vs.toList.drop (k*sz+off+n)).toArray.size=(G j).cap*sz:=by
        simp only [List.size_toArray,List.length_append,List.length_take,List.length_drop,Array.length_toList,hvs]
        omega
       have hrel:RelL w ok st.ob G (es.set k el').flatten ((vs.toList.take (k*sz+off)++(a.eval z).cells.toList++vs.toList.drop (k*sz+off+n)).toArray.toList.take ((es.set k el').length*sz)):=by
        rw [hflat,List.length_set]
        have e1:(vs.toList.take (k*sz+off)++(a.eval z).cells.toList++vs.toList.drop (k*sz+off+n)).toArray.toList.take (es.length*sz)=
          (vs.toList.take (es.length*sz)).take (k*sz+off)++(a.eval z).cells.toList++(vs.toList.take (es.length*sz)).drop (k*sz+off+n):=by
         apply List.ext_getElem?
         intro i
         simp only [List.toList_toArray,List.getElem?_take,List.getElem?_append,List.length_append,List.length_take,Array.length_toList,List.getElem?_drop,hvs,List.take_take]
         have m1:min (k*sz+off) vs.size=k*sz+off:=by omega
         have m2:min (k*sz+off) (min (es.length*sz) vs.size)=k*sz+off:=by omega
         have m3:min (k*sz+off) (es.length*sz)=k*sz+off:=by omega
         simp only [m1,m2,m3]
         by_cases c1:i<k*sz+off
         ·simp [c1,show i<es.length*sz by omega,show i<k*sz+off+n by omega]
         ·by_cases c2:i<k*sz+off+n
          ·simp [c1,c2,show i<es.length*sz by omega]
          ·by_cases c3:i<es.length*sz
           ·simp [c1,c2,c3,show k*sz+off+n+(i-(k*sz+off+n))<es.length*sz by omega]
           ·simp [c1,c2,c3,show ¬k*sz+off+n+(i-(k*sz+off+n))<es.length*sz by omega]
        rw [e1]
        exact ((hrl.take _).append hrx).append (hrl.drop _)
       obtain ⟨i1,i2,i3⟩:=hi.setRowObj (es':=es.set k el') (ver':=ver) hob hblk (Nat.le_refl _) (fun _=>by simp) (by simp) hset (by simpa using hcap) hnewsz (by
        intro i hi'
        have:i<k*sz+off:=by
         have:=Nat.mul_le_mul_right sz hfr
         have h2:st.sto.fz j*sz=st.fz j*sz:=rfl
         omega
        simp only [List.getElem?_toArray,List.append_assoc]
        rw [List.getElem?_append_left (by simp only [List.length_take,Array.length_toList];omega),List.getElem?_take,if_pos this]
        simp) hrel
       exact ⟨undef,_,.inr ⟨hrun _ _ _ _ hv hblk (by omega),rfl⟩,ok,G,i1,i2,i3,OkLe.refl _ _,y9k (hi.base j _ hob) _,y80⟩
     ·cases he
    ·cases he
   ·cases he
  ·cases he
 ·cases he
theorem yxh {es:List (List AV)} {sz:Nat} (h:∀e∈es,e.length=sz) {k:Nat} {x:AV} (hk:es.flatten[k]? =some x):∃i e j,es[i]? =some e∧e[j]? =some x∧k=i*sz+j:=by
 induction es generalizing k with
 | nil=>simp at hk
 | cons e r ih=>
  have he:e.length=sz:=h e (by simp)
  rw [List.flatten_cons,List.getElem?_append] at hk
  split at hk
  ·exact ⟨0,e,k,rfl,hk,by simp⟩
  ·obtain ⟨i,e',j,h1,h2,h3⟩:=ih (fun x hx=>h x (by simp [hx])) hk
   exact ⟨i+1,e',j,by simpa using h1,h2,by rw [Nat.add_mul];omega⟩
theorem ya7 (hi:Inv B w ok st.sto G) {x:SV} {v:Value} (hr:RelS w ok st.ob G x v) {sz:Nat} {es:List (List AV)} (h:elems st.ob sz x=some es):
  ∃ao cap news,v=.slice ao es.length cap∧(∀e∈es,e.length=sz)∧RelL w ok st.ob G es.flatten news∧(es=[]∨∃b off,ao=some ⟨b,off,none⟩∧∀j u,news[j]? =some u→w.cell? ⟨b,off+j,none⟩=some u):=by
 cases hr with
 | agg=>simp [elems] at h
 | tup=>simp [elems] at h
 | unk=>simp [elems] at h
 | one xv _ hr=>
  cases hr with
  | nils=>simp [elems] at h;subst h;exact ⟨none,0,[],rfl,by simp,RelL.nil,.inl rfl⟩
  | sl full fs ao cap z b off f h1 h2 h3 h4 h5 h6 h7=>
   simp only [elems] at h
   obtain ⟨hb,h⟩:=y05 h
   simp only [Option.some.injEq] at h
   subst h
   by_cases hne:fs=[]
   ·subst hne
    exact ⟨ao,cap,[],rfl,by simp,RelL.nil,.inl rfl⟩
   ·have hz:=yna hb h4 hne
    subst hz
    have hfl:=y6r h4
    refine ⟨ao,cap,(List.range (fs.length*z)).map (fun k=>f (k / z) (k%z)),rfl,h4,⟨by simp [hfl],fun k x u p q=> ?_⟩,.inr ⟨b,off,h5 hne,fun k u hu=> ?_⟩⟩
    ·obtain ⟨i,e,j,e1,e2,rfl⟩:=yxh h4 p
     have hj:j<z:=by rw [←h4 e (List.mem_of_getElem? e1)];exact (List.getElem?_eq_some_iff.1 e2).1
     have hlt:=(List.getElem?_eq_some_iff.1 q).1
     simp only [List.length_map,List.length_range] at hlt
     simp [hlt] at q
     rw [show (i*z+j) / z=i by rw [Nat.mul_comm,Nat.mul_add_div (by omega),Nat.div_eq_of_lt hj];rfl,Nat.mod_eq_of_lt hj] at q
     subst q
     exact (h7 i e j x e1 e2).any _ _
    ·have hlt:=(List.getElem?_eq_some_iff.1 hu).1
     simp only [List.length_map,List.length_range] at hlt
     simp [hlt] at hu
     subst hu
     have hz0:0<z:=Nat.pos_of_ne_zero fun e=>by subst e;simp at hlt
     have hdiv:k / z<fs.length:=Nat.div_lt_of_lt_mul (by rw [Nat.mul_comm];exact hlt)
     have hmod:k%z<z:=Nat.mod_lt _ hz0
     have:=(h6 (k / z) fs[k / z] (k%z) (by simp [hdiv]) (by rw [h4 _ (List.getElem_mem hdiv)];exact hmod)).1
     rwa [Nat.div_add_mod'] at this
  | rsl jd ver zz lo len full fs _ hob hle hv=>
   obtain ⟨ad,c,rfl,c1,c2,c3,c4⟩:=hv
   simp only [elems] at h
   split at h
   ·rename_i z gs hrow
    have hob2:=y6w hrow
    have this:some (AObj.row zz fs ver)=some (AObj.row z gs ver):=hob.symm.trans hob2
    obtain ⟨e1,e2⟩:zz=z∧fs=gs:=by
     injection this with this
     injection this with a b
     exact ⟨a,b⟩
    subst e1
    subst e2
    obtain ⟨hb,h⟩:=y05 h
    cases h
    simp only [Bool.and_eq_true] at hb
    have hz:zz=sz:=Nat.eq_of_beq_eq_true hb.1
    subst hz
    obtain ⟨hes,hcap,hmax,hfz,vs,et,hblk,hvs,hrl⟩:=hi.rows jd zz fs ver hob
    have hl:((fs.drop lo).take len).length=len:=by rw [List.length_take,List.length_drop];omega
    rw [show len=((fs.drop lo).take len).length from hl.symm] at c1
    refine ⟨some ad,c,((vs.toList.take (fs.length*zz)).drop (lo*zz)).take (len*zz),by rw [hl],fun e he=>hes e (List.mem_of_mem_drop (List.mem_of_mem_take he)), ?_, ?_⟩
    ·rw [ybz (fun e he=>hes e (List.mem_of_mem_drop he)),yef hes]
     exact (hrl.drop _).take _
    ·by_cases hlen:len=0
     ·left;subst hlen;simp
     ·right
      rw [hl] at c1
      refine ⟨_,_,by rw [c3 (by omega)],fun j u hu=> ?_⟩
      rw [List.getElem?_take] at hu
      split at hu
      ·rw [List.getElem?_drop,List.getElem?_take] at hu
       split at hu
       ·rw [ya3 hblk]
        simpa using hu
       ·cases hu
      ·cases hu
   ·cases h
  | rslDead jd ver zz lo len full z fs ver' _ hob hlt hv=>
   simp only [elems] at h
   split at h
   ·rename_i z2 gs hrow
    have hob2:=y6w hrow
    have:some (AObj.row z fs ver')=some (AObj.row z2 gs ver):=hob.symm.trans hob2
    cases this
    exact absurd hlt (Nat.lt_irrefl _)
   ·cases h
  | _=>simp [elems] at h
theorem yhz {t tx ty e:TypeId} {i:TypeInfo} (ht:P.underlying t=some (.slice e)) (hie:P.info? e=some i) (g sLen sCap:Nat) (cur:Array Value) {et:TypeId} (hg:w.heap[g]? =some (.cells cur et (0,0))) (x:Value) (n:Nat) (news:List Value) (hs:Src P i.size tx x n news w)
  (hroom:sLen+n≤sCap) (hfit:sLen*i.size+news.length≤cur.size):
  (Builtin.append_ #[t,tx] ty #[.slice (some ⟨g,0,none⟩) sLen sCap,x]).run P w=.ok (.slice (some ⟨g,0,none⟩) (sLen+n) sCap) (w.setRow g (cur.toList.take (sLen*i.size)++news++cur.toList.drop (sLen*i.size+news.length)).toArray):=by
 have hst:=run_storeCells_at P g (sLen*i.size) et news 0 cur w hg (by simpa using hfit) hs.one
 simp only [Nat.add_zero] at hst
 have ha:(⟨g,0,none⟩:Addr).add (sLen*i.size)=⟨g,sLen*i.size,none⟩:=by rw [add_mid];simp
 rcases hs.kind with ⟨e',hk⟩ | hk<;>simp [Builtin.append_,run_underlying ht,run_underlying hk,sizeOf,typeInfo,hie,hs.len,hroom,hs.cells,ha,hst]
theorem ya6 {c:Call} {x y:Operand} {t t2:TypeId} (ho:o.op=.call c) (hc:c.callee=.builtin .append) (ha:c.args.toList=[x,y]) (ht:c.argTypes.toList=[t,t2]) {v:Value} {w':World}
  (h:(Builtin.append_ #[t,t2] o.type #[a.eval x,a.eval y]).run P w=.ok v w'):(execOp a.eval o).run P w=.ok (.value v) w':=by
 have h1:c.argTypes=#[t,t2]:=by apply Array.ext';simpa using ht
 simp [execOp,ho,resolve,hc,y90 ha,h1,invoke,builtin,h]
theorem ylf {t2 e2:TypeId} (hu2:P.underlying t2=some (.slice e2)) {sz:Nat} {ao:Option Addr} {n cap:Nat} {news:List Value} {es:List (List AV)} {ob:Nat→Option AObj} (hes:∀e∈es,e.length=sz) (hn:es.length=n) (hr:RelL w ok ob G es.flatten news)
  (hc:es=[]∨∃b off,ao=some ⟨b,off,none⟩∧∀j u,news[j]? =some u→w.cell? ⟨b,off+j,none⟩=some u):Src P sz t2 (.slice ao n cap) n news w:=by
 have hl:news.length=n*sz:=by rw [←hr.1,y6r hes,hn]
 rcases hc with rfl | ⟨b,off,rfl,hcell⟩
 ·have hn0:n=0:=by simpa using hn.symm
  subst hn0
  have hnil:news=[]:=List.eq_nil_of_length_eq_zero (by simpa using hl)
  subst hnil
  cases ao with
  | none=>exact Src.ofNil w hu2 cap
  | some ad=>exact Src.ofSlice w hu2 ad 0 cap [] (by simp) (fun j u hu=>by simp at hu) (fun u hu=>by cases hu)
 ·exact Src.ofSlice w hu2 _ n cap news hl (fun j u hu=>by rw [add_mid];exact hcell j u hu) hr.one
theorem yw5 {e:TypeId} {n:Nat} {z:List AV} (hz:tZero P e=some z) (hzl:z.length=n):∃i zv,P.info? e=some i∧i.zero=some zv∧zv.cells.size=n:=by
 unfold tZero at hz
 cases hi:P.info? e with
 | none=>simp [hi] at hz
 | some i=>
  cases hq:i.zero with
  | none=>simp [hi,hq] at hz
  | some v=>
   simp [hi,hq] at hz
   exact ⟨i,v,rfl,hq,by rw [←hzl,←(y8p hz).1];simp⟩
theorem ycu {t t2 ty e e2:TypeId} {i:TypeInfo} {zv:Value} {n:Nat} (ht:P.underlying t=some (.slice e)) (ht2:P.underlying t2=some (.slice e2)) (hie:P.info? e=some i) (hzi:i.zero=some zv) (hzn:zv.cells.size=n) (hin:i.size=n)
  {base:Option Addr} {sLen sCap:Nat} {olds:List Value} {xs ys:List (List AV)} {ob:Nat→Option AObj} (hxs:∀e∈xs,e.length=n) (hxl:xs.length=sLen) (hox:RelL w ok ob G xs.flatten olds)
  (hold:sLen=0∨∃b off,base=some ⟨b,off,none⟩∧∀j u,olds[j]? =some u→w.cell? ⟨b,off+j,none⟩=some u)
  {ao:Option Addr} {cap m:Nat} {news:List Value} (hys:∀e∈ys,e.length=n) (hyl:ys.length=m) (hny:RelL w ok ob G ys.flatten news) (hnew:ys=[]∨∃b off,ao=some ⟨b,off,none⟩∧∀j u,news[j]? =some u→w.cell? ⟨b,off+j,none⟩=some u)
  (hg:sCap<sLen+m) (hroom:(sLen+m)*i.bytes≤ROOM) (h63:sLen+m≤maxLen):
  ∃cap',sLen+m≤cap'∧cap'≤maxLen∧∃arr:Array Value,arr.size=cap'*n∧RelL w ok ob G (xs++ys).flatten (arr.toList.take ((sLen+m)*n))∧
   (Builtin.append_ #[t,t2] ty #[.slice base sLen sCap,.slice ao m cap]).run P w=.ok (.slice (some ⟨w.heap.size,0,none⟩) (sLen+m) cap') (w.drew.alloc (.cells arr e)):=by
 have hsrc:Src P i.size t2 (.slice ao m cap) m news w:=by
  rw [hin]
  exact ylf ht2 hys hyl hny hnew
 have hol:olds.length=sLen*n:=by rw [←hox.1,y6r hxs,hxl]
 have hnl:news.length=m*n:=by rw [←hny.1,y6r hys,hyl]
 have hfc:(Builtin.firstCells i.size sLen (.slice base sLen sCap)).run P w.drew=.ok olds.toArray w.drew:=by
  rw [hin]
  rcases hold with h0 | ⟨b,off,rfl,hc⟩
  ·subst h0
   have:olds=[]:=List.eq_nil_of_length_eq_zero (by simpa using hol)
   subst this
   cases base with
   | none=>exact run_firstCells_none w.drew n 0 0 sCap
   | some ad=>exact run_firstCells_some w.drew n 0 ad 0 sCap [] (by simp) (fun j v h=>by simp at h)
  ·exact run_firstCells_some w.drew n sLen _ sLen sCap olds hol (fun j u hu=>by rw [add_mid];exact hc j u hu)
 have hfit:=growslice_fits (need:=sLen+m) (old:=sCap) (bytes:=i.bytes) hg hroom
 have hrun:=run_append_grow_src (P:=P) w t t2 ty e i zv ht hie hzi base sLen sCap olds hfc (.slice ao m cap) m news hsrc hg (by unfold maxLen at h63;omega) hfit
 have hge:=grownCap_ge w (sLen+m) sCap e
 refine ⟨grownCap w (sLen+m) sCap e,hge,grownCap_le_maxLen w _ _ _ h63,_, ?_, ?_,hrun⟩
 ·simp only [Array.size_append,List.size_toArray,List.length_append,size_zeroCells,hol,hnl,hzn]
  rw [←Nat.add_mul,←Nat.add_mul]
  congr 1
  omega
 ·have:((olds++news).toArray++Builtin.zeroCells zv.cells (grownCap w (sLen+m) sCap e-(sLen+m))).toList.take ((sLen+m)*n)=olds++news:=by
   rw [Array.toList_append,List.toList_toArray,List.take_left' (by rw [List.length_append,hol,hnl,Nat.add_mul])]
  rw [this,List.flatten_append]
  exact hox.append hny
theorem yt1 (hB:B≤w.heap.size) (o:Obj):Below B w (w.drew.alloc o):=((Below.refl B w).drew).alloc hB o
theorem y113 (hi:Inv B w ok st.sto G) (hid:st.sto.ob id=none) (hB:B≤w.heap.size) (hT:RelT w ok st.ob G st.sl a.tmps) {c:Call} {x y:Operand} {x' y':Opd} {t t2 e e2:TypeId} (ho:o.op=.call c) (hc:c.callee=.builtin .append) (ha:c.args.toList=[x,y]) (ht:c.argTypes.toList=[t,t2])
  (hu:P.underlying t=some (.slice e)) (hu2:P.underlying t2=some (.slice e2)) {n:Nat} (hn:tSize P e=some n) (hpos:0<n) {z:List AV} (hz:tZero P e=some z) (hzl:z.length=n) {i:TypeInfo} (hie:P.info? e=some i) (hby:0<i.bytes) (hx:cOpd x=some x') (hy:cOpd y=some y')
  {eff:Eff} (he:evOp F draw rb id st (.app n i.bytes x' y')=some eff) {s':Sto} {r:SV} (hs:eff.sto st.sto id=(s',r)):Eff1 P B w ok st.sto G a o s' r:=by
 have hX:=y0a hT hx
 have hY:=y0a hT hy
 obtain ⟨i2,zv,hi2,hzi,hzn⟩:=yw5 (P:=P) hz hzl
 rw [hie] at hi2
 cases hi2
 obtain ⟨i3,hi3,hin⟩:=yar hn
 rw [hie] at hi3
 cases hi3
 simp only [evOp] at he
 split at he
 ·rename_i ys hys
  obtain ⟨ao,cap,news,hyv,hyl,hnr,hnc⟩:=ya7 hi hY hys
  have hsrc:Src P i.size t2 (a.eval y) ys.length news w:=by rw [hyv,hin];exact ylf hu2 hyl rfl hnr hnc
  have none_:∀(base:Option Addr) (sLen sCap:Nat),ys=[]→sLen≤sCap→a.eval x=.slice base sLen sCap→∀q,RelS w ok st.ob G q (a.eval x)→Eff1 P B w ok st.sto G a o st.sto q:=by
   intro base sLen sCap h0 hle hv q hq
   subst h0
   have hnil:news=[]:=List.eq_nil_of_length_eq_zero (by rw [←hnr.1];rfl)
   subst hnil
   have:=run_append_nothing (P:=P) w t t2 o.type e i hu hie base sLen sCap hle (a.eval y) hsrc
   rw [←hv] at this
   exact ⟨_,_,.inl (ya6 ho hc ha ht this),Post.pure hi hq⟩
  have new_:∀(base:Option Addr) (sLen sCap:Nat) (xs:List (List AV)) (olds:List Value),a.eval x=.slice base sLen sCap→(∀e∈xs,e.length=n)→xs.length=sLen→RelL w ok st.ob G xs.flatten olds→
    (sLen=0∨∃b off,base=some ⟨b,off,none⟩∧∀j u,olds[j]? =some u→w.cell? ⟨b,off+j,none⟩=some u)→sCap<sLen+ys.length→(sLen+ys.length)*i.bytes≤ROOM→sLen+ys.length≤maxLen→
    (Eff.new (.row n (xs++ys) 0) (.one (.rsl id 0 n 0 (sLen+ys.length) false))).sto st.sto id=(s',r)→Eff1 P B w ok st.sto G a o s' r:=by
   intro base sLen sCap xs olds hv hxs hxl hox hold hg hroom h63 hs
   obtain ⟨cap',c1,c2,arr,c3,c4,hrun⟩:=ycu (P:=P) (ty:=o.type) hu hu2 hie hzi hzn hin hxs hxl hox hold hyl rfl hnr hnc hg hroom h63
   rw [←hv,←hyv] at hrun
   refine ⟨_,_,.inl (ya6 ho hc ha ht hrun), ?_⟩
   obtain ⟨hi',hcell⟩:=hi.drew
   have hes:∀e∈xs++ys,e.length=n:=fun e he=>(List.mem_append.1 he).elim (hxs e) (hyl e)
   obtain ⟨ok',G',p1,p2,p3,p4,p5,p6⟩:=yhn (w:=w.drew) hi' hid hB e hes (by rw [List.length_append,hxl]) c1 c2 c3 (c4.mono hcell (ObLe.refl _ _)) hs
   exact ⟨ok',G',p1,p2,hcell.trans p3,p4,((Below.refl B w).drew).trans p5,p6⟩
  split at he
  ·rename_i hxe
   rw [hxe] at hX
   generalize hv:a.eval x=u at hX
   cases hX with | one _ _ hX=>cases hX with | nils=>
   split at he
   ·cases he
    simp only [Eff.sto,Prod.mk.injEq] at hs
    obtain ⟨rfl,rfl⟩:=hs
    exact none_ none 0 0 rfl (Nat.le_refl _) hv _ (by rw [hv];exact .one _ _ .nils)
   ·rename_i hne
    obtain ⟨hb,he⟩:=y05 he
    cases he
    have hb:=y4g hb
    have hpos':0<ys.length:=List.length_pos_iff.2 (fun e=>hne e)
    have h63:ys.length≤maxLen:=by
     have:=Nat.le_mul_of_pos_right ys.length hby
     unfold ROOM at hb
     unfold maxLen
     omega
    refine new_ none 0 0 [] [] hv (by simp) rfl RelL.nil (.inl rfl) (by omega) (by simpa using hb) (by simpa using h63) ?_
    simpa using hs
  ·rename_i full es hxe
   rw [hxe] at hX
   generalize hv:a.eval x=u at hX
   cases hX with | one _ _ hX=> 
   have hX0:=hX
   cases hX with | sl _ _ bo cp zz b off f h1 h2 h3 h4 h5 h6 h7=>
   split at he
   ·cases he
    simp only [Eff.sto,Prod.mk.injEq] at hs
    obtain ⟨rfl,rfl⟩:=hs
    exact none_ bo es.length cp rfl h1 hv _ (by rw [hv];exact .one _ _ hX0)
   ·rename_i hne
    obtain ⟨hb,he⟩:=y05 he
    cases he
    simp only [Bool.and_eq_true] at hb
    have hb2:=y4g hb.2
    have hpos':0<ys.length:=List.length_pos_iff.2 (fun e=>hne e)
    have hcp:=h3 hb.1.1
    have hel:elems st.ob n (.one (.sl full es))=some es:=by simp [elems,hb.1.2]
    obtain ⟨bo2,cp2,olds,q1,q2,q3,q4⟩:=ya7 hi (.one _ _ hX0) hel
    cases q1
    have h63:es.length+ys.length≤maxLen:=by
     have:=Nat.le_mul_of_pos_right (es.length+ys.length) hby
     unfold ROOM at hb2
     unfold maxLen
     omega
    refine new_ bo es.length cp es olds hv q2 rfl q3 ?_ (by omega) hb2 h63 hs
    rcases q4 with rfl | q4
    ·exact .inl rfl
    ·exact .inr q4
  ·rename_i rr ver zz lo len full hxe
   rw [hxe] at hX
   generalize hv:a.eval x=u at hX
   cases hX with | one _ _ hX=>
   have hX0:=hX
   split at he
   ·rename_i z2 es hrow
    have hob:=y6w hrow
    obtain ⟨hzz,hle,ad,c,rfl,c1,c2,c3,c4⟩:=yhi hX hob
    obtain ⟨hb,he⟩:=y05 he
    simp only [Bool.and_eq_true] at hb
    have hz2:z2=n:=Nat.eq_of_beq_eq_true hb.1
    subst hz2
    subst hzz
    split at he
    ·cases he
     simp only [Eff.sto,Prod.mk.injEq] at hs
     obtain ⟨rfl,rfl⟩:=hs
     exact none_ (some ad) len c rfl c1 hv _ (by rw [hv];exact .one _ _ hX0)
    ·rename_i hne
     obtain ⟨hbr,he⟩:=y05 he
     have hbr:=y4g hbr
     have hpos':0<ys.length:=List.length_pos_iff.2 (fun e=>hne e)
     have h63:len+ys.length≤maxLen:=by
      have:=Nat.le_mul_of_pos_right (len+ys.length) hby
      unfold ROOM at hbr
      unfold maxLen
      omega
     have hel:elems st.ob zz (.one (.rsl rr ver zz lo len full))=some ((es.drop lo).take len):=by
      simp only [elems,hrow,y5b,Bool.true_and]
      rw [show Nat.ble (lo+len) es.length=true from Nat.ble_eq_true_of_le hle]
      rfl
     obtain ⟨bo2,cp2,olds,q1,q2,q3,q4⟩:=ya7 hi (.one _ _ hX0) hel
     have hwl:((es.drop lo).take len).length=len:=by rw [List.length_take,List.length_drop];omega
     rw [hwl] at q1
     cases q1
     have hold:len=0∨∃b off,some ad=some ⟨b,off,none⟩∧∀j u,olds[j]? =some u→w.cell? ⟨b,off+j,none⟩=some u:=by
      rcases q4 with h0 | q4
      ·left;rw [←hwl,h0];rfl
      ·exact .inr q4
     cases full with
     | true=>
      simp only [cond_true,Option.some.injEq] at he
      subst he
      simp only [if_true] at c4
      exact new_ (some ad) len c _ olds hv q2 hwl q3 hold (by omega) hbr h63 hs
     | false=>
      simp only [cond_false] at he
      obtain ⟨hb0,he2⟩:=y05 he
      simp only [Bool.and_eq_true] at hb0
      have hlo:lo=0:=Nat.eq_of_beq_eq_true hb0.1
      have hln:len=es.length:=Nat.eq_of_beq_eq_true hb0.2
      subst hlo
      cases he2
      simp only [Eff.sto,Prod.mk.injEq] at hs
      obtain ⟨rfl,rfl⟩:=hs
      simp only [Bool.false_eq_true,if_false,Nat.zero_add] at c4
      have hwin:(es.drop 0).take len=es:=by rw [hln];simp
      rw [hwin] at q2 q3 hwl
      obtain ⟨hes,hcap,hmax,hfz,vs,et,hblk,hvs,hrl⟩:=hi.rows rr zz es ver hob
      have hall:∀e∈es++ys,e.length=zz:=fun e he=>(List.mem_append.1 he).elim (hes e) (hyl e)
      by_cases hroom:len+ys.length≤c
      ·--there is room
       have hfl:=y6r hes
       have hnl:news.length=ys.length*zz:=by rw [←hnr.1,y6r hyl]
       have hadr:ad=⟨(G rr).blk,0,none⟩:=by rw [c3 (by omega)];simp
       subst hadr
       have hcs:len*zz+news.length≤vs.size:=by
        rw [hnl,hvs,←Nat.add_mul]
        exact Nat.mul_le_mul_right _ (by omega)
       have hrun:=yhz (P:=P) (ty:=o.type) hu hie (G rr).blk len c vs hblk (a.eval y) ys.length news hsrc hroom (by rw [hin];exact hcs)
       rw [hin,←hv] at hrun
       have hrel:RelL w ok st.ob G (es++ys).flatten ((vs.toList.take (len*zz)++news++vs.toList.drop (len*zz+news.length)).toArray.toList.take ((es++ys).length*zz)):=by
        have hez:es.length*zz≤vs.size:=by rw [hvs];exact Nat.mul_le_mul_right _ hcap
        rw [List.flatten_append,List.toList_toArray,hln,List.take_left' (by rw [List.length_append,List.length_take,Array.length_toList (xs:=vs),List.length_append,hnl,Nat.add_mul];omega)]
        exact hrl.append hnr
       obtain ⟨i1,i2,i3⟩:=hi.setRowObj (es':=es++ys) (ver':=ver+1) hob hblk (Nat.le_succ _) (fun e=>by omega) (by simp) hall (by rw [List.length_append];omega)
        (vs':=(vs.toList.take (len*zz)++news++vs.toList.drop (len*zz+news.length)).toArray) (by
         simp only [List.size_toArray,List.length_append,List.length_take,List.length_drop,Array.length_toList]
         omega) (by
         intro j hj
         have:j<len*zz:=by
          have h1:=Nat.mul_le_mul_right zz hfz
          rw [hln]
          omega
         simp only [List.getElem?_toArray,List.append_assoc]
         rw [List.getElem?_append_left (by simp only [List.length_take,Array.length_toList];omega),List.getElem?_take,if_pos this]
         simp) hrel
       refine ⟨_,_,.inl (ya6 ho hc ha ht hrun),ok,G,i1,i2,i3,OkLe.refl _ _,y9k (hi.base rr _ hob) _, ?_⟩
       refine .one _ _ (.rsl rr (ver+1) zz 0 (len+ys.length) false (es++ys) _ (by simp) (by rw [List.length_append];omega) ⟨_,c,rfl,hroom,c2,fun _=>by simp,by simpa using c4⟩)
      ·--a new array
       obtain ⟨cap',k1,k2,arr,k3,k4,hrun⟩:=ycu (P:=P) (ty:=o.type) (sCap:=c) hu hu2 hie hzi hzn hin q2 hwl q3 hold hyl rfl hnr hnc (by omega) hbr h63
       rw [←hv,←hyv] at hrun
       obtain ⟨hi',hcell⟩:=hi.drew
       have hcl:(es++ys).length≤cap':=by rw [List.length_append];omega
       obtain ⟨i1,i2,i3⟩:=hi'.moveRow (w:=w.drew) hB (es':=es++ys) (ver':=ver+1) hob (Nat.lt_succ_self _) (by simp) hall (cap:=cap') hcl k2 k3 (by
        rw [List.length_append,←hln]
        exact k4.mono hcell (ObLe.refl _ _)) e
       refine ⟨_,_,.inl (ya6 ho hc ha ht hrun),ok,_,i1,i2,hcell.trans i3,OkLe.refl _ _,yt1 hB _, ?_⟩
       refine .one _ _ (.rsl rr (ver+1) zz 0 (len+ys.length) false (es++ys) _ (by simp) (by rw [List.length_append];omega) ⟨⟨w.heap.size,0,none⟩,cap',rfl,k1,k2,fun _=>by simp,by simp⟩)
   ·cases he
  ·cases he
 ·cases he
end
end Go.Ev
namespace Go.Ev
open Go.RowKit
variable [Cd]
section
variable {P:Program} {br:FuncId→Bool} {F:Caller} {draw:Bool} {rb id:Nat} {st:St} {B:Nat} {w:World} {ok:Nat→Nat→Prop} {G:Nat→GB} {a:Act} {o:Oper}
theorem yca {t:TypeId} {m:TypeId×TypeId} (h:tMap P t=some m):P.underlying t=some (.map m.1 m.2):=by
 unfold tMap at h
 split at h
 ·rename_i hu;cases h;exact hu
 ·cases h
theorem yk9 {kt:TypeId} {kk:KK} (hkk:keyKind P kt=some kk) {k:AV} (hk:keyIs kk k=true) {ob:Nat→Option AObj} {kv:Value} (hr:Rel w ok ob G k kv):∃d,P.underlying kt=some d∧MapKept.IsKey d kv∧
  ∀(x:AV) (xv:Value) (b:Bool),Rel w ok ob G x xv→keyEq k x=some b→Instr.sameNow d kv xv=some b∧(b=true→xv=kv):=by
 unfold keyKind at hkk
 split at hkk
 ·rename_i ik hu
  cases hkk
  refine ⟨_,hu, ?_⟩
  cases k with
  | int k' n=>
   have e:k'=ik:=by simpa [keyIs] using hk
   subst e
   cases hr
   refine ⟨rfl,fun x xv b hx h=> ?_⟩
   cases x with
   | int k2 n2=>
    cases hx
    simp only [keyEq] at h
    split at h
    ·rename_i e
     subst e
     cases h
     refine ⟨by simp [Instr.sameNow],fun e=> ?_⟩
     have:n=n2:=by simpa using e
     rw [this]
    ·cases h
   | _=>cases h
  | _=>cases hk
 ·rename_i hu
  cases hkk
  refine ⟨_,hu, ?_⟩
  cases k with
  | bool n=>
   cases hr
   refine ⟨trivial,fun x xv b hx h=> ?_⟩
   cases x with
   | bool n2=>
    cases hx
    cases h
    refine ⟨by simp [Instr.sameNow],fun e=> ?_⟩
    have:n=n2:=by simpa using e
    rw [this]
   | _=>cases h
  | _=>cases hk
 ·rename_i hu
  cases hkk
  refine ⟨_,hu, ?_⟩
  cases k with
  | str n=>
   cases hr
   refine ⟨trivial,fun x xv b hx h=> ?_⟩
   cases x with
   | str n2=>
    cases hx
    cases h
    refine ⟨by simp [Instr.sameNow],fun e=> ?_⟩
    rw [MapKept.bytes_beq] at e
    rw [e]
   | _=>cases h
  | _=>cases hk
 ·cases hkk
theorem y8i {d:TypeDesc} {k:AV} {kv:Value} {ob:Nat→Option AObj} (hk:∀(x:AV) (xv:Value) (b:Bool),Rel w ok ob G x xv→keyEq k x=some b→Instr.sameNow d kv xv=some b∧(b=true→xv=kv)):
  ∀(es:List AEnt) (ms:List MapEntry) (i:Nat) (r:Option (Nat×AEnt)),EntsR w ok ob G es ms→findE k es i=some r→
   match r with
   | none=>Instr.findNow d kv ms i=some none
   | some (j,e)=>∃m,i≤j∧Instr.findNow d kv ms i=some (some (j,m.val))∧es[j-i]? =some e∧ms[j-i]? =some m∧m.key=kv
 | [],ms,i,r,hr,h=>by
  have:ms=[]:=List.length_eq_zero_iff.1 hr.1.symm
  subst this
  cases h
  rfl
 | e::es,ms,i,r,hr,h=>by
  cases ms with
  | nil=>have:=hr.1;simp at this
  | cons m ms=>
   have hem:=hr.2 0 e m (by simp) (by simp)
   have hr':EntsR w ok ob G es ms:=⟨by have:=hr.1;simpa using this,fun j x y p q=>hr.2 (j+1) x y (by simpa using p) (by simpa using q)⟩
   simp only [findE] at h
   split at h
   ·rename_i hb
    cases h
    obtain ⟨h1,h2⟩:=hk _ _ _ hem.key hb
    exact ⟨m,Nat.le_refl _,by simp [Instr.findNow,h1],by simp,by simp,h2 rfl⟩
   ·rename_i hb
    obtain ⟨h1,_⟩:=hk _ _ _ hem.key hb
    have ih:=y8i hk es ms (i+1) r hr' h
    cases r with
    | none=>simp only [Instr.findNow,h1];exact ih
    | some p=>
     obtain ⟨j,e'⟩:=p
     obtain ⟨m',hle,k1,k2,k3,k4⟩:=ih
     have hj:j-i=j-(i+1)+1:=by omega
     exact ⟨m',by omega,by simp only [Instr.findNow,h1];exact k1,by rw [hj];simpa using k2,by rw [hj];simpa using k3,k4⟩
   ·cases h
theorem yi6 {t:TypeId} {z:SV} (h:zeroSV P t=some z):∃v,(zeroValue t).run P w=.ok v w∧∀(w:World) (ok:Nat→Nat→Prop) (ob:Nat→Option AObj) (G:Nat→GB),RelS w ok ob G z v:=by
 unfold zeroSV at h
 split at h
 ·rename_i v hv
  cases hi:P.info? t with
  | none=>simp [hi] at hv
  | some i=>
   have hz:i.zero=some v:=by simpa [hi] using hv
   exact ⟨v,by simp [zeroValue,typeInfo,hi,hz],fun w ok ob G=>yoo h⟩
 ·cases h
theorem y8t (w:World) (b:Nat) (o:Obj):({ w with heap:=w.heap.setIfInBounds b o }:World)=w.putObj b o:=rfl
theorem yl4 {b:Nat} (hB:B≤b) (o:Obj):Below B w (w.putObj b o):=
 ⟨rfl,rfl,rfl,by rw [World.putObj_size];exact Nat.le_refl _,fun k hk=>World.putObj_heap_other (by omega)⟩
theorem yes {d:TypeDesc} {k:Value} (hk:MapKept.IsKey d k) (w:World):(Instr.keyThatStays k k).run P w=.ok k w:=MapKept.run_keyThatStays hk
theorem ya1 (hi:Inv B w ok st.sto G) {i:Nat} {es es':List AEnt} {c c':Nat} (hob:st.sto.ob i=some (.map es c)) {ms':Array MapEntry} (hr:∀(w':World),CellLe w ok w' ok→EntsR w' ok (upd st.ob i (.map es' c')) G es' ms'.toList)
  {x:SV} {v:Value} (hx:∀(w':World),CellLe w ok w' ok→RelS w' ok (upd st.ob i (.map es' c')) G x v) {s':Sto} {y:SV} (hs:(Eff.wr i (.map es' c') x).sto st.sto id=(s',y)):
  Post B w ok st.sto G s' y v (w.putObj (G i).blk (.map ms' c')):=by
 cases hs
 have hle:ObLe st.ob G (upd st.ob i (.map es' c')) G:=ObLe.mapSet hob
 obtain ⟨hf,ms,hb,hents⟩:=hi.maps i es c hob
 obtain ⟨h1,h2⟩:=hi.putObj (o':=.map es' c') hob (fun _ _ _ e=>by cases e) (.map ms' c') hle fun hc hh=>⟨hf,ms',hh,hr _ hc⟩
 exact ⟨ok,G,h1,hle,h2,OkLe.refl _ _,yl4 (hi.base i _ hob) _,hx _ h2⟩
theorem yav {ob:Nat→Option AObj} {i:Nat} {v:Value} (hr:RelS w ok ob G (.one (.mp i)) v):v=.map (some (G i).blk):=by
 cases hr with | one _ _ hr=>cases hr;rfl
theorem yha {ob:Nat→Option AObj} {es:List AEnt} {ms:Array MapEntry} (h:EntsR w ok ob G es ms.toList) {j:Nat} {e:AEnt} {m:MapEntry} (he:es[j]? =some e) (hm:ms.toList[j]? =some m):EntR w ok ob G e m:=h.2 j e m he hm
theorem yl9 {ob:Nat→Option AObj} {es:List AEnt} {ms:Array MapEntry} (h:EntsR w ok ob G es ms.toList) {e:AEnt} {m:MapEntry} (he:EntR w ok ob G e m):EntsR w ok ob G (es++[e]) (ms.push m).toList:=by
 refine ⟨by rw [List.length_append,h.1];simp,fun j x y p q=> ?_⟩
 rw [Array.toList_push] at q
 rw [List.getElem?_append] at p q
 rw [h.1] at p
 split at p
 ·rw [if_pos (by assumption)] at q;exact h.2 j x y p q
 ·rename_i hlt
  rw [if_neg hlt] at q
  have hj:=(List.getElem?_eq_some_iff.1 p).1
  have:j-ms.toList.length=0:=by simpa using hj
  rw [this] at p q
  simp at p q
  subst p;subst q
  exact he
theorem ycg {ob:Nat→Option AObj} {es:List AEnt} {ms:Array MapEntry} (h:EntsR w ok ob G es ms.toList) {j:Nat} {e:AEnt} {f:MapEntry→MapEntry} (he:∀m,ms.toList[j]? =some m→EntR w ok ob G e (f m)):EntsR w ok ob G (es.set j e) (ms.modify j f).toList:=by
 refine ⟨by simp [h.1],fun i x y p q=> ?_⟩
 simp only [Array.getElem?_toList,Array.getElem?_modify] at q
 rw [List.getElem?_set] at p
 by_cases hij:j=i
 ·subst hij
  rw [if_pos rfl] at p q
  split at p
  ·cases p
   cases hm:ms[j]? with
   | none=>simp [hm] at q
   | some m=>
    rw [hm] at q
    cases q
    exact he m (by simpa using hm)
  ·cases p
 ·rw [if_neg hij] at p q
  exact h.2 i x y p (by simpa using q)
theorem EntsR.mono {ob:Nat→Option AObj} {es:List AEnt} {ms:List MapEntry} (h:EntsR w ok ob G es ms) {w':World} {ok':Nat→Nat→Prop} (hc:CellLe w ok w' ok') {ob':Nat→Option AObj} {G':Nat→GB} (ho:ObLe ob G ob' G'):EntsR w' ok' ob' G' es ms:=
 ⟨h.1,fun j e m p q=>(h.2 j e m p q).mono hc ho⟩
theorem yra (hi:Inv B w ok st.sto G) (hid:st.sto.ob id=none) (hB:B≤w.heap.size) {t:TypeId} {r:Option Operand} (ho:o.op=.makeMap t r) {m:TypeId×TypeId} (hm:tMap P t=some m) (hr:r=none∨∃k n,r=some (.const (.int k n))) {eff:Eff} (he:evOp F draw rb id st .mkm=some eff) {s':Sto} {y:SV} (hs:eff.sto st.sto id=(s',y)):
  Eff1 P B w ok st.sto G a o s' y:=by
 cases he
 cases hs
 obtain ⟨h1,h2,h3⟩:=hi.newObj hB hid (o:=.map [] 0) (.map #[] 0) ⟨rfl,#[],y9p w _,rfl,fun j e m p _=>by simp at p⟩
 refine ⟨.map (some w.heap.size),w.alloc (.map #[] 0),.inl ?_,ok,_,h1,h2,h3,OkLe.refl _ _,yb8 hB _, ?_⟩
 ·have hu:=yca hm
  rcases hr with rfl | ⟨k,n,rfl⟩
  ·simp [execOp,ho,Instr.makeMap]
  ·simp [execOp,ho,Instr.makeMap,run_underlying hu,Act.eval,asInt,asIntOf]
 ·have:=Rel.mp (w:=w.alloc (.map #[] 0)) (ok:=ok) (ob:=upd st.ob id (.map [] 0)) (G:=setG G id ⟨w.heap.size,0⟩) id [] 0 (by simp)
  rw [setG_same] at this
  exact .one _ _ this
theorem yvi (hi:Inv B w ok st.sto G) (hT:RelT w ok st.ob G st.sl a.tmps) {t:TypeId} {x k:Operand} {x' k':Opd} {cok:Bool} (ho:o.op=.lookup t x k cok) {m:TypeId×TypeId} (hm:tMap P t=some m) {kk:KK} (hkk:keyKind P m.1=some kk) {z:SV} (hz:zeroSV P m.2=some z) (hx:cOpd x=some x') (hk:cOpd k=some k')
  {eff:Eff} (he:evOp F draw rb id st (.lkup kk z cok x' k')=some eff):∃y,eff=.val y∧Pure1 P w ok st.ob G a o y:=by
 have hxr:=y0a hT hx
 have hkr:=y0a hT hk
 have hu:=yca hm
 obtain ⟨zv,hzv,hzr⟩:=yi6 (w:=w) hz
 simp only [evOp] at he
 split at he
 ·rename_i kav hkav
  obtain ⟨hki,he⟩:=y05 he
  rw [hkav] at hkr
  generalize hkv:a.eval k=kv at hkr
  cases hkr with | one _ _ hkr=>
  obtain ⟨d,hd,hkey,hsame⟩:=yk9 hkk hki hkr
  have hzero:∀{y},y=(bif cok then SV.tup [z,.one (.bool false)] else z)→RelS w ok st.ob G y (if cok=true then .tuple #[zv,.bool false] else zv):=by
   intro y e
   subst e
   cases cok with
   | false=>exact hzr _ _ _ _
   | true=>
    refine .tup [z,.one (.bool false)] [zv,.bool false] rfl fun j q v p1 p2=> ?_
    match j with
    | 0=>simp at p1 p2;subst p1;subst p2;exact hzr _ _ _ _
    | 1=>simp at p1 p2;subst p1;subst p2;exact .one _ _ (.bool _)
    | j+2=>simp at p1
  split at he
  ·rename_i hxv
   cases he
   rw [hxv] at hxr
   refine ⟨_,rfl,_, ?_,hzero rfl⟩
   have hv:a.eval x=.map none:=by
    generalize a.eval x=u at hxr
    cases hxr with | one _ _ hxr=>cases hxr;rfl
   simp only [execOp,ho,hv,hkv,Instr.lookup,Sem.run_bind,run_underlying hu,Result.andThen_ok,Sem.run_pure,Array.isEmpty_empty,MapKept.run_checkKey hd hkey,MapKept.run_findKey hd (show Instr.findNow d kv ([]:List MapEntry) 0=some none from rfl),hzv]
  ·rename_i i hxv
   obtain ⟨_,he⟩:=y05 he
   rw [hxv] at hxr
   have hv:=yav hxr
   split at he
   ·rename_i es c hob
    obtain ⟨_,ms,hb,hents⟩:=hi.maps i es c hob
    split at he
    ·rename_i hfind
     cases he
     refine ⟨_,rfl,_, ?_,hzero rfl⟩
     have hf:=y8i hsame es ms.toList 0 none hents hfind
     simp only [execOp,ho,hv,hkv,Instr.lookup,Sem.run_bind,run_underlying hu,Result.andThen_ok,Sem.run_pure,MapKept.run_getObj_map hb,MapKept.run_checkKey hd hkey,MapKept.run_findKey hd hf,hzv]
    ·rename_i j e hfind
     cases he
     obtain ⟨me,_,hf,h1,h2,_⟩:=y8i hsame es ms.toList 0 (some (j,e)) hents hfind
     have hent:=hents.2 _ _ _ h1 h2
     refine ⟨_,rfl,(if cok=true then .tuple #[me.val,.bool true] else me.val), ?_, ?_⟩
     ·simp only [execOp,ho,hv,hkv,Instr.lookup,Sem.run_bind,run_underlying hu,Result.andThen_ok,Sem.run_pure,MapKept.run_getObj_map hb,MapKept.run_checkKey hd hkey,MapKept.run_findKey hd hf]
     ·cases cok with
      | false=>exact hent.val
      | true=>
       refine .tup [e.val,.one (.bool true)] [me.val,.bool true] rfl fun j q v p1 p2=> ?_
       match j with
       | 0=>simp at p1 p2;subst p1;subst p2;exact hent.val
       | 1=>simp at p1 p2;subst p1;subst p2;exact .one _ _ (.bool _)
       | j+2=>simp at p1
    ·cases he
   ·cases he
  ·cases he
 ·cases he
theorem ymz (hi:Inv B w ok st.sto G) (hB:B≤w.heap.size) (hT:RelT w ok st.ob G st.sl a.tmps) {t:TypeId} {x k v:Operand} {x' k' v':Opd} (ho:o.op=.mapUpdate t x k v∨o.op=.insert t x k v) {m:TypeId×TypeId} (hm:tMap P t=some m) {kk:KK} (hkk:keyKind P m.1=some kk) (hx:cOpd x=some x') (hk:cOpd k=some k') (hv:cOpd v=some v')
  {eff:Eff} (he:evOp F draw rb id st (.mput kk x' k' v')=some eff) {s':Sto} {y:SV} (hs:eff.sto st.sto id=(s',y)):
  Eff1 P B w ok st.sto G a o s' y:=by
 have hxr:=y0a hT hx
 have hkr:=y0a hT hk
 have hvr:=y0a hT hv
 have hu:=yca hm
 simp only [evOp] at he
 split at he
 ·rename_i kav hkav
  obtain ⟨hki,he⟩:=y05 he
  rw [hkav] at hkr
  generalize hkv:a.eval k=kv at hkr
  cases hkr with | one _ _ hkr=>
  obtain ⟨d,hd,hkey,hsame⟩:=yk9 hkk hki hkr
  split at he
  ·rename_i i hxv
   rw [hxv] at hxr
   have hxe:=yav hxr
   split at he
   ·rename_i es c hob
    obtain ⟨_,ms,hb,hents⟩:=hi.maps i es c hob
    have run:∀{w':World},(Instr.mapUpdate t (a.eval x) (a.eval k) (a.eval v)).run P w=.ok () w'→(execOp a.eval o).run P w=.ok .skip w':=by
     intro w' h
     rcases ho with ho | ho<;>simp [execOp,ho,h]
    split at he
    ·rename_i hfind
     cases he
     have hf:=y8i hsame es ms.toList 0 none hents hfind
     have hrun:(Instr.mapUpdate t (a.eval x) (a.eval k) (a.eval v)).run P w=.ok () (w.putObj (G i).blk (.map (ms.push { key:=kv,val:=a.eval v,born:=c }) (c+1))):=by
      simp only [Instr.mapUpdate,hxe,hkv,Sem.run_bind,run_underlying hu,Result.andThen_ok,MapKept.run_getObj_map hb,MapKept.run_checkKey hd hkey,MapKept.run_findKey hd hf,MapKept.run_setObj_map _ hb,y8t]
     have hl:ObLe st.ob G (upd st.ob i (.map (es++[⟨kav,v'.ev st.sl,c⟩]) (c+1))) G:=ObLe.mapSet hob
     exact ⟨undef,_,.inr ⟨run hrun,rfl⟩,ya1 hi hob (fun w' hc=>yl9 (hents.mono hc hl) ⟨hkr.mono hc hl,hvr.mono hc hl,rfl⟩) (fun w' hc=>y80) hs⟩
    ·rename_i j e hfind
     cases he
     obtain ⟨me,_,hf,h1,h2,h3⟩:=y8i hsame es ms.toList 0 (some (j,e)) hents hfind
     simp only [Nat.sub_zero] at h1 h2
     have h2':ms[j]? =some me:=by simpa using h2
     have hrun:(Instr.mapUpdate t (a.eval x) (a.eval k) (a.eval v)).run P w=.ok () (w.putObj (G i).blk (.map (ms.modify j fun e=>{ e with key:=kv,val:=a.eval v }) c)):=by
      simp only [Instr.mapUpdate,hxe,hkv,Sem.run_bind,run_underlying hu,Result.andThen_ok,MapKept.run_getObj_map hb,MapKept.run_checkKey hd hkey,MapKept.run_findKey hd hf,h2',Option.map_some,Option.getD_some,h3,yes hkey,MapKept.run_setObj_map _ hb,y8t]
     refine ⟨undef,_,.inr ⟨run hrun,rfl⟩,ya1 hi hob (fun w' hc=>ycg (hents.mono hc (ObLe.mapSet hob)) fun m hm=> ?_) (fun w' hc=>y80) hs⟩
     rw [h2] at hm
     cases hm
     exact ⟨hkr.mono hc (ObLe.mapSet hob),hvr.mono hc (ObLe.mapSet hob),(yha hents h1 h2).born⟩
    ·cases he
   ·cases he
  ·cases he
 ·cases he
theorem yya (hi:Inv B w ok st.sto G) (hB:B≤w.heap.size) (hT:RelT w ok st.ob G st.sl a.tmps) {t:TypeId} {x k:Operand} {x' k':Opd} (ho:o.op=.mapEntry t x k) {m:TypeId×TypeId} (hm:tMap P t=some m) {kk:KK} (hkk:keyKind P m.1=some kk) {z:SV} (hz:zeroSV P m.2=some z) (hx:cOpd x=some x') (hk:cOpd k=some k')
  {eff:Eff} (he:evOp F draw rb id st (.ment kk z x' k')=some eff) {s':Sto} {y:SV} (hs:eff.sto st.sto id=(s',y)):
  Eff1 P B w ok st.sto G a o s' y:=by
 have hxr:=y0a hT hx
 have hkr:=y0a hT hk
 have hu:=yca hm
 obtain ⟨zv,hzv,hzr⟩:=yi6 (w:=w) hz
 have tup2:∀{w':World} {ob':Nat→Option AObj} {x:SV} {v:Value} (c:Nat),RelS w' ok ob' G x v→RelS w' ok ob' G (.tup [x,.one (.int .i64 c)]) (.tuple #[v,goInt c]):=by
  intro w' ob' x v c h
  refine .tup [x,.one (.int .i64 c)] [v,goInt c] rfl fun j q u p1 p2=> ?_
  match j with
  | 0=>simp at p1 p2;subst p1;subst p2;exact h
  | 1=>simp at p1 p2;subst p1;subst p2;exact .one _ _ (.int _ _)
  | j+2=>simp at p1
 simp only [evOp] at he
 split at he
 ·rename_i kav hkav
  obtain ⟨hki,he⟩:=y05 he
  rw [hkav] at hkr
  generalize hkv:a.eval k=kv at hkr
  cases hkr with | one _ _ hkr=>
  obtain ⟨d,hd,hkey,hsame⟩:=yk9 hkk hki hkr
  split at he
  ·rename_i i hxv
   rw [hxv] at hxr
   have hxe:=yav hxr
   split at he
   ·rename_i es c hob
    obtain ⟨_,ms,hb,hents⟩:=hi.maps i es c hob
    have run:∀{v:Value} {w':World},(Instr.mapEntry t (a.eval x) (a.eval k)).run P w=.ok v w'→(execOp a.eval o).run P w=.ok (.value v) w':=by
     intro v w' h
     simp [execOp,ho,h]
    split at he
    ·rename_i hfind
     cases he
     have hf:=y8i hsame es ms.toList 0 none hents hfind
     have hrun:(Instr.mapEntry t (a.eval x) (a.eval k)).run P w=.ok (.tuple #[zv,goInt c]) (w.putObj (G i).blk (.map (ms.push { key:=kv,val:=zv,born:=c }) (c+1))):=by
      simp only [Instr.mapEntry,hxe,hkv,Sem.run_bind,run_underlying hu,Result.andThen_ok,MapKept.run_getObj_map hb,MapKept.run_checkKey hd hkey,MapKept.run_findKey hd hf,hzv,MapKept.run_setObj_map _ hb,y8t,Sem.run_pure]
     have hl:ObLe st.ob G (upd st.ob i (.map (es++[⟨kav,z,c⟩]) (c+1))) G:=ObLe.mapSet hob
     exact ⟨_,_,.inl (run hrun),ya1 hi hob (fun w' hc=>yl9 (hents.mono hc hl) ⟨hkr.mono hc hl,hzr _ _ _ _,rfl⟩) (fun w' hc=>tup2 c (hzr _ _ _ _)) hs⟩
    ·rename_i j e hfind
     cases he
     obtain ⟨me,_,hf,h1,h2,h3⟩:=y8i hsame es ms.toList 0 (some (j,e)) hents hfind
     simp only [Nat.sub_zero] at h1 h2
     have h2':ms[j]? =some me:=by simpa using h2
     have hent:=yha hents h1 h2
     have hrun:(Instr.mapEntry t (a.eval x) (a.eval k)).run P w=.ok (.tuple #[me.val,goInt e.born]) (w.putObj (G i).blk (.map (ms.modify j fun e=>{ e with key:=kv }) c)):=by
      simp only [Instr.mapEntry,hxe,hkv,Sem.run_bind,run_underlying hu,Result.andThen_ok,MapKept.run_getObj_map hb,MapKept.run_checkKey hd hkey,MapKept.run_findKey hd hf,h2',Option.map_some,Option.getD_some,h3,yes hkey,MapKept.run_setObj_map _ hb,y8t,Sem.run_pure,hent.born]
     refine ⟨_,_,.inl (run hrun),ya1 hi hob (fun w' hc=>ycg (hents.mono hc (ObLe.mapSet hob)) fun m hm=> ?_) (fun w' hc=>tup2 e.born (hent.val.mono hc (ObLe.mapSet hob))) hs⟩
     rw [h2] at hm
     cases hm
     exact ⟨hkr.mono hc (ObLe.mapSet hob),hent.val.mono hc (ObLe.mapSet hob),hent.born⟩
    ·cases he
   ·cases he
  ·cases he
 ·cases he
theorem ykz {ob:Nat→Option AObj} {b:Nat}:∀(es:List AEnt) (ms:List MapEntry) (i j:Nat) (e:AEnt),EntsR w ok ob G es ms→findB b es i=some (j,e)→i≤j∧ms.findIdx? (fun e=>(e.born:Int)==(b:Int))=some (j-i)∧es[j-i]? =some e
 | [],ms,i,j,e,hr,h=>by cases h
 | x::es,ms,i,j,e,hr,h=>by
  cases ms with
  | nil=>have:=hr.1;simp at this
  | cons m ms=>
   have hem:=hr.2 0 x m (by simp) (by simp)
   have hr':EntsR w ok ob G es ms:=⟨by have:=hr.1;simpa using this,fun j x y p q=>hr.2 (j+1) x y (by simpa using p) (by simpa using q)⟩
   simp only [findB] at h
   rw [List.findIdx?_cons]
   by_cases hb:x.born=b
   ·rw [hb,Nat.beq_refl] at h
    cases h
    refine ⟨Nat.le_refl _, ?_,by simp⟩
    rw [hem.born,hb]
    simp
   ·rw [y8j hb] at h
    obtain ⟨k1,k2,k3⟩:=ykz es ms (i+1) j e hr' h
    have hne:((m.born:Int)==(b:Int))=false:=by
     rw [hem.born]
     simp only [beq_eq_false_iff_ne,ne_eq]
     omega
    have hj:j-i=j-(i+1)+1:=by omega
    refine ⟨by omega, ?_,by rw [hj];simpa using k3⟩
    rw [hne,k2,hj]
    rfl
theorem yz5 (hi:Inv B w ok st.sto G) (hB:B≤w.heap.size) (hT:RelT w ok st.ob G st.sl a.tmps) {t:TypeId} {x c v:Operand} {x' c' v':Opd} (ho:o.op=.entryStore t x c v) (hx:cOpd x=some x') (hc:cOpd c=some c') (hv:cOpd v=some v')
  {eff:Eff} (he:evOp F draw rb id st (.mset x' c' v')=some eff) {s':Sto} {y:SV} (hs:eff.sto st.sto id=(s',y)):
  Eff1 P B w ok st.sto G a o s' y:=by
 have hxr:=y0a hT hx
 have hcr:=y0a hT hc
 have hvr:=y0a hT hv
 simp only [evOp] at he
 split at he
 ·rename_i n hn
  obtain ⟨ck,hcv⟩:=y7z hn hcr
  split at he
  ·rename_i b hb
   obtain ⟨_,hnb,_⟩:=y7k hb
   split at he
   ·rename_i i hxv
    rw [hxv] at hxr
    have hxe:=yav hxr
    split at he
    ·rename_i es cl hob
     obtain ⟨_,ms,hblk,hents⟩:=hi.maps i es cl hob
     split at he
     ·rename_i j e hfind
      cases he
      obtain ⟨_,hf,h1⟩:=ykz es ms.toList 0 j e hents hfind
      simp only [Nat.sub_zero] at hf h1
      have hf':ms.findIdx? (fun e=>(e.born:Int)==(b:Int))=some j:=by
       rw [←hf,show ms.findIdx? (fun e=>(e.born:Int)==(b:Int))=ms.toList.toArray.findIdx? (fun e=>(e.born:Int)==(b:Int)) by simp,List.findIdx?_toArray]
      have hrun:(Instr.entryStore t (a.eval x) (a.eval c) (a.eval v)).run P w=.ok () (w.putObj (G i).blk (.map (ms.modify j fun e=>{ e with val:=a.eval v }) cl)):=by
       simp only [Instr.entryStore,hxe,hcv,hnb,Sem.run_bind,Result.andThen_ok,MapKept.run_getObj_map hblk,asInt,asIntOf,Sem.run_pure,hf',MapKept.run_setObj_map _ hblk,y8t]
      refine ⟨undef,_,.inr ⟨by simp [execOp,ho,hrun],rfl⟩,ya1 hi hob (ms':=ms.modify j fun e=>{ e with val:=a.eval v }) (fun w' hc=>ycg (hents.mono hc (ObLe.mapSet hob)) fun m hm=> ?_) (fun w' hc=>y80) hs⟩
      have hent:=yha hents h1 hm
      exact ⟨hent.key.mono hc (ObLe.mapSet hob),hvr.mono hc (ObLe.mapSet hob),hent.born⟩
     ·cases he
    ·cases he
   ·cases he
  ·cases he
 ·cases he
theorem yyj (hi:Inv B w ok st.sto G) (hB:B≤w.heap.size) (hT:RelT w ok st.ob G st.sl a.tmps) {c:Call} {x:Operand} {x':Opd} {t kt et:TypeId} (ho:o.op=.call c) (hc:c.callee=.builtin .clear) (ha:c.args.toList=[x]) (ht:c.argTypes[0]? =some t) (hu:P.underlying t=some (.map kt et)) (hx:cOpd x=some x')
  {eff:Eff} (he:evOp F draw rb id st (.mclr x')=some eff) {s':Sto} {y:SV} (hs:eff.sto st.sto id=(s',y)):
  Eff1 P B w ok st.sto G a o s' y:=by
 have hxr:=y0a hT hx
 simp only [evOp] at he
 split at he
 ·rename_i i hxv
  rw [hxv] at hxr
  have hxe:=yav hxr
  split at he
  ·rename_i es cl hob
   obtain ⟨_,ms,hb,hents⟩:=hi.maps i es cl hob
   cases he
   refine ⟨undef,_,.inl ?_,ya1 hi hob (ms':=#[]) (fun w' hc=>⟨rfl,fun j e m p _=>by simp at p⟩) (fun w' hc=>y80) hs⟩
   simp [execOp,ho,resolve,hc,y90 ha,invoke,builtin,Builtin.clear_,ht,hxe,run_underlying hu,MapKept.run_getObj_map hb,MapKept.run_setObj_map _ hb,y8t,undef]
  ·cases he
 ·cases he
theorem yuh (hi:Inv B w ok st.sto G) (hT:RelT w ok st.ob G st.sl a.tmps) {c:Call} {x:Operand} {x':Opd} {t kt et:TypeId} (ho:o.op=.call c) (hc:c.callee=.builtin .len) (ha:c.args.toList=[x]) (ht:c.argTypes[0]? =some t) (hu:P.underlying t=some (.map kt et)) (hx:cOpd x=some x')
  {eff:Eff} (he:evOp F draw rb id st (.mlen x')=some eff):∃y,eff=.val y∧Pure1 P w ok st.ob G a o y:=by
 have hxr:=y0a hT hx
 simp only [evOp] at he
 split at he
 ·rename_i hxv
  cases he
  rw [hxv] at hxr
  have hv:a.eval x=.map none:=by
   generalize a.eval x=u at hxr
   cases hxr with | one _ _ hxr=>cases hxr;rfl
  refine ⟨_,rfl,.int .i64 0, ?_,.one _ _ (.int _ _)⟩
  simp [execOp,ho,resolve,hc,y90 ha,invoke,builtin,Builtin.len_,ht,hv,run_underlying hu,goInt]
 ·rename_i i hxv
  obtain ⟨_,he⟩:=y05 he
  rw [hxv] at hxr
  have hxe:=yav hxr
  split at he
  ·rename_i es cl hob
   obtain ⟨_,ms,hb,hents⟩:=hi.maps i es cl hob
   obtain ⟨hle,he⟩:=y05 he
   cases he
   refine ⟨_,rfl,.int .i64 es.length, ?_,.one _ _ (.int _ _)⟩
   have hl:es.length=ms.size:=by rw [hents.1];simp
   simp [execOp,ho,resolve,hc,y90 ha,invoke,builtin,Builtin.len_,ht,hxe,run_underlying hu,goInt,MapKept.run_getObj_map hb,hl]
  ·cases he
 ·cases he
theorem yom (hT:RelT w ok st.ob G st.sl a.tmps) {neg:Bool} {t t2 e:TypeId} {x z:Operand} {x':Opd} (ho:o.op=.binOp (if neg then .neq else .eql) t x z t2) (hu:P.underlying t=some (.slice e)) (hx:cOpd x=some x') (hz:isNilS z=true)
  {eff:Eff} (he:evOp F draw rb id st (.eqn neg x')=some eff):∃y,eff=.val y∧Pure1 P w ok st.ob G a o y:=by
 have hxr:=y0a hT hx
 have hzv:a.eval z=.slice none 0 0:=by
  unfold isNilS at hz
  split at hz
  ·rfl
  ·cases hz
 have run:∀{ad:Option Addr} {l c:Nat},a.eval x=.slice ad l c→(execOp a.eval o).run P w=.ok (.value (.bool (if neg=true then !ad.isNone else ad.isNone))) w:=by
  intro ad l c hv
  cases neg with
  | false=>simp [execOp,ho,hv,hzv,eqGuard,binOp,Go.run_equal_slice_nil w t e ad l c hu]
  | true=>simp [execOp,ho,hv,hzv,eqGuard,binOp,Go.run_equal_slice_nil w t e ad l c hu]
 generalize hxv:a.eval x=xv at hxr run
 simp only [evOp] at he
 split at he
 ·rename_i hx'
  cases he
  rw [hx'] at hxr
  cases hxr with | one _ _ hxr=>
  cases hxr
  refine ⟨_,rfl,_,run rfl, ?_⟩
  cases neg<;>exact .one _ _ (.bool _)
 ·rename_i hx'
  cases he
  rw [hx'] at hxr
  cases hxr with | one _ _ hxr=>
  cases hxr with
  | sl _ _ ad cap sz b off f _ _ _ _ had=>
   have:=had (by simp)
   subst this
   refine ⟨_,rfl,_,run rfl, ?_⟩
   cases neg<;>exact .one _ _ (.bool _)
 ·rename_i hx'
  cases he
  rw [hx'] at hxr
  cases hxr with | one _ _ hxr=>
  cases hxr with
  | rsl _ _ _ _ _ _ _ _ _ _ hv=>
   obtain ⟨ad,c,rfl,_⟩:=hv
   refine ⟨_,rfl,_,run rfl, ?_⟩
   cases neg<;>exact .one _ _ (.bool _)
  | rslDead _ _ _ _ _ _ _ _ _ _ _ _ hv=>
   obtain ⟨ad,c,rfl,_⟩:=hv
   refine ⟨_,rfl,_,run rfl, ?_⟩
   cases neg<;>exact .one _ _ (.bool _)
 ·cases he
end
end Go.Ev
