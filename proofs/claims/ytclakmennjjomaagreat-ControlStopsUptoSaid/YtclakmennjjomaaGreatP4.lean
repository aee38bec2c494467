import Derived.Test.YtclakmennjjomaaGreatP3
import Derived.Test.YtclakmennjjomaaGreatP1
set_option linter.all false
namespace Go.Ev
open Go.Dig
def OutR (ob:Nat→Option AObj) (nx:Nat) (x:AV) (o:List Nat):Prop:=
 (o=[]∧x=.nils)∨∃id ver,x=.rsl id ver 1 0 o.length false∧ob id=some (.row 1 (intE o) ver)∧id<nx
theorem ymq {ob:Nat→Option AObj} {nx:Nat} {x:AV} {o:List Nat} (h:OutR ob nx x o) (fz:Nat→Nat):∃fz',frz ob DEPTH fz x=some (fz',.sl false (intE o)):=by
 rcases h with ⟨rfl,rfl⟩ | ⟨id,ver,rfl,hid,_⟩
 ·exact ⟨fz,rfl⟩
 ·have hb:Nat.ble (0+o.length) (intE o).length=true:=by simp [intE]
  refine ⟨raise fz id (0+o.length), ?_⟩
  rw [show DEPTH=6+1+1 from rfl,ycu,y5x hid]
  simp only [hb,cond_true]
  rw [((yfu o).sub 0 o.length).frz ob 6]
  simp only [List.drop_zero,yc5,List.take_length]
theorem ysi {ob:Nat→Option AObj} {nx:Nat} {x:AV} {o:List Nat} (h:OutR ob nx x o) (fz:Nat→Nat):∃fz',frzS ob fz (.one x)=some (fz',.one (.sl false (intE o))):=by
 obtain ⟨fz',h⟩:=ymq h fz
 exact ⟨fz',by simp only [frzS,h]⟩
theorem yqf {n:Nat} {ob:Nat→Option AObj} {nx:Nat} {x:AV} {o:List Nat} (h:OutR ob nx x o) (hs:o.length<2^60) (hd:∀d∈o,d<BT) (hn:o.length+2≤n) (fz:Nat→Nat):∃fz',callV (evF E n) Id.y1b [.one x] ob fz=some (.fzd fz' (.one (zD (val BT o)))):=by
 obtain ⟨m,rfl⟩:∃m,n=m+1:=⟨n-1,by omega⟩
 obtain ⟨fz',h⟩:=ysi h fz
 refine ⟨fz', ?_⟩
 rw [y6k]
 simp only [mapFz,h,yhg o hs hd (show o.length+1≤m by omega),Option.map_some]
theorem y7d (o:List Nat) (d:Nat):intE o++[[AV.int .i64 (d:Int)]]=intE (o++[d]):=ylc o [d]
theorem yam (ob:Nat→Option AObj) (q q2 d nx':Nat) (h:q2<nx') (y:AObj):OutR (upd (upd ob q y) q2 (.row 1 [[AV.int .i64 (d:Int)]] 0)) nx' (.rsl q2 0 1 0 1 false) [d]:=
 .inr ⟨q2,0,rfl,upd_same _ _ _,h⟩
theorem yas {ob:Nat→Option AObj} {id ver q d nx':Nat} {o:List Nat} (h:id<nx') (y:AObj):OutR (upd (upd ob q y) id (.row 1 (intE (o++[d])) (ver+1))) nx' (.rsl id (ver+1) 1 0 (o.length+1) false) (o++[d]):=
 .inr ⟨id,ver+1,by simp,upd_same _ _ _,h⟩
theorem y6v {ob:Nat→Option AObj} {id ver q:Nat} {es:List (List AV)} (hid:ob id=some (.row 1 es ver)) (hq:id≠q) (y:AObj):rowAt (upd ob q y) id ver=some (1,es):=by
 refine y5x ?_
 rw [y00 hq];exact hid
def zC (z:Int):List AV:=[.bool (decide (z<0)),zD z.natAbs]
def sV (z:Int):SV:=.agg (zC z)
theorem y6e (z:Int):CanS (sV z):=.agg _ fun x hx=>by
 simp only [zC,List.mem_cons,List.not_mem_nil,or_false] at hx
 rcases hx with rfl | rfl
 ·exact .bool _
 ·exact .sl _
theorem ye2 (m:Nat):((((digs BT m).length:Nat):Int)>0)=(m≠0):=by
 rw [eq_iff_iff]
 constructor
 ·intro h e
  subst e
  rw [digs_zero] at h
  simp at h
 ·intro h
  have:=y6h BT2 h
  have:(digs BT m).length≠0:=fun e=>this (List.length_eq_zero_iff.1 e)
  omega
theorem yxc (neg:Bool) (m:Nat):zC (sgn neg m)=[.bool (neg&&decide (m≠0)),zD m]:=by
 unfold zC sgn
 cases neg with
 | false=>simp
 | true=>
  simp only [if_true,Int.natAbs_neg,Int.natAbs_natCast,Bool.true_and]
  have:decide (-(m:Int)<0)=decide (m≠0):=by
   rw [decide_eq_decide]
   omega
  rw [this]
theorem ynm (neg:Bool) (m n:Nat):evV E (n+1) Id.y0x [.one (.bool neg),.one (zD m)]=some (sV (sgn neg m)):=by
 rw [y04 ybh]
 unfold sV
 rw [yxc]
 unfold zD
 cases neg with
 | true=>simp only [go_sem,Fn.y0x,ye2]
 | false=>simp only [go_sem,Fn.y0x,ye2]
theorem y7x (neg:Bool) (m:Nat) (z:Int) (hz:sgn neg m=z) {n:Nat} (hn:1≤n) (ob:Nat→Option AObj) (fz:Nat→Nat):callV (evF E n) Id.y0x [.one (.bool neg),.one (zD m)] ob fz=some (.fzd fz (sV z)):=by
 obtain ⟨k,rfl⟩:∃k,n=k+1:=⟨n-1,by omega⟩
 rw [←hz]
 exact y02 (ynm neg m k) (can2 (yhh _) (y4d _)) ob fz
section
variable {F:Caller} {fuel:Nat} {fz:Nat→Nat}
theorem yl0 {ob:Nat→Option AObj} {nx:Nat} (ds:List Nat) (fr:Nat) (hl:ds.length≤fr+4) (hs:ds.length<2^60) (hd:∀d∈ds,d<BT):∀(m k:Nat),k=fr+m→k≤ds.length→∀(X:List (Nat×SV)) (N:Nat),m<N→∃X',
  loopN (evC F fuel Fn.y5z) N ⟨env ((0,.one (.sl false (intE ds)))::(1,.one (.int .i64 (fr:Int)))::(5,.one (.int .i64 (val BT (ds.drop k):Int)))::(6,.one (.int .i64 ((k:Int)-1)))::X),ob,fz,nx⟩=
   some (.ext 0,⟨env ((0,.one (.sl false (intE ds)))::(1,.one (.int .i64 (fr:Int)))::(5,.one (.int .i64 (val BT (ds.drop fr):Int)))::X'),ob,fz,nx⟩)
 | 0,k,hk,hkl,X,N+1,hN=>by
  have hk':k=fr:=by omega
  subst hk'
  have h1:(((k:Nat):Int)-1≥((k:Nat):Int))=False:=by simp only [ge_iff_le,eq_iff_iff,iff_false];omega
  refine ⟨[(6,.one (.int .i64 ((k:Int)-1))),(12,.one (.bool false))],y0j ?_⟩
  simp only [go_sem,Fn.y5z,h1]
 | m+1,k,hk,hkl,X,N+1,hN=>by
  obtain ⟨j,rfl⟩:∃j,k=j+1:=⟨k-1,by omega⟩
  have h0:(((j+1:Nat):Int)-1)=(j:Nat):=by omega
  have h1:(((j:Nat):Int)≥((fr:Nat):Int))=True:=by simp only [ge_iff_le,eq_iff_iff,iff_true];omega
  have hjl:j<ds.length:=by omega
  have gd:ds[j]? =some ds[j]:=by simp
  have e:ds.drop j=ds[j]::ds.drop (j+1):=List.drop_eq_getElem_cons hjl
  have hb:val BT (ds.drop j)<10000000000000000:=by
   have h2:=y4p BT2 (ds.drop j) (fun d h=>hd d (List.mem_of_mem_drop h))
   have h3:BT^(ds.drop j).length≤BT^4:=Nat.pow_le_pow_right (by decide) (by simp;omega)
   exact Nat.lt_of_lt_of_le h2 (Nat.le_trans h3 (by decide))
  have hv:val BT (ds.drop j)=ds[j]+10000*val BT (ds.drop (j+1)):=by rw [e];rfl
  rw [hv] at hb
  have wm:IntKind.i64.wrap ((val BT (ds.drop (j+1)):Int)*10000)=((val BT (ds.drop (j+1))*10000:Nat):Int):=by
   rw [show ((val BT (ds.drop (j+1)):Int)*10000)=((val BT (ds.drop (j+1))*10000:Nat):Int) from (Int.natCast_mul _ 10000).symm]
   exact wi64 (by omega)
  have wa:IntKind.i64.wrap (((val BT (ds.drop (j+1))*10000:Nat):Int)+(ds[j]:Int))=(val BT (ds.drop j):Int):=by
   rw [addi64 _ _ (by omega),hv]
   congr 1
   omega
  have wj:IntKind.i64.wrap ((j:Int)-1)=(j:Int)-1:=wrap_i64 (by omega)
  obtain ⟨X',h⟩:=yl0 ds fr hl hs hd m j (by omega) (by omega) [] N (by omega)
  refine ⟨X', ?_⟩
  rw [←h]
  refine y0l ?_
  generalize val BT (ds.drop j)=v1 at wa ⊢
  generalize val BT (ds.drop (j+1))=v0 at wm wa ⊢
  generalize v0*10000=v2 at wm wa
  simp only [go_sem,Fn.y5z,h0,h1,gd,wm,wa,wj]
end
theorem yd1 (a fr:Nat) (hl:dlen BT a≤fr+4) (hf:fr≤dlen BT a) (hs:dlen BT a<2^60) {n:Nat} (hn:dlen BT a+1≤n):evV E (n+1) Id.y2b [.one (zD a),.one (.int .i64 (fr:Int))]=some (.one (.int .i64 (val BT ((digs BT a).drop fr):Int))):=by
 rw [y04 ye0]
 unfold dlen at hl hf hs hn
 obtain ⟨X',h⟩:=yl0 (F:=evF E n) (fuel:=n) (ob:=ob0) (fz:=fz0) (nx:=0) (digs BT a) fr hl hs (y2d BT2 a) ((digs BT a).length-fr) (digs BT a).length (by omega) (Nat.le_refl _) [] n (by omega)
 rw [List.drop_length,val,show ((0:Nat):Int)=0 from rfl] at h
 have hw:IntKind.i64.wrap (((digs BT a).length:Int)-1)=((digs BT a).length:Int)-1:=wrap_i64 (by omega)
 unfold zD
 generalize val BT ((digs BT a).drop fr)=v at h ⊢
 simp only [go_sem,Fn.y2b,hw,h]
theorem ynq (x y b:Nat) (hx:x<10000) (hy:y<10000) (hb:b≤1):∃(d b':Nat),d<10000∧b'≤1∧d+y+b=x+10000*b'∧(b'=0→((x:Int)-b-y)=(d:Int))∧(b'=1→∃z:Int,((x:Int)-b-y)=z∧(z<0)=True∧IntKind.i64.wrap (z+10000)=(d:Int)):=by
 by_cases h:y+b≤x
 ·exact ⟨x-b-y,0,by omega,by omega,by omega,fun _=>by omega,fun h=>by omega⟩
 ·exact ⟨x+10000-b-y,1,by omega,by omega,by omega,fun h=>by omega,fun _=>⟨_,rfl,by simp;omega,by rw [wrap_i64 (by omega)];omega⟩⟩
section
variable {F:Caller} {fuel:Nat} {fz:Nat→Nat}
theorem ylk {ob:Nat→Option AObj} {nx:Nat} (ds es:List Nat) (i b:Nat) (hil:i<ds.length) (hs:ds.length<2^40) (hd:∀d∈ds,d<BT) (he:∀d∈es,d<BT) (hb:b≤1) (o:List Nat) (hol:o.length=i) (x:AV) (hO:OutR ob nx x o) (X:List (Nat×SV)):∃(d b':Nat) (x':AV) (ob':Nat→Option AObj),
  evC F fuel Fn.y1q ⟨env ((0,.one (.sl false (intE ds)))::(1,.one (.sl false (intE es)))::(5,.one x)::(6,.one (.int .i64 (b:Int)))::(7,.one (.int .i64 (i:Int)))::X),ob,fz,nx⟩=
   some (.nrm,⟨env [(0,.one (.sl false (intE ds))),(1,.one (.sl false (intE es))),(5,.one x'),(6,.one (.int .i64 (b':Int))),(7,.one (.int .i64 ((i+1:Nat):Int)))],ob',fz,nx+5⟩)∧OutR ob' (nx+5) x' (o++[d])∧d<BT∧b'≤1∧d+es.getD i 0+b=ds[i]+10000*b':=by
 have gd:ds[i]? =some ds[i]:=by simp
 have hx:ds[i]<10000:=hd _ (by simp)
 have hy:es.getD i 0<10000:=by
  rw [List.getD]
  cases h:es[i]? with
  | none=>simp
  | some y=>exact he y (List.mem_of_getElem? h)
 obtain ⟨d,b',h1,h2,h3,h4,h5⟩:=ynq ds[i] (es.getD i 0) b hx hy hb
 have hlt:(((i:Nat):Int)<((ds.length:Nat):Int))=True:=by simp;omega
 have wk:IntKind.i64.wrap ((i+1:Nat):Int)=((i+1:Nat):Int):=wi64 (by omega)
 have hd1:[[AV.int .i64 (d:Int)]]=intE [d]:=rfl
 have dn:(((d:Nat):Int)<0)=False:=by simp
 have hb':b'=0∨b'=1:=by omega
 have z0:((0:Nat):Int)=0:=rfl
 have z1:((1:Nat):Int)=1:=rfl
 generalize ds[i]=xd at*
 by_cases hie:i<es.length
 ·have ge:es[i]? =some es[i]:=by simp
  have hey:es.getD i 0=es[i]:=by rw [List.getD,ge];rfl
  rw [hey] at h3 h4 h5 hy ⊢
  have g2:(((i:Nat):Int)<((es.length:Nat):Int))=True:=by simp;omega
  generalize es[i]=y at*
  have w1:IntKind.i64.wrap ((xd:Int)-(b:Int))=(xd:Int)-(b:Int):=wrap_i64 (by omega)
  have w2:IntKind.i64.wrap ((xd:Int)-(b:Int)-(y:Int))=(xd:Int)-(b:Int)-(y:Int):=wrap_i64 (by omega)
  rcases hb' with rfl | rfl
  ·have w2:=w2.trans (h4 rfl)
   rcases hO with ⟨rfl,rfl⟩ | ⟨id,ver,rfl,hid,hlt'⟩
   ·refine ⟨d,0,_,_, ?_,yam ob (nx+2) (nx+3) d _ (by omega) (.row 1 [[AV.int .i64 (d:Int)]] 0),h1,by omega,h3⟩
    simp only [go_sem,Fn.y1q,hlt,gd,w1,g2,ge,w2,dn,add1,wk,okSz,ROOM,Nat.reduceBEq,z0]
   ·have hl8:(o.length+1)*8≤140737488355328:=by omega
    have hrow:=y6v hid (show id≠nx+2 by omega) (.row 1 [[AV.int .i64 (d:Int)]] 0)
    refine ⟨d,0,_,_, ?_,yas (ob:=ob) (id:=id) (ver:=ver) (q:=nx+2) (d:=d) (nx':=nx+5) (by omega) (.row 1 [[AV.int .i64 (d:Int)]] 0),h1,by omega,h3⟩
    simp only [go_sem,Fn.y1q,hlt,gd,w1,g2,ge,w2,dn,add1,wk,okSz,ROOM,Nat.reduceBEq,hrow,hl8,y7d,z0]
  ·obtain ⟨z,e1,e2,e3⟩:=h5 rfl
   have w2:=w2.trans e1
   rcases hO with ⟨rfl,rfl⟩ | ⟨id,ver,rfl,hid,hlt'⟩
   ·refine ⟨d,1,_,_, ?_,yam ob (nx+2) (nx+3) d _ (by omega) (.row 1 [[AV.int .i64 (d:Int)]] 0),h1,by omega,h3⟩
    simp only [go_sem,Fn.y1q,hlt,gd,w1,g2,ge,w2,e2,e3,add1,wk,okSz,ROOM,Nat.reduceBEq,z1]
   ·have hl8:(o.length+1)*8≤140737488355328:=by omega
    have hrow:=y6v hid (show id≠nx+2 by omega) (.row 1 [[AV.int .i64 (d:Int)]] 0)
    refine ⟨d,1,_,_, ?_,yas (ob:=ob) (id:=id) (ver:=ver) (q:=nx+2) (d:=d) (nx':=nx+5) (by omega) (.row 1 [[AV.int .i64 (d:Int)]] 0),h1,by omega,h3⟩
    simp only [go_sem,Fn.y1q,hlt,gd,w1,g2,ge,w2,e2,e3,add1,wk,okSz,ROOM,Nat.reduceBEq,hrow,hl8,y7d,z1]
 ·have hey:es.getD i 0=0:=by rw [List.getD,List.getElem?_eq_none (by omega)];rfl
  rw [hey] at h3 h4 h5 hy ⊢
  have g2:(((i:Nat):Int)<((es.length:Nat):Int))=False:=by simp;omega
  have w1:IntKind.i64.wrap ((xd:Int)-(b:Int))=(xd:Int)-(b:Int)-((0:Nat):Int):=by rw [wrap_i64 (by omega)];omega
  rcases hb' with rfl | rfl
  ·have w1:=w1.trans (h4 rfl)
   rcases hO with ⟨rfl,rfl⟩ | ⟨id,ver,rfl,hid,hlt'⟩
   ·refine ⟨d,0,_,_, ?_,yam ob (nx+2) (nx+3) d _ (by omega) (.row 1 [[AV.int .i64 (d:Int)]] 0),h1,by omega,h3⟩
    simp only [go_sem,Fn.y1q,hlt,gd,w1,g2,dn,add1,wk,okSz,ROOM,Nat.reduceBEq,z0]
   ·have hl8:(o.length+1)*8≤140737488355328:=by omega
    have hrow:=y6v hid (show id≠nx+2 by omega) (.row 1 [[AV.int .i64 (d:Int)]] 0)
    refine ⟨d,0,_,_, ?_,yas (ob:=ob) (id:=id) (ver:=ver) (q:=nx+2) (d:=d) (nx':=nx+5) (by omega) (.row 1 [[AV.int .i64 (d:Int)]] 0),h1,by omega,h3⟩
    simp only [go_sem,Fn.y1q,hlt,gd,w1,g2,dn,add1,wk,okSz,ROOM,Nat.reduceBEq,hrow,hl8,y7d,z0]
  ·obtain ⟨z,e1,e2,e3⟩:=h5 rfl
   have w1:=w1.trans e1
   rcases hO with ⟨rfl,rfl⟩ | ⟨id,ver,rfl,hid,hlt'⟩
   ·refine ⟨d,1,_,_, ?_,yam ob (nx+2) (nx+3) d _ (by omega) (.row 1 [[AV.int .i64 (d:Int)]] 0),h1,by omega,h3⟩
    simp only [go_sem,Fn.y1q,hlt,gd,w1,g2,e2,e3,add1,wk,okSz,ROOM,Nat.reduceBEq,z1]
   ·have hl8:(o.length+1)*8≤140737488355328:=by omega
    have hrow:=y6v hid (show id≠nx+2 by omega) (.row 1 [[AV.int .i64 (d:Int)]] 0)
    refine ⟨d,1,_,_, ?_,yas (ob:=ob) (id:=id) (ver:=ver) (q:=nx+2) (d:=d) (nx':=nx+5) (by omega) (.row 1 [[AV.int .i64 (d:Int)]] 0),h1,by omega,h3⟩
    simp only [go_sem,Fn.y1q,hlt,gd,w1,g2,e2,e3,add1,wk,okSz,ROOM,Nat.reduceBEq,hrow,hl8,y7d,z1]
theorem yf3 (ds es:List Nat) (hs:ds.length<2^40) (hd:∀d∈ds,d<BT) (he:∀d∈es,d<BT):∀(m i:Nat),i+m=ds.length→∀(ob:Nat→Option AObj) (nx b:Nat) (o:List Nat) (x:AV) (X:List (Nat×SV)),b≤1→o.length=i→(∀d∈o,d<BT)→OutR ob nx x o→val BT o+val BT (es.take i)=val BT (ds.take i)+BT^i*b→∀N,m<N→
  ∃(o':List Nat) (x':AV) (ob':Nat→Option AObj) (nx' b':Nat) (X':List (Nat×SV)),loopN (evC F fuel Fn.y1q) N ⟨env ((0,.one (.sl false (intE ds)))::(1,.one (.sl false (intE es)))::(5,.one x)::(6,.one (.int .i64 (b:Int)))::(7,.one (.int .i64 (i:Int)))::X),ob,fz,nx⟩=
   some (.ext 0,⟨env ((0,.one (.sl false (intE ds)))::(1,.one (.sl false (intE es)))::(5,.one x')::X'),ob',fz,nx'⟩)∧OutR ob' nx' x' o'∧(∀d∈o',d<BT)∧o'.length=ds.length∧b'≤1∧val BT o'+val BT (es.take ds.length)=val BT ds+BT^ds.length*b'
 | 0,i,hi,ob,nx,b,o,x,X,hb,hol,hod,hO,hinv,N+1,hN=>by
  have hi':i=ds.length:=by omega
  subst hi'
  rw [List.take_length] at hinv
  refine ⟨o,x,ob,nx,b,[(6,.one (.int .i64 (b:Int))),(7,.one (.int .i64 (ds.length:Int))),(12,.one (.bool false))],y0j ?_,hO,hod,hol,hb,hinv⟩
  have h1:(((ds.length:Nat):Int)<((ds.length:Nat):Int))=False:=by simp
  simp only [go_sem,Fn.y1q,h1]
 | m+1,i,hi,ob,nx,b,o,x,X,hb,hol,hod,hO,hinv,N+1,hN=>by
  have hil:i<ds.length:=by omega
  obtain ⟨d,b',x',ob',hst,hO',hdl,hb',hdig⟩:=ylk (F:=F) (fuel:=fuel) (fz:=fz) ds es i b hil hs hd he hb o hol x hO X
  rw [y0l hst]
  refine yf3 ds es hs hd he m (i+1) (by omega) ob' (nx+5) b' (o++[d]) x' [] hb' (by simp [hol]) ?_ hO' ?_ N (by omega)
  ·intro z hz
   rcases List.mem_append.1 hz with h | h
   ·exact hod z h
   ·simp only [List.mem_cons,List.not_mem_nil,or_false] at h;rw [h];exact hdl
  ·have gd:ds[i]? =some ds[i]:=by simp
   have td:ds.take (i+1)=ds.take i++[ds[i]]:=by rw [List.take_add_one,gd];rfl
   have te:val BT (es.take (i+1))=val BT (es.take i)+BT^i*es.getD i 0:=by
    rw [List.take_add_one,List.getD]
    cases h:es[i]? with
    | none=>
     simp only [Option.toList_none,List.append_nil,Option.getD_none,Nat.mul_zero,Nat.add_zero]
    | some y=>
     have hl:i<es.length:=(List.getElem?_eq_some_iff.1 h).1
     rw [Option.toList_some,y0e,List.length_take,Nat.min_eq_left (by omega)]
     rfl
   rw [td,te,y0e,y0e,hol,List.length_take,Nat.min_eq_left (by omega),Nat.pow_succ]
   have e1:BT^i*d+BT^i*es.getD i 0+BT^i*b=BT^i*ds[i]+BT^i*BT*b':=by
    rw [Nat.mul_assoc (BT^i) BT,←Nat.mul_add,←Nat.mul_add,←Nat.mul_add,hdig]
    rfl
   omega
end
theorem ygb (a b:Nat) (hab:b≤a) (ha:dlen BT a<2^40) {n:Nat} (hn:dlen BT a+4≤n):evV E (n+1) Id.y2c [.one (zD a),.one (zD b)]=some (.one (zD (a-b))):=by
 rw [y04 ybv]
 have hlen:dlen BT b≤dlen BT a:=y51 BT2 hab
 unfold dlen at ha hn hlen
 obtain ⟨o',x',ob',nx',b',X',hloop,h1,h2,h3,h4,h5⟩:=yf3 (F:=evF E n) (fuel:=n) (fz:=fz0) (digs BT a) (digs BT b) ha (y2d BT2 a) (y2d BT2 b) (digs BT a).length 0 (by omega) ob0 0 0 [] .nils [] (by omega) rfl (fun _ h=>by simp at h) (.inl ⟨rfl,rfl⟩) (by simp [val]) n (by omega)
 rw [List.take_of_length_le hlen,y1e BT2,y1e BT2] at h5
 have hlt:=y4p BT2 o' h2
 rw [h3] at hlt
 have hb0:b'=0:=by
  rcases Nat.lt_or_ge b' 1 with h | h
  ·omega
  ·have:BT^(digs BT a).length*1≤BT^(digs BT a).length*b':=Nat.mul_le_mul_left _ h
   omega
 subst hb0
 have hv:val BT o'=a-b:=by rw [Nat.mul_zero] at h5;omega
 obtain ⟨fz',htrim⟩:=yqf (n:=n) h1 (by omega) h2 (by omega) fz0
 rw [hv] at htrim
 rw [show ((0:Nat):Int)=0 from rfl] at hloop
 unfold zD at htrim ⊢
 simp only [go_sem,Fn.y2c,hloop,htrim]
end Go.Ev
namespace Go.Ev
open Go.Dig
theorem yqc {ob:Nat→Option AObj} {nx:Nat} {x:AV} {o:List Nat} (h:OutR ob nx x o) (neg:Bool) (fz:Nat→Nat):∃fz',frzS ob fz (.agg [.bool neg,x])=some (fz',.agg [.bool neg,.sl false (intE o)]):=by
 obtain ⟨fz',h⟩:=ymq h fz
 refine ⟨fz', ?_⟩
 simp only [frzS,mapFz,h,show frz ob DEPTH fz (.bool neg)=some (fz,.bool neg) from rfl]
theorem yqm (z:Int) (h1:-9223372036854775808≤z) (h2:z<9223372036854775808):∃(k z':Int) (d:Nat),z.tmod 10000=k∧((k<0)=(k<0))∧(if k<0 then IntKind.i64.wrap (0-k) else k)=(d:Int)∧IntKind.i64.wrap (z.tdiv 10000)=z'∧d=z.natAbs%10000∧z'.natAbs=z.natAbs / 10000∧-9223372036854775808≤z'∧z'<9223372036854775808:=by
 obtain ⟨m,hm⟩:∃m:Nat,m=z.natAbs:=⟨_,rfl⟩
 by_cases hz:z<0
 ·have e:z=-((m:Nat):Int):=by omega
  have t1:z.tmod 10000=-((m%10000:Nat):Int):=by rw [e,Int.neg_tmod,show ((10000:Int))=((10000:Nat):Int) from rfl,←Int.ofNat_tmod]
  have t2:z.tdiv 10000=-((m / 10000:Nat):Int):=by rw [e,Int.neg_tdiv,show ((10000:Int))=((10000:Nat):Int) from rfl,←Int.ofNat_tdiv]
  have w2:IntKind.i64.wrap (z.tdiv 10000)=-((m / 10000:Nat):Int):=by rw [t2];exact wrap_i64 (by omega)
  refine ⟨_,_,m%10000,t1,rfl, ?_,w2,by rw [hm],by rw [hm];omega,by omega,by omega⟩
  split
  ·rw [wrap_i64 (by omega)];omega
  ·omega
 ·have e:z=((m:Nat):Int):=by omega
  have t1:z.tmod 10000=((m%10000:Nat):Int):=by rw [e,show ((10000:Int))=((10000:Nat):Int) from rfl,←Int.ofNat_tmod]
  have t2:z.tdiv 10000=((m / 10000:Nat):Int):=by rw [e,show ((10000:Int))=((10000:Nat):Int) from rfl,←Int.ofNat_tdiv]
  have w2:IntKind.i64.wrap (z.tdiv 10000)=((m / 10000:Nat):Int):=by rw [t2];exact wrap_i64 (by omega)
  refine ⟨_,_,m%10000,t1,rfl, ?_,w2,by rw [hm],by rw [hm];omega,by omega,by omega⟩
  rw [if_neg (by omega)]
section
variable {F:Caller} {fuel:Nat} {fz:Nat→Nat}
theorem ynp {ob:Nat→Option AObj} {nx:Nat} (hnx:2≤nx) (z:Int) (hz:z≠0) (h1:-9223372036854775808≤z) (h2:z<9223372036854775808) (neg:Bool) (o:List Nat) (hol:o.length<2^40) (x:AV) (hO:OutR ob nx x o) (hb:ob 1=some (.box [.bool neg,x])) (hb0:ob 0=some (.box [.bool false,.nils])) (X:List (Nat×SV)):∃(z':Int) (x':AV) (ob':Nat→Option AObj),
  evC F fuel Fn.y3o ⟨env ((0,.one (.int .i64 z))::(2,.one (.box 0 0))::(3,.one (.box 1 0))::X),ob,fz,nx⟩=
   some (.nrm,⟨env [(0,.one (.int .i64 z')),(2,.one (.box 0 0)),(3,.one (.box 1 0))],ob',fz,nx+7⟩)∧OutR ob' (nx+7) x' (o++[z.natAbs%10000])∧ob' 1=some (.box [.bool neg,x'])∧ob' 0=some (.box [.bool false,.nils])∧z'.natAbs=z.natAbs / 10000∧-9223372036854775808≤z'∧z'<9223372036854775808:=by
 obtain ⟨k,z',d,e1,_,e3,e4,e5,e6,e7,e8⟩:=yqm z h1 h2
 rw [←e5]
 have hne:(z !=0)=true:=by simp only [bne_iff_ne,ne_eq];exact hz
 have t0:((10000:Int)=0)=False:=by simp
 have p14:(1=nx+4)=False:=by simp only [eq_iff_iff,iff_false];omega
 have p13:(1=nx+3)=False:=by simp only [eq_iff_iff,iff_false];omega
 rcases hO with ⟨rfl,rfl⟩ | ⟨id,ver,rfl,hid,hlt'⟩
 ·have fin:OutR (upd (upd (upd ob (nx+3) (.row 1 [[AV.int .i64 (d:Int)]] 0)) (nx+4) (.row 1 [[AV.int .i64 (d:Int)]] 0)) 1 (.box [.bool neg,.rsl (nx+4) 0 1 0 1 false])) (nx+7) (.rsl (nx+4) 0 1 0 1 false) ([]++[d]):=by
   refine .inr ⟨nx+4,0,rfl, ?_,by omega⟩
   rw [y00 (by omega),upd_same]
   rfl
  refine ⟨z',_,_, ?_,fin,upd_same _ _ _,by rw [y00 (by omega),y00 (by omega),y00 (by omega)];exact hb0,e6,e7,e8⟩
  by_cases hk:k<0
  ·have g:(k<0)=True:=by simp [hk]
   rw [if_pos hk] at e3
   simp only [go_sem,Fn.y3o,hne,t0,e1,g,e3,e4,hb,p14,p13,okSz,ROOM,Nat.reduceBEq]
  ·have g:(k<0)=False:=by simp [hk]
   rw [if_neg hk] at e3
   subst e3
   simp only [go_sem,Fn.y3o,hne,t0,e1,g,e4,hb,p14,p13,okSz,ROOM,Nat.reduceBEq]
 ·have hid1:id≠1:=fun e=>by rw [e,hb] at hid;cases hid
  have hid0:id≠0:=fun e=>by rw [e,hb0] at hid;cases hid
  have p1d:(1=id)=False:=by simp only [eq_iff_iff,iff_false];omega
  have hl8:(o.length+1)*8≤140737488355328:=by omega
  have hrow:=y6v hid (show id≠nx+3 by omega) (.row 1 [[AV.int .i64 (d:Int)]] 0)
  have fin:OutR (upd (upd (upd ob (nx+3) (.row 1 [[AV.int .i64 (d:Int)]] 0)) id (.row 1 (intE (o++[d])) (ver+1))) 1 (.box [.bool neg,.rsl id (ver+1) 1 0 (o.length+1) false])) (nx+7) (.rsl id (ver+1) 1 0 (o.length+1) false) (o++[d]):=by
   refine .inr ⟨id,ver+1,by simp, ?_,by omega⟩
   rw [y00 hid1,upd_same]
  refine ⟨z',_,_, ?_,fin,upd_same _ _ _,by rw [y00 (by omega),y00 (Ne.symm hid0),y00 (by omega)];exact hb0,e6,e7,e8⟩
  by_cases hk:k<0
  ·have g:(k<0)=True:=by simp [hk]
   rw [if_pos hk] at e3
   simp only [go_sem,Fn.y3o,hne,t0,e1,g,e3,e4,hb,p1d,p13,okSz,ROOM,Nat.reduceBEq,hrow,hl8,y7d]
  ·have g:(k<0)=False:=by simp [hk]
   rw [if_neg hk] at e3
   subst e3
   simp only [go_sem,Fn.y3o,hne,t0,e1,g,e4,hb,p1d,p13,okSz,ROOM,Nat.reduceBEq,hrow,hl8,y7d]
theorem yp5 (neg:Bool):∀(m:Nat) (z:Int) (ob:Nat→Option AObj) (nx:Nat) (o:List Nat) (x:AV) (X:List (Nat×SV)),z.natAbs<BT^m→2≤nx→-9223372036854775808≤z→z<9223372036854775808→o.length+m<2^40→OutR ob nx x o→ob 1=some (.box [.bool neg,x])→ob 0=some (.box [.bool false,.nils])→∀N,m<N→
  ∃(x':AV) (ob':Nat→Option AObj) (nx':Nat) (X':List (Nat×SV)),loopN (evC F fuel Fn.y3o) N ⟨env ((0,.one (.int .i64 z))::(2,.one (.box 0 0))::(3,.one (.box 1 0))::X),ob,fz,nx⟩=
   some (.ext 0,⟨env ((2,.one (.box 0 0))::(3,.one (.box 1 0))::X'),ob',fz,nx'⟩)∧OutR ob' nx' x' (o++digs BT z.natAbs)∧ob' 1=some (.box [.bool neg,x'])∧ob' 0=some (.box [.bool false,.nils]):=by
 intro m
 induction m with
 | zero=>
  intro z ob nx o x X hm hnx h1 h2 hol hO hb hb0 N hN
  have hz:z=0:=by rw [Nat.pow_zero] at hm;omega
  subst hz
  obtain ⟨M,rfl⟩:∃M,N=M+1:=⟨N-1,by omega⟩
  refine ⟨x,ob,nx,[(0,.one (.int .i64 0)),(9,.one (.bool false))], ?_,by rw [show (0:Int).natAbs=0 from rfl,digs_zero,List.append_nil];exact hO,hb,hb0⟩
  have e:env ((2,SV.one (.box 0 0))::(3,.one (.box 1 0))::[(0,.one (.int .i64 0)),(9,.one (.bool false))])=env [(0,.one (.int .i64 0)),(2,.one (.box 0 0)),(3,.one (.box 1 0)),(9,.one (.bool false))]:=by
   funext j
   simp only [yjk]
   by_cases h0:0=j
   ·subst h0;rfl
   ·by_cases h2:2=j
    ·subst h2;rfl
    ·by_cases h3:3=j
     ·subst h3;rfl
     ·simp only [h0,h2,h3,if_false]
  rw [e]
  refine y0j ?_
  have hne:((0:Int) !=0)=false:=rfl
  simp only [go_sem,Fn.y3o,hne]
 | succ m ih=>
  intro z ob nx o x X hm hnx h1 h2 hol hO hb hb0 N hN
  obtain ⟨M,rfl⟩:∃M,N=M+1:=⟨N-1,by omega⟩
  by_cases hz:z=0
  ·exact ih z ob nx o x X (by rw [hz];exact Nat.pow_pos (by decide)) hnx h1 h2 (by omega) hO hb hb0 (M+1) (by omega)
  ·obtain ⟨z',x',ob',hst,a1,a2,a3,a4,a5,a6⟩:=ynp (F:=F) (fuel:=fuel) (fz:=fz) hnx z hz h1 h2 neg o (by omega) x hO hb hb0 X
   have hz':z'.natAbs<BT^m:=by
    rw [a4]
    rw [Nat.pow_succ] at hm
    exact Nat.div_lt_of_lt_mul (by rw [Nat.mul_comm];exact hm)
   obtain ⟨x2,ob2,nx2,X2,hl,b1,b2,b3⟩:=ih z' ob' (nx+7) (o++[z.natAbs%10000]) x' [] hz' (by omega) a5 a6 (by simp;omega) a1 a2 a3 M (by omega)
   refine ⟨x2,ob2,nx2,X2,by rw [y0l hst];exact hl, ?_,b2,b3⟩
   rw [y65 BT2 (show z.natAbs≠0 by omega)]
   rw [a4,List.append_assoc] at b1
   exact b1
end
theorem ybb (z:Int) (h1:-9223372036854775808≤z) (h2:z<9223372036854775808) {n:Nat} (hn:8≤n):evV E (n+1) Id.y1k [.one (.int .i64 z)]=some (sV z):=by
 rw [y04 yd7]
 have hm:z.natAbs<BT^5:=by
  have:(10000000000000000000:Nat)≤BT^5:=by decide
  omega
 obtain ⟨x',ob',nx',X',hloop,b1,b2,b3⟩:=yp5 (F:=evF E n) (fuel:=n) (fz:=fz0) (decide (z<0)) 5 z (upd (upd ob0 0 (.box [.bool false,.nils])) 1 (.box [.bool (decide (z<0)),.nils])) 2 [] .nils [] hm (by omega) h1 h2 (by decide) (.inl ⟨rfl,rfl⟩) rfl rfl n (by omega)
 rw [List.nil_append] at b1
 have b1':OutR (upd ob' 0 (.box [.bool (decide (z<0)),x'])) nx' x' (digs BT z.natAbs):=by
  rcases b1 with ⟨e1,e2⟩ | ⟨id,ver,e1,e2,e3⟩
  ·exact .inl ⟨e1,e2⟩
  ·refine .inr ⟨id,ver,e1, ?_,e3⟩
   rw [y00 (fun e=>by rw [e,b3] at e2;cases e2)]
   exact e2
 obtain ⟨fz',hfr⟩:=yqc b1' (decide (z<0)) fz0
 unfold sV zC zD
 simp only [go_sem,Fn.y1k,hloop,b2,b3,hfr]
end Go.Ev
namespace Go.Ev
open Go.Dig
theorem tmodT (x:Nat):((x:Int)).tmod 10000=((x%10000:Nat):Int):=by
 rw [show ((10000:Int))=((10000:Nat):Int) from rfl,←Int.ofNat_tmod]
theorem tdivT (x:Nat) (h:x<9223372036854775808):IntKind.i64.wrap ((x:Int).tdiv 10000)=((x / 10000:Nat):Int):=by
 rw [show ((10000:Int))=((10000:Nat):Int) from rfl,←Int.ofNat_tdiv]
 exact wi64 (by omega)
theorem yn5 (u c x y:Nat) (hu:u<10000) (hc:c<10000) (hx:x<10000) (hy:y<10000):∃s p t r q:Nat,IntKind.i64.wrap ((u:Int)+(c:Int))=(s:Int)∧IntKind.i64.wrap ((x:Int)*(y:Int))=(p:Int)∧IntKind.i64.wrap ((s:Int)+(p:Int))=(t:Int)∧((t:Int)).tmod 10000=(r:Int)∧IntKind.i64.wrap ((t:Int).tdiv 10000)=(q:Int)∧
  r<10000∧q<10000∧r+10000*q=u+c+x*y:=by
 have hp:x*y≤9999*9999:=Nat.mul_le_mul (by omega) (by omega)
 refine ⟨u+c,x*y,u+c+x*y,(u+c+x*y)%10000,(u+c+x*y) / 10000,addi64 _ _ (by omega), ?_,addi64 _ _ (by omega),tmodT _,tdivT _ (by omega),Nat.mod_lt _ (by decide),by omega,by omega⟩
 rw [←Int.natCast_mul]
 exact wi64 (by omega)
section
variable {F:Caller} {fuel:Nat} {ob:Nat→Option AObj} {fz:Nat→Nat} {nx:Nat}
theorem ybw {id T i x:Nat} (hfz:fz id=0) (ds es:List Nat) (hxi:ds[i]? =some x) (hT:T<2^60) (hx:x<BT) (he:∀d∈es,d<BT) (hi:i+es.length<T) (V:Nat):∀(m k:Nat),k+m=es.length→∀(o:List Nat) (c:Nat) (X:List (Nat×SV)),o.length=T→(∀d∈o,d<BT)→c<BT→o[i+es.length]? =some 0→
  val BT o+BT^(i+k)*c=V+BT^i*(x*val BT (es.take k))→∀N,m+1<N→∃(o':List Nat) (X':List (Nat×SV)),
  loopN (evC F fuel Fn.y3i) N ⟨env ((0,.one (.sl false (intE ds)))::(1,.one (.sl false (intE es)))::(5,.one (.rsl id 0 1 0 T false))::(6,.one (.int .i64 (i:Int)))::(7,.one (.int .i64 (c:Int)))::(8,.one (.int .i64 (k:Int)))::X),upd ob id (.row 1 (intE o) 0),fz,nx⟩=
   some (.ext 2,⟨env ((0,.one (.sl false (intE ds)))::(1,.one (.sl false (intE es)))::(5,.one (.rsl id 0 1 0 T false))::(6,.one (.int .i64 (i:Int)))::X'),upd ob id (.row 1 (intE o') 0),fz,nx⟩)∧
   o'.length=T∧(∀d∈o',d<BT)∧val BT o'=V+BT^i*(x*val BT es)∧∀j,i+es.length<j→o'[j]? =o[j]?
 | 0,k,hk,o,c,X,ho,hod,hc,hz,hinv,N,hN=>by
  have hk':k=es.length:=by omega
  subst hk'
  rw [List.take_length] at hinv
  obtain ⟨M,rfl⟩:∃M,N=M+2:=⟨N-2,by omega⟩
  have h1:(((es.length:Nat):Int)<((es.length:Nat):Int))=False:=by simp
  have h1':(((es.length+1:Nat):Int)<((es.length:Nat):Int))=False:=by simp only [eq_iff_iff,iff_false];omega
  by_cases hc0:c=0
  ·subst hc0
   have g:(((0:Nat):Int)>0)=False:=by simp
   refine ⟨o,[(7,.one (.int .i64 ((0:Nat):Int))),(8,.one (.int .i64 (es.length:Int))),(29,.one (.bool false))],y0j ?_,ho,hod,by rw [Nat.mul_zero,Nat.add_zero] at hinv;exact hinv,fun _ _=>rfl⟩
   simp only [go_sem,Fn.y3i,h1,g]
  ·have g:(((c:Nat):Int)>0)=True:=by simp;omega
   have g0:(((0:Nat):Int)>0)=False:=by simp
   have t0:((10000:Int)=0)=False:=by simp
   have wi:IntKind.i64.wrap ((i:Int)+(es.length:Int))=((i+es.length:Nat):Int):=addi64 _ _ (by omega)
   have ws:IntKind.i64.wrap (((0:Nat):Int)+(c:Int))=(c:Int):=by rw [addi64 _ _ (by unfold BT at hc;omega),Nat.zero_add]
   have wr:((c:Int)).tmod 10000=(c:Int):=by rw [tmodT,Nat.mod_eq_of_lt (show c<10000 from hc)]
   have wq:IntKind.i64.wrap ((c:Int).tdiv 10000)=((0:Nat):Int):=by rw [tdivT _ (by unfold BT at hc;omega),Nat.div_eq_of_lt (show c<10000 from hc)]
   have wk:IntKind.i64.wrap ((es.length+1:Nat):Int)=((es.length+1:Nat):Int):=wi64 (by omega)
   have hst:evC F fuel Fn.y3i ⟨env ((0,.one (.sl false (intE ds)))::(1,.one (.sl false (intE es)))::(5,.one (.rsl id 0 1 0 T false))::(6,.one (.int .i64 (i:Int)))::(7,.one (.int .i64 (c:Int)))::(8,.one (.int .i64 (es.length:Int)))::X),upd ob id (.row 1 (intE o) 0),fz,nx⟩=
     some (.nrm,⟨env [(0,.one (.sl false (intE ds))),(1,.one (.sl false (intE es))),(5,.one (.rsl id 0 1 0 T false)),(6,.one (.int .i64 (i:Int))),(7,.one (.int .i64 ((0:Nat):Int))),(8,.one (.int .i64 ((es.length+1:Nat):Int)))],upd ob id (.row 1 (intE (o.set (i+es.length) c)) 0),fz,nx⟩):=by
    simp only [go_sem,Fn.y3i,h1,g,wi,hi,hz,ws,wr,wq,t0,hfz,add1,wk]
   refine ⟨o.set (i+es.length) c,[(7,.one (.int .i64 ((0:Nat):Int))),(8,.one (.int .i64 ((es.length+1:Nat):Int))),(29,.one (.bool false))], ?_,by simp [ho], ?_, ?_, ?_⟩
   ·rw [y0l hst]
    refine y0j ?_
    simp only [go_sem,Fn.y3i,h1',g0]
   ·intro d hd
    rcases List.mem_or_eq_of_mem_set hd with h | h
    ·exact hod d h
    ·rw [h];exact hc
   ·have hset:=y8l BT o (i+es.length) c 0 hz
    rw [Nat.mul_zero,Nat.add_zero] at hset
    rw [hset,hinv]
   ·intro j hj
    rw [List.getElem?_set_ne (by omega)]
 | m+1,k,hk,o,c,X,ho,hod,hc,hz,hinv,N,hN=>by
  obtain ⟨M,rfl⟩:∃M,N=M+1:=⟨N-1,by omega⟩
  have hke:k<es.length:=by omega
  have hio:i+k<o.length:=by omega
  have hikT:i+k<T:=by omega
  have ge:es[k]? =some es[k]:=by simp
  have go':o[i+k]? =some o[i+k]:=by simp
  obtain ⟨s,p,t,r,q,s1,s2,s3,s4,s5,s6,s7,s8⟩:=yn5 o[i+k] c x es[k] (hod _ (by simp)) hc hx (he _ (by simp))
  have h1:(((k:Nat):Int)<((es.length:Nat):Int))=True:=by simp;omega
  have t0:((10000:Int)=0)=False:=by simp
  have wi:IntKind.i64.wrap ((i:Int)+(k:Int))=((i+k:Nat):Int):=addi64 _ _ (by omega)
  have wk:IntKind.i64.wrap ((k+1:Nat):Int)=((k+1:Nat):Int):=wi64 (by omega)
  have hst:evC F fuel Fn.y3i ⟨env ((0,.one (.sl false (intE ds)))::(1,.one (.sl false (intE es)))::(5,.one (.rsl id 0 1 0 T false))::(6,.one (.int .i64 (i:Int)))::(7,.one (.int .i64 (c:Int)))::(8,.one (.int .i64 (k:Int)))::X),upd ob id (.row 1 (intE o) 0),fz,nx⟩=
    some (.nrm,⟨env [(0,.one (.sl false (intE ds))),(1,.one (.sl false (intE es))),(5,.one (.rsl id 0 1 0 T false)),(6,.one (.int .i64 (i:Int))),(7,.one (.int .i64 (q:Int))),(8,.one (.int .i64 ((k+1:Nat):Int)))],upd ob id (.row 1 (intE (o.set (i+k) r)) 0),fz,nx⟩):=by
   simp only [go_sem,Fn.y3i,h1,wi,hikT,go',s1,hxi,ge,s2,s3,s4,s5,t0,hfz,add1,wk]
  have hset:=y8l BT o (i+k) r o[i+k] go'
  obtain ⟨o',X',hl,a1,a2,a3,a4⟩:=ybw hfz ds es hxi hT hx he hi V m (k+1) (by omega) (o.set (i+k) r) q [] (by simp [ho]) (by
   intro d hd
   rcases List.mem_or_eq_of_mem_set hd with h | h
   ·exact hod d h
   ·rw [h];exact s6) s7 (by rw [List.getElem?_set_ne (by omega)];exact hz) (by
   have te:es.take (k+1)=es.take k++[es[k]]:=by rw [List.take_add_one,ge];rfl
   rw [te,y0e,List.length_take,Nat.min_eq_left (by omega),←Nat.add_assoc,Nat.pow_succ,Nat.mul_add,Nat.mul_add]
   have e1:BT^(i+k)*r+BT^(i+k)*BT*q=BT^(i+k)*o[i+k]+BT^(i+k)*c+BT^(i+k)*(x*es[k]):=by
    rw [Nat.mul_assoc (BT^(i+k)) BT,←Nat.mul_add,←Nat.mul_add,←Nat.mul_add,show BT*q=10000*q from rfl,s8]
   have e2:BT^i*(x*(BT^k*es[k]))=BT^(i+k)*(x*es[k]):=by
    rw [Nat.pow_add,Nat.mul_left_comm x,←Nat.mul_assoc]
   rw [e2]
   omega) M (by omega)
  refine ⟨o',X',by rw [y0l hst];exact hl,a1,a2,a3,fun j hj=> ?_⟩
  rw [a4 j hj,List.getElem?_set_ne (by omega)]
theorem ybz {id T:Nat} (hfz:fz id=0) (ds es:List Nat) (hTe:T=ds.length+es.length) (hT:T<2^60) (hd:∀d∈ds,d<BT) (he:∀d∈es,d<BT) (hfuel:es.length+1<fuel):∀(m i:Nat),i+m=ds.length→∀(o:List Nat) (X:List (Nat×SV)),o.length=T→(∀d∈o,d<BT)→
  val BT o=val BT (ds.take i)*val BT es→(∀j,i+es.length≤j→j<T→o[j]? =some 0)→∀N,m<N→∃(o':List Nat) (X':List (Nat×SV)),
  loopN (evC F fuel Fn.y4q) N ⟨env ((0,.one (.sl false (intE ds)))::(1,.one (.sl false (intE es)))::(5,.one (.rsl id 0 1 0 T false))::(6,.one (.int .i64 (i:Int)))::X),upd ob id (.row 1 (intE o) 0),fz,nx⟩=
   some (.ext 0,⟨env ((0,.one (.sl false (intE ds)))::(1,.one (.sl false (intE es)))::(5,.one (.rsl id 0 1 0 T false))::X'),upd ob id (.row 1 (intE o') 0),fz,nx⟩)∧o'.length=T∧(∀d∈o',d<BT)∧val BT o'=val BT ds*val BT es
 | 0,i,hi,o,X,ho,hod,hinv,hz,N+1,hN=>by
  have hi':i=ds.length:=by omega
  subst hi'
  rw [List.take_length] at hinv
  refine ⟨o,[(6,.one (.int .i64 (ds.length:Int))),(19,.one (.bool false))],y0j ?_,ho,hod,hinv⟩
  have h1:(((ds.length:Nat):Int)<((ds.length:Nat):Int))=False:=by simp
  simp only [go_sem,Fn.y4q,h1]
 | m+1,i,hi,o,X,ho,hod,hinv,hz,N+1,hN=>by
  have hil:i<ds.length:=by omega
  have gd:ds[i]? =some ds[i]:=by simp
  obtain ⟨o1,X1,a1,a2,a3,a4,a5⟩:=ybw (F:=F) (fuel:=fuel) (ob:=ob) (nx:=nx) (id:=id) (T:=T) (i:=i) (x:=ds[i]) hfz ds es gd hT (hd _ (by simp)) he (by omega) (val BT o) es.length 0 (by omega) o 0 [] ho hod (by decide) (hz _ (Nat.le_refl _) (by omega)) (by simp [val]) fuel hfuel
  rw [show ((0:Nat):Int)=0 from rfl] at a1
  have h1:(((i:Nat):Int)<((ds.length:Nat):Int))=True:=by simp;omega
  have wk:IntKind.i64.wrap ((i+1:Nat):Int)=((i+1:Nat):Int):=wi64 (by omega)
  have hst:evC F fuel Fn.y4q ⟨env ((0,.one (.sl false (intE ds)))::(1,.one (.sl false (intE es)))::(5,.one (.rsl id 0 1 0 T false))::(6,.one (.int .i64 (i:Int)))::X),upd ob id (.row 1 (intE o) 0),fz,nx⟩=
    some (.nrm,⟨env [(0,.one (.sl false (intE ds))),(1,.one (.sl false (intE es))),(5,.one (.rsl id 0 1 0 T false)),(6,.one (.int .i64 ((i+1:Nat):Int)))],upd ob id (.row 1 (intE o1) 0),fz,nx⟩):=by
   simp only [go_sem,Fn.y4q,h1,a1,add1,wk]
  rw [y0l hst]
  refine ybz hfz ds es hTe hT hd he hfuel m (i+1) (by omega) o1 [] a2 a3 ?_ ?_ N (by omega)
  ·have td:ds.take (i+1)=ds.take i++[ds[i]]:=by rw [List.take_add_one,gd];rfl
   rw [td,y0e,List.length_take,Nat.min_eq_left (by omega),Nat.add_mul,←hinv,Nat.mul_assoc,a4]
  ·intro j hj hjT
   rw [a5 j (by omega)]
   exact hz j (by omega) hjT
end
theorem yfi (a b:Nat) (ha:dlen BT a<2^40) (hb:dlen BT b<2^40) {n:Nat} (hn:dlen BT a+dlen BT b+6≤n):evV E (n+1) Id.y2f [.one (zD a),.one (zD b)]=some (.one (zD (a*b))):=by
 rw [y04 yck]
 unfold dlen at ha hb hn
 have zrep:∀k,val BT (List.replicate k 0)=0:=by
  intro k
  induction k with
  | zero=>rfl
  | succ k ih=>rw [List.replicate_succ,val,ih,Nat.mul_zero]
 obtain ⟨o',X',hloop,h2,h3,h4⟩:=ybz (F:=evF E n) (fuel:=n) (ob:=ob0) (fz:=fz0) (nx:=7) (id:=5) (T:=(digs BT a).length+(digs BT b).length) rfl (digs BT a) (digs BT b) rfl (by omega) (y2d BT2 a) (y2d BT2 b) (by omega)
  (digs BT a).length 0 (by omega) (List.replicate ((digs BT a).length+(digs BT b).length) 0) [] (by simp) (fun d hd=>by rw [(List.mem_replicate.1 hd).2];decide) (by rw [zrep,List.take_zero,val,Nat.zero_mul]) (fun j _ hj=>by simp [hj]) n (by omega)
 rw [y1e BT2,y1e BT2] at h4
 rw [show ((0:Nat):Int)=0 from rfl] at hloop
 have hnr:=ybs (n:=n) (id:=5) (ver:=0) (full:=false) (ob:=upd ob0 5 (.row 1 (intE o') 0)) (fz:=fz0) o' (by rw [h2];omega) h3 (by rw [h2];omega) y3w
 rw [h4,h2] at hnr
 unfold zD at hnr
 have wl:IntKind.i64.wrap (((digs BT a).length+(digs BT b).length:Nat):Int)=(((digs BT a).length+(digs BT b).length:Nat):Int):=wi64 (by omega)
 have l2:(digs BT a).length+(digs BT b).length≤9223372036854775807:=by omega
 have l3:8*((digs BT a).length+(digs BT b).length)≤281474976710656:=by omega
 unfold zD
 simp only [go_sem,Fn.y2f,←Int.natCast_add,wl,l2,l3,ye9,hloop,hnr]
end Go.Ev
namespace Go.Ev
open Go.Dig
theorem ys0 {B:Nat} (hB:2≤B) (x fr:Nat) (hf:fr≤dlen B x):val B ((digs B x).drop fr)=x / B^fr:=by
 have h:=y9q B (digs B x) fr hf
 rw [y1e hB] at h
 have hl:=y4p hB ((digs B x).take fr) (fun d hd=>y2d hB x d (List.mem_of_mem_take hd))
 rw [List.length_take,Nat.min_eq_left (show fr≤(digs B x).length from hf)] at hl
 have hp:0<B^fr:=Nat.pow_pos (by omega)
 conv=>rhs;rw [h]
 rw [Nat.add_mul_div_left _ _ hp,Nat.div_eq_of_lt hl,Nat.zero_add]
theorem guess_le (R b w:Nat) (hb:0<b) (hw:0<w):R / w / (b / w+1)≤R / b:=by
 rw [Nat.le_div_iff_mul_le hb]
 have h1:b<(b / w+1)*w:=by
  have:=Nat.div_add_mod b w
  have h2:=Nat.mod_lt b hw
  rw [Nat.add_mul,Nat.one_mul,Nat.mul_comm]
  omega
 calc R / w / (b / w+1)*b≤R / w / (b / w+1)*((b / w+1)*w):=Nat.mul_le_mul_left _ (Nat.le_of_lt h1)
  _=R / w / (b / w+1)*(b / w+1)*w:=(Nat.mul_assoc _ _ _).symm
  _≤R / w*w:=Nat.mul_le_mul_right _ (Nat.div_mul_le_self _ _)
  _≤R:=Nat.div_mul_le_self _ _
section
variable {ob:Nat→Option AObj} {fz:Nat→Nat} {nx:Nat}
theorem ynd {n:Nat} (b:Nat) (hb:0<b) (x0 x7 x8:SV):∀(r k:Nat) (X:List (Nat×SV)),dlen BT r<2^40→dlen BT r+6≤n→k+r / b<100000→∀N,r / b<N→∃X',
  loopN (evC (evF E (n+1)) (n+1) Fn.y4l) N ⟨env ((0,x0)::(1,.one (zD b))::(6,.one (zD r))::(7,x7)::(8,x8)::(9,.one (.int .i64 (k:Int)))::X),ob,fz,nx⟩=
   some (.ext 2,⟨env ((0,x0)::(1,.one (zD b))::(6,.one (zD (r%b)))::(7,x7)::(8,x8)::(9,.one (.int .i64 ((k+r / b:Nat):Int)))::X'),ob,fz,nx⟩):=by
 intro r
 induction r using Nat.strongRecOn with
 | _ r ih=>
  intro k X hd hn hk N hN
  obtain ⟨M,rfl⟩:∃M,N=M+1:=⟨N-1,(Nat.sub_add_cancel (Nat.lt_of_le_of_lt (Nat.zero_le _) hN)).symm⟩
  have habs:=y02 (yrs r b (by omega) (n:=n) (by omega)) (can2 (y4d _) (y4d _)) ob fz
  by_cases hlt:r<b
  ·have hc:(cmpI r b≥0)=False:=by
    simp only [cmpI,if_pos hlt,eq_iff_iff,iff_false];decide
   refine ⟨[(63,.one (.bool false))],y0j ?_⟩
   rw [Nat.mod_eq_of_lt hlt,Nat.div_eq_of_lt hlt,Nat.add_zero]
   simp only [go_sem,Fn.y4l,habs,hc]
  ·have hle:b≤r:=by omega
   have hc:(cmpI r b≥0)=True:=by
    simp only [cmpI,if_neg hlt,eq_iff_iff,iff_true]
    split<;>decide
   have hmin:=y02 (ygb r b hle hd (n:=n) (by omega)) (can2 (y4d _) (y4d _)) ob fz
   have e1:r / b=(r-b) / b+1:=Nat.div_eq_sub_div hb hle
   have e2:r%b=(r-b)%b:=Nat.mod_eq_sub_mod hle
   obtain ⟨q,hq⟩:∃q,q=(r-b) / b:=⟨_,rfl⟩
   rw [e1,←hq] at hk hN
   have wk:IntKind.i64.wrap ((k+1:Nat):Int)=((k+1:Nat):Int):=wi64 (by omega)
   have hst:evC (evF E (n+1)) (n+1) Fn.y4l ⟨env ((0,x0)::(1,.one (zD b))::(6,.one (zD r))::(7,x7)::(8,x8)::(9,.one (.int .i64 (k:Int)))::X),ob,fz,nx⟩=
     some (.nrm,⟨env [(0,x0),(1,.one (zD b)),(6,.one (zD (r-b))),(7,x7),(8,x8),(9,.one (.int .i64 ((k+1:Nat):Int)))],ob,fz,nx⟩):=by
    simp only [go_sem,Fn.y4l,habs,hc,hmin,add1,wk]
   have hdl:dlen BT (r-b)≤dlen BT r:=y51 BT2 (Nat.sub_le _ _)
   obtain ⟨X',h⟩:=ih (r-b) (by omega) (k+1) [] (by omega) (by omega) (by rw [←hq];omega) M (by rw [←hq];omega)
   refine ⟨X', ?_⟩
   rw [y0l hst,h,e1,e2,←hq,show k+1+q=k+(q+1) by omega]
end
def oA:ACode:=match Fn.y0k with | .seq a _=>a | _=>.skip
def oB:ACode:=match Fn.y0k with | .seq _ (.seq (.block _ (.seq b _)) _)=>b | _=>.skip
def oC:ACode:=match Fn.y0k with | .seq _ (.seq (.block _ (.seq _ (.seq c _))) _)=>c | _=>.skip
def oG:ACode:=match Fn.y0k with | .seq _ (.seq (.block _ (.seq _ (.seq _ (.seq g _)))) _)=>g | _=>.skip
def oM:ACode:=match Fn.y0k with | .seq _ (.seq (.block _ (.seq _ (.seq _ (.seq _ (.seq m _))))) _)=>m | _=>.skip
def oS:ACode:=match Fn.y0k with | .seq _ (.seq (.block _ (.seq _ (.seq _ (.seq _ (.seq _ (.seq _ s)))))) _)=>s | _=>.skip
def oI:ACode:=match Fn.y0k with | .seq _ (.seq _ i)=>i | _=>.skip
theorem yfh:Fn.y0k=.seq oA (.seq (.block 1 (.seq oB (.seq oC (.seq oG (.seq oM (.seq (.block 2 (.loop Fn.y4l)) oS)))))) oI):=rfl
theorem ymz (n R b:Nat) (hb:0<b) (hRq:R / b<BT) (hRl:dlen BT R≤dlen BT b+1) (hbl:dlen BT b<2^39) (hn:2*dlen BT b+200000≤n):∃k:Nat,k≤R / b∧∀(ob:Nat→Option AObj) (fz:Nat→Nat) (nx:Nat) (X:List (Nat×SV)) (x0 x7 x8:SV),∃X2,evC (evF E (n+1)) (n+1) oG
  ⟨env ((0,x0)::(1,.one (zD b))::(6,.one (zD R))::(7,x7)::(8,x8)::(9,.one (.int .i64 0))::X),ob,fz,nx⟩=some (.nrm,⟨env ((0,x0)::(1,.one (zD b))::(6,.one (zD R))::(7,x7)::(8,x8)::(9,.one (.int .i64 (k:Int)))::X2),ob,fz,nx⟩):=by
 unfold oG Fn.y0k
 by_cases h3:dlen BT b≤3
 ·refine ⟨R / b,Nat.le_refl _,fun ob fz nx X x0 x7 x8=>⟨[], ?_⟩⟩
  have t1:=y02 (yd1 R 0 (by omega) (Nat.zero_le _) (by omega) (n:=n) (by omega)) (can2 (y4d _) (y30 _ _)) ob fz
  have t2:=y02 (yd1 b 0 (by omega) (Nat.zero_le _) (by omega) (n:=n) (by omega)) (can2 (y4d _) (y30 _ _)) ob fz
  rw [List.drop_zero,y1e BT2,show ((0:Nat):Int)=0 from rfl] at t1 t2
  have hb4:(((digs BT b).length:Int)≤3)=True:=by simp only [eq_iff_iff,iff_true];unfold dlen at h3;omega
  have hb0:(((b:Nat):Int)=0)=False:=by simp only [eq_iff_iff,iff_false];omega
  have wq:IntKind.i64.wrap (((R:Nat):Int).tdiv (b:Int))=((R / b:Nat):Int):=by
   rw [←Int.ofNat_tdiv];exact wi64 (by unfold BT at hRq;omega)
  unfold zD at t1 t2 ⊢
  simp only [go_sem,hb4,t1,t2,hb0,wq]
 ·have hb4:(((digs BT b).length:Int)≤3)=False:=by simp only [eq_iff_iff,iff_false];unfold dlen at h3;omega
  by_cases hge:dlen BT b≤dlen BT R
  ·obtain ⟨w,hw⟩:∃w,w=BT^(dlen BT b-3):=⟨_,rfl⟩
   have hwp:0<w:=by rw [hw];exact Nat.pow_pos (by decide)
   refine ⟨R / w / (b / w+1),guess_le R b w hb hwp,fun ob fz nx X x0 x7 x8=>⟨[], ?_⟩⟩
   have t1:=y02 (yd1 R (dlen BT b-3) (by omega) (by omega) (by omega) (n:=n) (by omega)) (can2 (y4d _) (y30 _ _)) ob fz
   have t2:=y02 (yd1 b (dlen BT b-3) (by omega) (by omega) (by omega) (n:=n) (by omega)) (can2 (y4d _) (y30 _ _)) ob fz
   rw [ys0 BT2 _ _ (by omega),←hw] at t1 t2
   have hbw:b / w<1000000000000:=by
    have h1:=y5y BT2 b
    refine Nat.div_lt_of_lt_mul (Nat.lt_of_lt_of_le h1 ?_)
    rw [hw,show dlen BT b=dlen BT b-3+3 by omega,Nat.pow_add,show dlen BT b-3+3-3=dlen BT b-3 by omega]
    exact Nat.mul_le_mul_left _ (by decide)
   have hgl:(((digs BT R).length:Int)≥((digs BT b).length:Int))=True:=by simp only [ge_iff_le,eq_iff_iff,iff_true];unfold dlen at hge;omega
   have w3:IntKind.i64.wrap (((digs BT b).length:Int)-3)=((dlen BT b-3:Nat):Int):=by rw [wrap_i64 (by unfold dlen at hbl;omega)];unfold dlen at h3 ⊢;omega
   have w4:IntKind.i64.wrap ((b / w+1:Nat):Int)=((b / w+1:Nat):Int):=wi64 (Nat.lt_of_le_of_lt (Nat.succ_le_of_lt hbw) (by decide))
   have hb0:(((b / w+1:Nat):Int)=0)=False:=by simp only [eq_iff_iff,iff_false];exact Int.natCast_ne_zero.2 (Nat.succ_ne_zero _)
   have hgk:=guess_le R b w hb hwp
   have wq:IntKind.i64.wrap (((R / w:Nat):Int).tdiv ((b / w+1:Nat):Int))=((R / w / (b / w+1):Nat):Int):=by
    rw [←Int.ofNat_tdiv];exact wi64 (Nat.lt_of_le_of_lt hgk (Nat.lt_trans hRq (by decide)))
   generalize dlen BT b-3=fr at t1 t2 w3
   generalize R / w / (b / w+1)=kk at wq ⊢
   generalize R / w=rw' at t1 wq
   generalize b / w=bw at t2 w4 hb0 wq
   unfold zD at t1 t2 ⊢
   simp only [go_sem,hb4,hgl,w3,t1,t2,add1,w4,hb0,wq]
  ·refine ⟨0,Nat.zero_le _,fun ob fz nx X x0 x7 x8=>⟨[(40,.one (.bool false))], ?_⟩⟩
   have hgl:(((digs BT R).length:Int)≥((digs BT b).length:Int))=False:=by simp only [ge_iff_le,eq_iff_iff,iff_false];unfold dlen at hge;omega
   have z0:((0:Nat):Int)=0:=rfl
   unfold zD
   simp only [go_sem,hb4,hgl,z0]
def RestIs (x:SV) (r:Nat):Prop:=x=.one (zD r)∨(r=0∧x=.one .nils)
section
variable {ob:Nat→Option AObj} {fz:Nat→Nat} {nx:Nat}
theorem ysp {n:Nat} {i:Nat} (us:List Nat) (b rest d R:Nat) (hR:R=d+BT*rest) (hd:d<BT) (x1 x7 xr:SV) (hxr:RestIs xr rest) (gu:us[i]? =some d) (hrl:dlen BT rest<2^39) (hn:dlen BT rest+10≤n) (X:List (Nat×SV)):
  ∃(ob':Nat→Option AObj) (fz':Nat→Nat),(∀id,id<nx→ob' id=ob id)∧(∀id,id<nx→fz' id=fz id)∧evC (evF E (n+1)) (n+1) oB ⟨env ((0,.one (.sl false (intE us)))::(1,x1)::(6,xr)::(7,x7)::(8,.one (.int .i64 (i:Int)))::X),ob,fz,nx⟩=
   some (.nrm,⟨env [(0,.one (.sl false (intE us))),(1,x1),(6,.one (zD R)),(7,x7),(8,.one (.int .i64 (i:Int)))],ob',fz',nx+9⟩):=by
 have hcd:∀x∈d::digs BT rest,x<BT:=by
  intro x hx
  rcases List.mem_cons.1 hx with rfl | h
  ·exact hd
  ·exact y2d BT2 rest x h
 have hkp:(((i:Nat):Int)≥0)=True:=by simp
 have hob:∀(y:AObj) id,id<nx→upd ob (nx+4) y id=ob id:=fun y id h=>y00 (by omega)
 have hfz:∀m id,id<nx→raise fz (nx+4) m id=fz id:=fun m id h=>y91 (by omega)
 have hval:val BT ([d]++digs BT rest)=R:=by rw [hR];show d+BT*val BT (digs BT rest)=_;rw [y1e BT2]
 have ht:=fun ob fz v h=>ybs (n:=n+1) (id:=nx+4) (ver:=v) (full:=false) (ob:=ob) (fz:=fz) ([d]++digs BT rest) (by unfold dlen at hrl;simp;omega) hcd (by unfold dlen at hn;simp;omega) h
 rw [hval] at ht
 have key:∃v x,(xr=.one x∧x=v)∧(v=.nils∧digs BT rest=[]∨v=.sl false (intE (digs BT rest))):=by
  rcases hxr with rfl | ⟨rfl,rfl⟩
  ·exact ⟨_,_,⟨rfl,rfl⟩,.inr rfl⟩
  ·exact ⟨_,_,⟨rfl,rfl⟩,.inl ⟨rfl,digs_zero _⟩⟩
 obtain ⟨v,_,⟨rfl,rfl⟩,hv⟩:=key
 unfold oB Fn.y0k
 unfold dlen at hrl hn
 generalize digs BT rest=ds at*
 have e1:[[AV.int .i64 (d:Int)]]=intE [d]:=rfl
 rcases ds with _ | ⟨e,es⟩
 ·have e2:intE []=[]:=rfl
  have ht:=fun ob fz h=>ht ob fz 0 h
  simp only [List.append_nil] at ht
  rcases hv with ⟨rfl,_⟩ | rfl
  ·refine ⟨upd ob (nx+4) (.row 1 [[AV.int .i64 (d:Int)]] 0),raise fz (nx+4) 1,hob _,hfz _, ?_⟩
   have ht:=ht (upd ob (nx+4) (.row 1 [[AV.int .i64 (d:Int)]] 0)) fz y3w
   simp only [List.length_cons,List.length_nil,Nat.zero_add] at ht
   simp only [go_sem,gu,hkp,ht]
  ·refine ⟨upd ob (nx+4) (.row 1 [[AV.int .i64 (d:Int)]] 0),raise fz (nx+4) 1,hob _,hfz _, ?_⟩
   have ht:=ht (upd ob (nx+4) (.row 1 [[AV.int .i64 (d:Int)]] 0)) fz y3w
   simp only [List.length_cons,List.length_nil,Nat.zero_add] at ht
   simp only [go_sem,gu,hkp,e2,show okSz 1 ([]:List (List AV))=true from rfl,ht]
 ·rcases hv with ⟨_,h⟩ | rfl
  ·exact absurd h (by simp)
  ·have e2:intE (e::es)=[AV.int .i64 (e:Int)]::intE es:=rfl
   have hl8:(1+(es.length+1))*8≤140737488355328:=by simp only [List.length_cons] at hrl;omega
   refine ⟨upd ob (nx+4) (.row 1 ([AV.int .i64 (d:Int)]::[AV.int .i64 (e:Int)]::intE es) 1),raise fz (nx+4) (1+(es.length+1)),hob _,hfz _, ?_⟩
   have ht:=ht (upd ob (nx+4) (.row 1 ([AV.int .i64 (d:Int)]::[AV.int .i64 (e:Int)]::intE es) 1)) fz 1 y3w
   rw [show ([d]++e::es).length=1+(es.length+1) by simp;omega] at ht
   simp only [go_sem,gu,hkp,e2,show okSz 1 ([AV.int .i64 (e:Int)]::intE es)=true from rfl,hl8,ROOM,ht]
theorem yrk {n:Nat} (b R k:Nat) (hk:k≤R / b) (hb:0<b) (hkl:R / b<BT) (hbl:dlen BT b<2^39) (hRl:dlen BT R≤dlen BT b+1) (hn:2*dlen BT b+200000≤n) (x0 x7 x8:SV) (X:List (Nat×SV)):∃X',
  evC (evF E (n+1)) (n+1) oM ⟨env ((0,x0)::(1,.one (zD b))::(6,.one (zD R))::(7,x7)::(8,x8)::(9,.one (.int .i64 (k:Int)))::X),ob,fz,nx⟩=
   some (.nrm,⟨env ((0,x0)::(1,.one (zD b))::(6,.one (zD (R-b*k)))::(7,x7)::(8,x8)::(9,.one (.int .i64 (k:Int)))::X'),ob,fz,nx⟩):=by
 have hkB:k<BT:=Nat.lt_of_le_of_lt hk hkl
 have hz:=y02 (ybb (k:Int) (by omega) (by unfold BT at hkB;omega) (n:=n) (by omega)) (can1 (y30 _ _)) ob fz
 have hbk:b*k≤R:=by
  have:=Nat.mul_div_le R b
  exact Nat.le_trans (Nat.mul_le_mul_left _ hk) this
 have hkd:dlen BT k≤1:=y5r BT2 (by rw [Nat.pow_one];exact hkB)
 have ht:=y02 (yfi b k (by omega) (by omega) (n:=n) (by omega)) (can2 (y4d _) (y4d _)) ob fz
 have hm:=y02 (ygb R (b*k) hbk (by omega) (n:=n) (by omega)) (can2 (y4d _) (y4d _)) ob fz
 refine ⟨[], ?_⟩
 unfold oM Fn.y0k
 have e:sV (k:Int)=.agg [.bool false,zD k]:=by
  have h0:decide ((k:Int)<0)=false:=by simp
  simp only [sV,zC,h0,Int.natAbs_natCast]
 rw [e] at hz
 simp only [go_sem,hz,ht,hm]
end
end Go.Ev
namespace Go.Ev
open Go.Dig
section
variable {ob:Nat→Option AObj} {fz:Nat→Nat} {nx:Nat}
theorem ynh {n:Nat} {idq i:Nat} (us qs:List Nat) (b rest d:Nat) (hb:0<b) (hrest:rest<b) (xr:SV) (hxr:RestIs xr rest) (hi:i<us.length) (hqs:qs.length=us.length) (hs:us.length<2^39) (gu:us[i]? =some d) (hd:d<BT) (hbl:dlen BT b<2^38) (hidq:idq<nx) (hfq:fz idq=0) (hq:ob idq=some (.row 1 (intE qs) 0)) (hn:2*dlen BT b+200000≤n) (X:List (Nat×SV)):
  ∃(ob':Nat→Option AObj) (fz':Nat→Nat) (X':List (Nat×SV)),evC (evF E (n+1)) (n+1) Fn.y0k ⟨env ((0,.one (.sl false (intE us)))::(1,.one (zD b))::(6,xr)::(7,.one (.rsl idq 0 1 0 us.length false))::(8,.one (.int .i64 (i:Int)))::X),ob,fz,nx⟩=
   some (.nrm,⟨env ((0,.one (.sl false (intE us)))::(1,.one (zD b))::(6,.one (zD ((d+BT*rest)%b)))::(7,.one (.rsl idq 0 1 0 us.length false))::(8,.one (.int .i64 ((i:Int)-1)))::X'),ob',fz',nx+9⟩)∧fz' idq=0∧ob' idq=some (.row 1 (intE (qs.set i ((d+BT*rest) / b))) 0)∧(d+BT*rest) / b<BT:=by
 obtain ⟨R,hR⟩:∃R,R=d+BT*rest:=⟨_,rfl⟩
 rw [←hR]
 have hRb:R<BT*b:=by
  have:BT*rest+BT≤BT*b:=by rw [←Nat.mul_succ];exact Nat.mul_le_mul_left _ hrest
  omega
 have hRq:R / b<BT:=Nat.div_lt_of_lt_mul (by rw [Nat.mul_comm];exact hRb)
 have hRl:dlen BT R≤dlen BT b+1:=by
  refine y5r BT2 (Nat.lt_of_lt_of_le hRb ?_)
  rw [Nat.pow_succ,Nat.mul_comm]
  exact Nat.mul_le_mul_right _ (Nat.le_of_lt (y5y BT2 b))
 have hrl:dlen BT rest≤dlen BT b:=y51 BT2 (Nat.le_of_lt hrest)
 have hkp:(((i:Nat):Int)≥0)=True:=by simp
 have wi:IntKind.i64.wrap ((i:Int)-1)=(i:Int)-1:=wrap_i64 (by omega)
 obtain ⟨k,hk,hG⟩:=ymz n R b hb hRq hRl (by omega) hn
 obtain ⟨ob',fz',hob,hfz,hB⟩:=ysp (ob:=ob) (fz:=fz) (nx:=nx) (n:=n) (i:=i) us b rest d R hR hd (.one (zD b)) (.one (.rsl idq 0 1 0 us.length false)) xr hxr gu (by omega) (by omega) [(17,.one (.bool true))]
 obtain ⟨X2,hG⟩:=hG ob' fz' (nx+9) [] (.one (.sl false (intE us))) (.one (.rsl idq 0 1 0 us.length false)) (.one (.int .i64 (i:Int)))
 obtain ⟨X3,hM⟩:=yrk (ob:=ob') (fz:=fz') (nx:=nx+9) b R k hk hb hRq (by omega) hRl hn (.one (.sl false (intE us))) (.one (.rsl idq 0 1 0 us.length false)) (.one (.int .i64 (i:Int))) X2
 have hbk:b*k≤R:=Nat.le_trans (Nat.mul_le_mul_left _ hk) (Nat.mul_div_le R b)
 have hdm:R=b*k+(R-b*k):=by omega
 have hq1:k+(R-b*k) / b=R / b:=by
  have h1:(R-b*k) / b=R / b-k:=Nat.sub_mul_div R b k
  rw [h1];exact Nat.add_sub_cancel' hk
 have hr1:(R-b*k)%b=R%b:=by
  have h1:(b*k+(R-b*k))%b=(R-b*k)%b:=Nat.mul_add_mod _ _ _
  rw [←hdm] at h1;exact h1.symm
 have hk2:k+(R-b*k) / b<100000:=by rw [hq1];exact Nat.lt_trans hRq (by decide)
 obtain ⟨X4,hL⟩:=ynd (ob:=ob') (fz:=fz') (nx:=nx+9) (n:=n) b hb (.one (.sl false (intE us))) (.one (.rsl idq 0 1 0 us.length false)) (.one (.int .i64 (i:Int))) (R-b*k) k X3 (Nat.lt_of_le_of_lt (y51 BT2 (Nat.sub_le _ _)) (by omega)) (Nat.le_trans (Nat.add_le_add_right (y51 BT2 (Nat.sub_le R (b*k))) _) (by omega)) hk2 (n+1) (Nat.lt_of_le_of_lt (Nat.le_trans (Nat.le_add_left _ k) (Nat.le_of_lt hk2)) (by omega))
 rw [hq1,hr1] at hL
 have hq':ob' idq=some (.row 1 (intE qs) 0):=by rw [hob _ hidq];exact hq
 have hf':fz' idq=0:=by rw [hfz _ hidq];exact hfq
 have hrw:rowAt ob' idq 0=some (1,intE qs):=y5x hq'
 refine ⟨upd ob' idq (.row 1 (intE (qs.set i (R / b))) 0),fz',[], ?_,hf',upd_same _ _ _,hRq⟩
 rw [yfh]
 have hA:evC (evF E (n+1)) (n+1) oA ⟨env ((0,.one (.sl false (intE us)))::(1,.one (zD b))::(6,xr)::(7,.one (.rsl idq 0 1 0 us.length false))::(8,.one (.int .i64 (i:Int)))::X),ob,fz,nx⟩=
   some (.nrm,⟨env [(0,.one (.sl false (intE us))),(1,.one (zD b)),(6,xr),(7,.one (.rsl idq 0 1 0 us.length false)),(8,.one (.int .i64 (i:Int))),(17,.one (.bool true))],ob,fz,nx⟩):=by
  unfold oA Fn.y0k
  simp only [go_sem,hkp]
 have hC:evC (evF E (n+1)) (n+1) oC ⟨env [(0,.one (.sl false (intE us))),(1,.one (zD b)),(6,.one (zD R)),(7,.one (.rsl idq 0 1 0 us.length false)),(8,.one (.int .i64 (i:Int)))],ob',fz',nx+9⟩=
   some (.nrm,⟨env [(0,.one (.sl false (intE us))),(1,.one (zD b)),(6,.one (zD R)),(7,.one (.rsl idq 0 1 0 us.length false)),(8,.one (.int .i64 (i:Int))),(9,.one (.int .i64 0))],ob',fz',nx+9⟩):=by
  unfold oC Fn.y0k
  simp only [go_sem]
 have hS:evC (evF E (n+1)) (n+1) oS ⟨env ((0,.one (.sl false (intE us)))::(1,.one (zD b))::(6,.one (zD (R%b)))::(7,.one (.rsl idq 0 1 0 us.length false))::(8,.one (.int .i64 (i:Int)))::(9,.one (.int .i64 ((R / b:Nat):Int)))::X4),ob',fz',nx+9⟩=
   some (.nrm,⟨env [(0,.one (.sl false (intE us))),(1,.one (zD b)),(6,.one (zD (R%b))),(7,.one (.rsl idq 0 1 0 us.length false)),(8,.one (.int .i64 (i:Int)))],upd ob' idq (.row 1 (intE (qs.set i (R / b))) 0),fz',nx+9⟩):=by
  unfold oS Fn.y0k
  have hiq:i<qs.length:=by omega
  have gq:qs[i]? =some qs[i]:=by simp
  generalize qs[i]=qi at gq
  simp only [go_sem,hi,hrw,hq',hf',gq]
 have hI:evC (evF E (n+1)) (n+1) oI ⟨env [(0,.one (.sl false (intE us))),(1,.one (zD b)),(6,.one (zD (R%b))),(7,.one (.rsl idq 0 1 0 us.length false)),(8,.one (.int .i64 (i:Int)))],upd ob' idq (.row 1 (intE (qs.set i (R / b))) 0),fz',nx+9⟩=
   some (.nrm,⟨env [(0,.one (.sl false (intE us))),(1,.one (zD b)),(6,.one (zD (R%b))),(7,.one (.rsl idq 0 1 0 us.length false)),(8,.one (.int .i64 ((i:Int)-1)))],upd ob' idq (.row 1 (intE (qs.set i (R / b))) 0),fz',nx+9⟩):=by
  unfold oI Fn.y0k
  simp only [go_sem,wi]
 simp only [x_seq,hA,y7b,ygq,hB,hC,hG,hM,ykq,hL,y7l,ykc,hS,hI,go_sem]
theorem yh9 {n:Nat} {idq:Nat} (us:List Nat) (b:Nat) (hb:0<b) (hs:us.length<2^39) (hus:∀d∈us,d<BT) (hbl:dlen BT b<2^38) (hn:2*dlen BT b+200000≤n):∀(m:Nat),m≤us.length→∀(ob:Nat→Option AObj) (fz:Nat→Nat) (nx:Nat) (qs:List Nat) (rest:Nat) (xr:SV) (X:List (Nat×SV)),idq<nx→fz idq=0→ob idq=some (.row 1 (intE qs) 0)→qs.length=us.length→(∀d∈qs,d<BT)→rest<b→RestIs xr rest→val BT (qs.drop m)*b+rest=val BT (us.drop m)→∀N,m<N→
  ∃(ob':Nat→Option AObj) (fz':Nat→Nat) (nx':Nat) (qs':List Nat) (rest':Nat) (xr':SV) (X':List (Nat×SV)),loopN (evC (evF E (n+1)) (n+1) Fn.y0k) N ⟨env ((0,.one (.sl false (intE us)))::(1,.one (zD b))::(6,xr)::(7,.one (.rsl idq 0 1 0 us.length false))::(8,.one (.int .i64 ((m:Int)-1)))::X),ob,fz,nx⟩=
   some (.ext 0,⟨env ((0,.one (.sl false (intE us)))::(1,.one (zD b))::(6,xr')::(7,.one (.rsl idq 0 1 0 us.length false))::X'),ob',fz',nx'⟩)∧fz' idq=0∧ob' idq=some (.row 1 (intE qs') 0)∧qs'.length=us.length∧(∀d∈qs',d<BT)∧rest'<b∧RestIs xr' rest'∧val BT qs'*b+rest'=val BT us
 | 0,_,ob,fz,nx,qs,rest,xr,X,h1,h2,h3,h4,h5,h6,h7,h8,N+1,_=>by
  refine ⟨ob,fz,nx,qs,rest,xr,[(8,.one (.int .i64 (-1))),(17,.one (.bool false))],y0j ?_,h2,h3,h4,h5,h6,h7,by simpa using h8⟩
  have e:(((0:Nat):Int)-1)=-1:=rfl
  have g:((-1:Int)≥0)=False:=by simp
  rw [yfh]
  unfold oA Fn.y0k
  simp only [go_sem,e,g]
 | m+1,hm,ob,fz,nx,qs,rest,xr,X,h1,h2,h3,h4,h5,h6,h7,h8,N+1,hN=>by
  have gu:us[m]? =some us[m]:=by simp
  have hd:us[m]<BT:=hus _ (by simp)
  have e:((m+1:Nat):Int)-1=(m:Int):=by omega
  obtain ⟨ob',fz',X',hr,a1,a2,a3⟩:=ynh (n:=n) us qs b rest us[m] hb h6 xr h7 (by omega) h4 hs gu hd hbl h1 h2 h3 hn X
  rw [e,y0l hr]
  refine yh9 us b hb hs hus hbl hn m (by omega) ob' fz' (nx+9) _ _ _ X' (by omega) a1 a2 (by simp [h4]) ?_ (Nat.mod_lt _ hb) (.inl rfl) ?_ N (by omega)
  ·intro d hd
   rcases List.mem_or_eq_of_mem_set hd with h | h
   ·exact h5 d h
   ·rw [h];exact a3
  ·have hmq:m<(qs.set m ((us[m]+BT*rest) / b)).length:=by simp;omega
   rw [List.drop_eq_getElem_cons hmq,List.drop_eq_getElem_cons (show m<us.length by omega)]
   have e1:(qs.set m ((us[m]+BT*rest) / b))[m]=(us[m]+BT*rest) / b:=by simp
   rw [e1,List.drop_set_of_lt (by omega),val,val,←h8]
   have hdm:=Nat.div_add_mod (us[m]+BT*rest) b
   generalize (us[m]+BT*rest) / b=q at*
   generalize (us[m]+BT*rest)%b=r at*
   rw [Nat.add_mul,Nat.mul_add,Nat.mul_assoc,Nat.mul_comm q b]
   omega
end
theorem ycm (a b:Nat) (hb:0<b) (ha:dlen BT a<2^38) (hbl:dlen BT b<2^38) {n:Nat} (hn:dlen BT a+2*dlen BT b+200001≤n):evV E (n+1) Id.y1u [.one (zD a),.one (zD b)]=some (.tup [.one (zD (a / b)),.one (zD (a%b))]):=by
 obtain ⟨n,rfl⟩:∃k,n=k+1:=⟨n-1,by omega⟩
 rw [y04 ydf]
 have hal:(digs BT a).length=dlen BT a:=rfl
 obtain ⟨ob',fz',nx',qs',rest',xr',X',hloop,h2,h3,h4,h5,h6,h7,h8⟩:=yh9 (n:=n) (idq:=2) (digs BT a) b hb (by omega) (y2d BT2 a) hbl (by omega) (digs BT a).length (Nat.le_refl _) (upd ob0 2 (.row 1 (intE (List.replicate (digs BT a).length 0)) 0)) fz0 4 (List.replicate (digs BT a).length 0) 0 (.one .nils) [] (by omega) rfl (upd_same _ _ _) (by simp) (fun d hd=>by rw [(List.mem_replicate.1 hd).2];decide) hb (.inr ⟨rfl,rfl⟩) (by simp [val]) (n+1) (by omega)
 rw [y1e BT2] at h8
 have hq:val BT qs'=a / b:=by
  rw [←h8,Nat.mul_comm,Nat.mul_add_div hb,Nat.div_eq_of_lt h6,Nat.add_zero]
 have hr:rest'=a%b:=by
  rw [←h8,Nat.mul_comm,Nat.mul_add_mod,Nat.mod_eq_of_lt h6]
 have hnr:=ybs (n:=n+1) (id:=2) (ver:=0) (full:=false) (ob:=ob') (fz:=fz') qs' (by rw [h4];omega) h5 (by rw [h4];omega) (y5x h3)
 rw [h4,hq] at hnr
 have wl:IntKind.i64.wrap (((digs BT a).length:Int)-1)=((digs BT a).length:Int)-1:=wrap_i64 (by omega)
 have l2:(digs BT a).length≤9223372036854775807:=by omega
 have l3:8*(digs BT a).length≤281474976710656:=by omega
 unfold zD at hnr hloop ⊢
 rcases h7 with rfl | ⟨rfl,rfl⟩
 ·rw [hr] at hloop
  unfold zD at hloop
  simp only [go_sem,Fn.y1u,wl,l2,l3,ye9,hloop,hnr]
 ·rw [←hr,digs_zero]
  have e0:intE []=[]:=rfl
  simp only [go_sem,Fn.y1u,wl,l2,l3,ye9,hloop,hnr,e0]
end Go.Ev
namespace Go.Ev
open Go.Dig
section
variable {F:Caller} {fuel:Nat} {fz:Nat→Nat} {ob:Nat→Option AObj} {nx:Nat}
theorem ydl {id:Nat} {sg:AV} (ds:List Nat) (hl:ds.length≤4) (hd:∀d∈ds,d<BT) (hob:ob id=some (.box [sg,.sl false (intE ds)])):∀(k:Nat),k≤ds.length→∀(X:List (Nat×SV)) (N:Nat),k<N→∃X',
  loopN (evC F fuel Fn.y5q) N ⟨env ((1,.one (.box id 0))::(4,.one (.int .i64 (val BT (ds.drop k):Int)))::(5,.one (.int .i64 ((k:Int)-1)))::X),ob,fz,nx⟩=
   some (.ext 0,⟨env ((1,.one (.box id 0))::(4,.one (.int .i64 (val BT ds:Int)))::X'),ob,fz,nx⟩)
 | 0,hk,X,N+1,hN=>by
  have h1:((-1:Int)≥0)=False:=by simp
  have e:(((0:Nat):Int)-1)=-1:=rfl
  refine ⟨[(5,.one (.int .i64 (-1))),(15,.one (.bool false))],y0j ?_⟩
  rw [List.drop_zero,e]
  simp only [go_sem,Fn.y5q,h1]
 | j+1,hk,X,N+1,hN=>by
  have h0:(((j+1:Nat):Int)-1)=(j:Nat):=by omega
  have h1:(((j:Nat):Int)≥0)=True:=by simp
  have hjl:j<ds.length:=by omega
  have gd:ds[j]? =some ds[j]:=by simp
  have e:ds.drop j=ds[j]::ds.drop (j+1):=List.drop_eq_getElem_cons hjl
  have hb:val BT (ds.drop j)<10000000000000000:=by
   have h2:=y4p BT2 (ds.drop j) (fun d h=>hd d (List.mem_of_mem_drop h))
   have h3:BT^(ds.drop j).length≤BT^4:=Nat.pow_le_pow_right (by decide) (by simp;omega)
   exact Nat.lt_of_lt_of_le h2 (Nat.le_trans h3 (by decide))
  have hv:val BT (ds.drop j)=ds[j]+10000*val BT (ds.drop (j+1)):=by rw [e];rfl
  rw [hv] at hb
  have wm:IntKind.i64.wrap ((val BT (ds.drop (j+1)):Int)*10000)=((val BT (ds.drop (j+1))*10000:Nat):Int):=by
   rw [show ((val BT (ds.drop (j+1)):Int)*10000)=((val BT (ds.drop (j+1))*10000:Nat):Int) from (Int.natCast_mul _ 10000).symm]
   exact wi64 (by omega)
  have wa:IntKind.i64.wrap (((val BT (ds.drop (j+1))*10000:Nat):Int)+(ds[j]:Int))=(val BT (ds.drop j):Int):=by
   rw [addi64 _ _ (by omega),hv]
   congr 1
   omega
  have wj:IntKind.i64.wrap ((j:Int)-1)=(j:Int)-1:=wrap_i64 (by omega)
  obtain ⟨X',h⟩:=ydl ds hl hd hob j (by omega) [] N (by omega)
  refine ⟨X', ?_⟩
  rw [←h]
  refine y0l ?_
  generalize val BT (ds.drop j)=v1 at wa ⊢
  generalize val BT (ds.drop (j+1))=v0 at wm wa ⊢
  generalize v0*10000=v2 at wm wa
  simp only [go_sem,Fn.y5q,h0,h1,hob,gd,wm,wa,wj]
end
def smallR (x:Nat):SV:=if dlen BT x≤4 then .tup [.one (.int .i64 (x:Int)),.one (.bool true)] else .tup [.one (.int .i64 0),.one (.bool false)]
theorem yfn (x:Nat) (sg:Bool) (hx:dlen BT x<2^60) {n:Nat} (hn:6≤n):evV E (n+1) Id.y1w [.agg [.bool sg,zD x]]=some (smallR x):=by
 rw [y04 ych]
 unfold smallR
 by_cases h:dlen BT x≤4
 ·rw [if_pos h]
  unfold dlen at h
  have hg:(((digs BT x).length:Int)>4)=False:=by simp only [eq_iff_iff,iff_false];omega
  have hw:IntKind.i64.wrap (((digs BT x).length:Int)-1)=((digs BT x).length:Int)-1:=wrap_i64 (by omega)
  obtain ⟨X',hl⟩:=ydl (F:=evF E n) (fuel:=n) (fz:=fz0) (nx:=3) (id:=0) (sg:=.bool sg) (ob:=upd ob0 0 (.box [.bool sg,.sl false (intE (digs BT x))])) (digs BT x) h (y2d BT2 x) (upd_same _ _ _) (digs BT x).length (Nat.le_refl _) [] n (by omega)
  rw [List.drop_length,y1e BT2,val,show ((0:Nat):Int)=0 from rfl] at hl
  unfold zD
  simp only [go_sem,Fn.y1w,hg,hw,hl]
 ·rw [if_neg h]
  unfold dlen at h
  have hg:(((digs BT x).length:Int)>4)=True:=by simp only [eq_iff_iff,iff_true];omega
  unfold zD
  simp only [go_sem,Fn.y1w,hg]
section
variable {F:Caller} {fuel:Nat} {fz:Nat→Nat} {ob:Nat→Option AObj} {nx:Nat}
theorem ynf (x4:SV):∀(y x:Nat) (X:List (Nat×SV)) (N:Nat),y<N→∃X',
  loopN (evC F fuel Fn.y40) N ⟨env ((4,x4)::(7,.one (.int .i64 (x:Int)))::(9,.one (.int .i64 (y:Int)))::X),ob,fz,nx⟩=
   some (.ext 2,⟨env ((4,x4)::(7,.one (.int .i64 (Nat.gcd x y:Int)))::X'),ob,fz,nx⟩):=by
 intro y
 induction y using Nat.strongRecOn with
 | _ y ih=>
  intro x X N hN
  obtain ⟨M,rfl⟩:∃M,N=M+1:=⟨N-1,by omega⟩
  by_cases hy:y=0
  ·subst hy
   have h1:(((0:Nat):Int) !=0)=false:=rfl
   refine ⟨[(9,.one (.int .i64 ((0:Nat):Int))),(37,.one (.bool false))],y0j ?_⟩
   rw [Nat.gcd_zero_right]
   simp only [go_sem,Fn.y40,h1]
  ·have h1:(((y:Nat):Int) !=0)=true:=by simp;omega
   have h0:(((y:Nat):Int)=0)=False:=by simp only [eq_iff_iff,iff_false];omega
   have hr:((x:Int)).tmod (y:Int)=((x%y:Nat):Int):=(Int.ofNat_tmod x y).symm
   have hst:evC F fuel Fn.y40 ⟨env ((4,x4)::(7,.one (.int .i64 (x:Int)))::(9,.one (.int .i64 (y:Int)))::X),ob,fz,nx⟩=some (.nrm,⟨env [(4,x4),(7,.one (.int .i64 (y:Int))),(9,.one (.int .i64 ((x%y:Nat):Int)))],ob,fz,nx⟩):=by
    simp only [go_sem,Fn.y40,h1,h0,hr]
   rw [y0l hst]
   have hlt:x%y<y:=Nat.mod_lt _ (by omega)
   have:Nat.gcd y (x%y)=Nat.gcd x y:=by rw [Nat.gcd_comm y (x%y),←Nat.gcd_rec,Nat.gcd_comm]
   rw [←this]
   exact ih (x%y) hlt y [] M (by omega)
def KR (S:Nat):Nat:=2^S+6*S+20000000000000000
theorem y5w {x S:Nat} (h:x<2^S):dlen BT x≤S:=by
 refine y5r BT2 (Nat.lt_of_lt_of_le h ?_)
 exact Nat.pow_le_pow_left (by decide) S
theorem yhf {x:Nat} (h:dlen BT x≤4):x<10000000000000000:=by
 have h1:=y5y BT2 x
 exact Nat.lt_of_lt_of_le h1 (Nat.le_trans (Nat.pow_le_pow_right (by decide) h) (by decide))
theorem yot {n id S:Nat} (hS:S<2^37) (hn:KR S≤n) (hob:∃cs,ob id=some (.box cs)∧cs.length=2):∀(y x:Nat) (X:List (Nat×SV)) (N:Nat),x<2^S→y<2^S→y<N→ 
  (∃X',loopN (evC (evF E (n+1)) (n+1) Fn.y3g) N ⟨env ((4,.one (.box id 0))::(5,.one (zD x))::(6,.one (zD y))::X),ob,fz,nx⟩=
   some (.ext 0,⟨env ((4,.one (.box id 0))::(5,.one (zD (Nat.gcd x y)))::X'),ob,fz,nx⟩))∨
  (∃X',loopN (evC (evF E (n+1)) (n+1) Fn.y3g) N ⟨env ((4,.one (.box id 0))::(5,.one (zD x))::(6,.one (zD y))::X),ob,fz,nx⟩=
   some (.ret,⟨env ((4,.one (.box id 0))::X'),upd ob id (.box (zC (Nat.gcd x y:Nat))),fz,nx⟩)):=by
 intro y
 induction y using Nat.strongRecOn with
 | _ y ih=>
  intro x X N hx hy hN
  obtain ⟨M,rfl⟩:∃M,N=M+1:=⟨N-1,by omega⟩
  have hyl:=ye2 y
  have hK:6*S+20000000000000000≤n:=Nat.le_trans (Nat.add_le_add_right (Nat.le_add_left _ _) _) hn
  have dx:=y5w hx
  have dy:=y5w hy
  by_cases hy0:y=0
  ·subst hy0
   left
   refine ⟨[(6,.one (zD 0)),(19,.one (.bool false))],y0j ?_⟩
   rw [Nat.gcd_zero_right]
   have e:(0≠0)=False:=by simp
   rw [e] at hyl
   unfold zD
   simp only [go_sem,Fn.y3g,hyl]
  ·have e:(y≠0)=True:=by simp [hy0]
   rw [e] at hyl
   have s1:=y02 (yfn x false (by omega) (n:=n) (by omega)) (can1 (.agg _ fun v hv=>by
    simp only [List.mem_cons,List.not_mem_nil,or_false] at hv
    rcases hv with rfl | rfl
    ·exact .bool _
    ·exact .sl _)) ob fz
   have s2:=y02 (yfn y false (by omega) (n:=n) (by omega)) (can1 (.agg _ fun v hv=>by
    simp only [List.mem_cons,List.not_mem_nil,or_false] at hv
    rcases hv with rfl | rfl
    ·exact .bool _
    ·exact .sl _)) ob fz
   by_cases hsm:dlen BT x≤4∧dlen BT y≤4
   ·right
    obtain ⟨h4,h5⟩:=hsm
    unfold smallR at s1 s2
    rw [if_pos h4] at s1
    rw [if_pos h5] at s2
    have hy5:=yhf h5
    have hlt5:x%y<y:=Nat.mod_lt _ (by omega)
    obtain ⟨X',hin⟩:=ynf (F:=evF E (n+1)) (fuel:=n+1) (fz:=fz) (ob:=ob) (nx:=nx) (.one (.box id 0)) (x%y) y [] n (by omega)
    have hge:Nat.gcd y (x%y)=Nat.gcd x y:=by rw [Nat.gcd_comm y (x%y),←Nat.gcd_rec,Nat.gcd_comm]
    rw [hge] at hin
    have h1:(((y:Nat):Int) !=0)=true:=by simp;omega
    have h0:(((y:Nat):Int)=0)=False:=by simp only [eq_iff_iff,iff_false];omega
    have hr:((x:Int)).tmod (y:Int)=((x%y:Nat):Int):=(Int.ofNat_tmod x y).symm
    have hst:evC (evF E (n+1)) (n+1) Fn.y40 ⟨env [(4,.one (.box id 0)),(5,.one (zD x)),(6,.one (zD y)),(7,.one (.int .i64 (x:Int))),(9,.one (.int .i64 (y:Int))),(35,.one (.bool true))],ob,fz,nx⟩=some (.nrm,⟨env [(4,.one (.box id 0)),(7,.one (.int .i64 (y:Int))),(9,.one (.int .i64 ((x%y:Nat):Int)))],ob,fz,nx⟩):=by
     simp only [go_sem,Fn.y40,h1,h0,hr]
    have hin:=(y0l (N:=n) hst).trans hin
    have hx4:=yhf h4
    have hg:Nat.gcd x y<10000000000000000:=Nat.lt_of_le_of_lt (Nat.gcd_le_right x (by omega)) hy5
    have hz:=y02 (ybb (Nat.gcd x y:Int) (by omega) (by omega) (n:=n) (by omega)) (can1 (y30 _ _)) ob fz
    obtain ⟨cs,hb1,hb2⟩:=hob
    refine ⟨[],y7e ?_⟩
    unfold sV at hz
    obtain ⟨c1,c2,rfl⟩:∃c1 c2,cs=[c1,c2]:=by
     rcases cs with _ | ⟨c1,_ | ⟨c2,_ | ⟨c3,r⟩⟩⟩
     ·simp at hb2
     ·simp at hb2
     ·exact ⟨c1,c2,rfl⟩
     ·simp at hb2
    unfold zC at hz ⊢
    unfold zD at s1 s2 hz hin ⊢
    simp only [go_sem,Fn.y3g,hyl,s1,s2,hin,hz,hb1]
   ·have hov:=y02 (ycm x y (by omega) (by omega) (by omega) (n:=n) (by omega)) (can2 (y4d _) (y4d _)) ob fz
    have hst:∃X1,evC (evF E (n+1)) (n+1) Fn.y3g ⟨env ((4,.one (.box id 0))::(5,.one (zD x))::(6,.one (zD y))::X),ob,fz,nx⟩=some (.nrm,⟨env ((4,.one (.box id 0))::(5,.one (zD y))::(6,.one (zD (x%y)))::X1),ob,fz,nx⟩):=by
     refine ⟨[], ?_⟩
     unfold smallR at s1 s2
     by_cases h4:dlen BT x≤4
     ·have h5:¬dlen BT y≤4:=fun h=>hsm ⟨h4,h⟩
      rw [if_pos h4] at s1
      rw [if_neg h5] at s2
      unfold zD at s1 s2 hov ⊢
      simp only [go_sem,Fn.y3g,hyl,s1,s2,hov]
     ·rw [if_neg h4] at s1
      by_cases h5:dlen BT y≤4
      ·rw [if_pos h5] at s2
       unfold zD at s1 s2 hov ⊢
       simp only [go_sem,Fn.y3g,hyl,s1,s2,hov]
      ·rw [if_neg h5] at s2
       unfold zD at s1 s2 hov ⊢
       simp only [go_sem,Fn.y3g,hyl,s1,s2,hov]
    obtain ⟨X1,hst⟩:=hst
    rw [y0l hst]
    have hlt:x%y<y:=Nat.mod_lt _ (by omega)
    have hge:Nat.gcd y (x%y)=Nat.gcd x y:=by rw [Nat.gcd_comm y (x%y),←Nat.gcd_rec,Nat.gcd_comm]
    rw [←hge]
    exact ih (x%y) hlt y X1 M hy (by omega) (by omega)
end
theorem yrl (a b:Int) {S:Nat} (ha:a.natAbs<2^S) (hb:b.natAbs<2^S) (hS:S<2^37) {n:Nat} (hn:KR S+1≤n):evV E (n+1) Id.y2n [sV a,sV b]=some (sV (Nat.gcd a.natAbs b.natAbs:Nat)):=by
 obtain ⟨n,rfl⟩:∃k,n=k+1:=⟨n-1,by omega⟩
 rw [y04 yda]
 have hK:b.natAbs<n+1:=by unfold KR at hn;omega
 have h:=yot (n:=n) (id:=2) (S:=S) (fz:=fz0) (nx:=3) (ob:=upd (upd (upd ob0 0 (.box (zC a))) 1 (.box (zC b))) 2 (.box [.bool false,.nils])) hS (by omega) ⟨_,upd_same _ _ _,rfl⟩ b.natAbs a.natAbs [] (n+1) ha hb hK
 unfold sV zC at*
 rcases h with ⟨X',h⟩ | ⟨X',h⟩
 ·unfold zD at h ⊢
  have e0:decide (((Nat.gcd a.natAbs b.natAbs:Nat):Int)<0)=false:=by simp
  rw [Int.natAbs_natCast,e0]
  simp only [go_sem,Fn.y2n,h]
 ·unfold zD at h ⊢
  simp only [go_sem,Fn.y2n,h]
end Go.Ev
namespace Go.Ev
open Go.Dig
def aggS:Option ((Nat→Nat)×List AV)→Option ((Nat→Nat)×SV)
 | some p=>some (p.1,.agg p.2)
 | none=>none
theorem yoe (p:(Nat→Nat)×List AV):aggS (some p)=some (p.1,.agg p.2):=Eq.trans rfl rfl
theorem ypd (ob:Nat→Option AObj) (fz:Nat→Nat) (cs:List AV):frzS ob fz (.agg cs)=aggS (mapFz (frz ob DEPTH) fz cs):=by
 simp only [frzS]
 cases mapFz (frz ob DEPTH) fz cs<;>rfl
theorem yr1 (ob:Nat→Option AObj) (fz:Nat→Nat) (b:Bool):frz ob DEPTH fz (.bool b)=some (fz,.bool b):=Eq.trans rfl rfl
theorem yrn (ob:Nat→Option AObj) (fz:Nat→Nat) (k:IntKind) (b:Int):frz ob DEPTH fz (.int k b)=some (fz,.int k b):=Eq.trans rfl rfl
theorem ysx (ob:Nat→Option AObj) (fz:Nat→Nat) (b:ByteArray):frz ob DEPTH fz (.str b)=some (fz,.str b):=Eq.trans rfl rfl
theorem yuk (ob:Nat→Option AObj) (fz:Nat→Nat) (f:Bool) (es:List (List AV)):frz ob DEPTH fz (.sl f es)=some (fz,.sl false es):=Eq.trans rfl rfl
theorem yoy (ob:Nat→Option AObj) (fz:Nat→Nat):frz ob DEPTH fz .nils=some (fz,.sl false []):=Eq.trans rfl rfl
attribute [go_sem] yoe ypd yr1 yrn ysx yuk yoy
theorem yme (z:Int):sgn (!decide (z<0)) z.natAbs=-z:=by
 unfold sgn
 by_cases h:z<0
 ·rw [decide_eq_true h,Bool.not_true,if_neg (by simp)];omega
 ·rw [decide_eq_false h,Bool.not_false,if_pos rfl];omega
theorem ykb (z:Int) {n:Nat} (hn:1≤n):evV E (n+1) Id.y2p [sV z]=some (sV (-z)):=by
 rw [y04 yd3]
 have hs:=y7x (!decide (z<0)) z.natAbs (-z) (yme z) hn
 unfold sV zC zD at hs ⊢
 simp only [go_sem,Fn.y2p,hs]
theorem yrm (a b:Bool):(!(a==b))=(a !=b):=rfl
theorem yhq (a b:Int) (ha:dlen BT a.natAbs<2^40) (hb:dlen BT b.natAbs<2^40) {n:Nat} (hn:dlen BT a.natAbs+dlen BT b.natAbs+7≤n):evV E (n+1) Id.y2m [sV a,sV b]=some (sV (a*b)):=by
 rw [y04 ydk]
 obtain ⟨n,rfl⟩:∃k,n=k+1:=⟨n-1,by omega⟩
 have ht:=y02 (yfi a.natAbs b.natAbs ha hb (n:=n) (by omega)) (can2 (y4d _) (y4d _))
 have hs:=y7x (decide (a<0) !=decide (b<0)) (a.natAbs*b.natAbs) (a*b) (ym0 a b) (n:=n+1) (by omega)
 generalize a*b=c at hs ⊢
 generalize a.natAbs*b.natAbs=m at ht hs
 unfold sV zC zD at hs ⊢
 unfold zD at ht
 simp only [go_sem,Fn.y2m,ht,ycw,yrm,hs]
def rC (q:Rat):List AV:=zC q.num++zC (q.den:Int)
def rV (q:Rat):SV:=.agg (rC q)
theorem yeu (q:Rat):CanS (rV q):=.agg _ fun x hx=>by
 simp only [rC,zC,List.mem_append,List.mem_cons,List.not_mem_nil,or_false] at hx
 rcases hx with (rfl | rfl) | (rfl | rfl)
 ·exact .bool _
 ·exact .sl _
 ·exact .bool _
 ·exact .sl _
theorem rC_eq (q:Rat):rC q=[.bool (decide (q.num<0)),zD q.num.natAbs,.bool (decide ((q.den:Int)<0)),zD q.den]:=by
 unfold rC zC
 rw [Int.natAbs_natCast]
 rfl
theorem yj7 (q:Rat) (hd:dlen BT q.den<2^60) {n:Nat} (hn:1≤n):evV E (n+1) Id.y2e [rV q]=some (sV (q.den:Int)):=by
 rw [y04 ybq]
 have h0:((((digs BT q.den).length:Nat):Int)==0)=false:=by
  have:=y6h BT2 (Nat.pos_iff_ne_zero.1 q.den_pos)
  have:(digs BT q.den).length≠0:=fun e=>this (List.length_eq_zero_iff.1 e)
  simp only [beq_eq_false_iff_ne,ne_eq];omega
 unfold rV sV
 rw [rC_eq]
 unfold zC zD
 rw [Int.natAbs_natCast]
 simp only [go_sem,Fn.y2e,h0]
theorem yue {z w:Int} (hw:w≠0) (h:w<0):ofQ z w hw=Rat.normalize (-z) (-w).natAbs (by omega):=by
 unfold ofQ
 have e:(decide (z<0) !=decide (w<0))= !decide (z<0):=by rw [decide_eq_true h];cases decide (z<0)<;>rfl
 have e2:=yme z
 congr 1
 ·rw [e,e2]
 ·omega
theorem yux {z w:Int} (hw:w≠0) (h:¬w<0):ofQ z w hw=Rat.normalize z w.natAbs (by omega):=by
 unfold ofQ
 have e:(decide (z<0) !=decide (w<0))=decide (z<0):=by rw [decide_eq_false h];cases decide (z<0)<;>rfl
 congr 1
 rw [e,y5s z]
theorem yiz (S:Nat):6*S+20000000000000000≤KR S:=Nat.add_le_add_right (Nat.le_add_left _ _) _
theorem yej (z w:Int) (hw:0<w) {S:Nat} (hz:z.natAbs<2^S) (hws:w.natAbs<2^S) (hS:S<2^37) {n:Nat} (hn:KR S+3≤n) (neg:Bool) (a b:Int) (hab:(neg=false∧a=z∧b=w)∨(neg=true∧-a=z∧-b=w)):evV E (n+1) Id.y14 [sV a,sV b]=some (rV (Rat.normalize z w.natAbs (by omega))):=by
 rw [y04 yea]
 have hK:=yiz S
 obtain ⟨n,rfl⟩:∃k,n=k+1:=⟨n-1,by omega⟩
 have dz:=y5w hz
 have dw:=y5w hws
 have hgc:=y02 (yrl z w hz hws hS (n:=n) (by omega)) (can2 (y6e _) (y6e _))
 obtain ⟨e1,e2⟩:=yav z w.natAbs (by omega)
 generalize Rat.normalize z w.natAbs _=q at e1 e2
 obtain ⟨g,hg⟩:∃g,g=z.natAbs.gcd w.natAbs:=⟨_,rfl⟩
 rw [←hg] at hgc e1 e2
 have hgp:0<g:=by rw [hg];exact Nat.gcd_pos_of_pos_right _ (by omega)
 have hgl:g≤w.natAbs:=by rw [hg];exact Nat.gcd_le_right _ (by omega)
 have dg:dlen BT g≤S:=Nat.le_trans (y51 BT2 hgl) dw
 have n1:=y02 (ykb a (n:=n) (by omega)) (can1 (y6e _))
 have n2:=y02 (ykb b (n:=n) (by omega)) (can1 (y6e _))
 have hb:decide (b<0)=neg:=by
  rcases hab with ⟨rfl,rfl,rfl⟩ | ⟨rfl,rfl,rfl⟩
  ·simp;omega
  ·simp;omega
 have hw0:decide (w<0)=false:=by simp;omega
 have hq0:decide ((q.den:Int)<0)=false:=by simp
 have hg0:decide ((g:Int)<0)=false:=by simp
 unfold rV
 rw [rC_eq,hq0]
 by_cases hg1:g=1
 ·subst hg1
  have hdig:digs BT 1=[1]:=by
   rw [y65 BT2 (by decide)]
   rw [show (1:Nat) / BT=0 from rfl,digs_zero]
   rfl
  rw [Nat.div_one] at e1 e2
  rw [y5s] at e1
  have e3:intE [1]=[[AV.int .i64 1]]:=rfl
  have e4:(((1:Nat):Int)==1)=true:=rfl
  have e5:((1:Int)==1)=true:=rfl
  have n0:natOf 0=some 0:=rfl
  rw [e1,e2]
  rcases hab with ⟨rfl,rfl,rfl⟩ | ⟨rfl,h1,h2⟩
  ·unfold sV zC at hgc ⊢
   rw [Int.natAbs_natCast,hg0,hw0] at hgc
   unfold zD at hgc ⊢
   rw [hdig,e3] at hgc
   simp only [go_sem,Fn.y14,hb,hgc,e4,e5,n0]
  ·rw [h1] at n1
   rw [h2] at n2
   unfold sV zC at hgc n1 n2 ⊢
   rw [Int.natAbs_natCast,hg0,hw0] at hgc
   rw [hw0] at n2
   rw [hb] at n2
   unfold zD at hgc n1 n2 ⊢
   rw [hdig,e3] at hgc
   simp only [go_sem,Fn.y14,hb,n1,n2,hgc,e4,e5,n0]
 ·have hz2:=y02 (ycm z.natAbs g hgp (by omega) (by omega) (n:=n) (by omega)) (can2 (y4d _) (y4d _))
  have hw2:=y02 (ycm w.natAbs g hgp (by omega) (by omega) (n:=n) (by omega)) (can2 (y4d _) (y4d _))
  have s1:=y7x (decide (z<0)) (z.natAbs / g) q.num e1.symm (n:=n+1) (by omega)
  have s2:=y7x false (w.natAbs / g) (q.den:Int) (by rw [e2];rfl) (n:=n+1) (by omega)
  generalize z.natAbs / g=zg at hz2 s1
  generalize w.natAbs / g=wg at hw2 s2
  generalize z.natAbs%g=zr at hz2
  generalize w.natAbs%g=wr at hw2
  have n0:natOf 0=some 0:=rfl
  unfold sV zC at s1 s2
  rw [Int.natAbs_natCast,hq0] at s2
  unfold zD at hz2 hw2 s1 s2
  by_cases hl:(digs BT g).length=1
  ·obtain ⟨x,hx⟩:=List.length_eq_one_iff.1 hl
   have hv:=y1e BT2 g
   rw [hx] at hv hz2 hw2
   have hxg:x=g:=by simpa [val] using hv
   have e3:intE [x]=[[AV.int .i64 (x:Int)]]:=rfl
   have e4:(((1:Nat):Int)==1)=true:=rfl
   have e5:(((x:Nat):Int)==1)=false:=by rw [hxg];simp only [beq_eq_false_iff_ne,ne_eq];omega
   rw [e3] at hz2 hw2
   rcases hab with ⟨rfl,rfl,rfl⟩ | ⟨rfl,h1,h2⟩
   ·unfold sV zC at hgc ⊢
    rw [Int.natAbs_natCast,hg0,hw0] at hgc
    unfold zD at hgc ⊢
    rw [hx,e3] at hgc
    simp only [go_sem,Fn.y14,hb,hgc,e4,e5,n0,hz2,hw2,s1,s2]
   ·rw [h1] at n1
    rw [h2] at n2
    unfold sV zC at hgc n1 n2 ⊢
    rw [Int.natAbs_natCast,hg0,hw0] at hgc
    rw [hw0] at n2
    rw [hb] at n2
    unfold zD at hgc n1 n2 ⊢
    rw [hx,e3] at hgc
    simp only [go_sem,Fn.y14,hb,n1,n2,hgc,e4,e5,n0,hz2,hw2,s1,s2]
  ·have e4:((((digs BT g).length:Nat):Int)==1)=false:=by simp only [beq_eq_false_iff_ne,ne_eq];omega
   rcases hab with ⟨rfl,rfl,rfl⟩ | ⟨rfl,h1,h2⟩
   ·unfold sV zC at hgc ⊢
    rw [Int.natAbs_natCast,hg0,hw0] at hgc
    unfold zD at hgc ⊢
    simp only [go_sem,Fn.y14,hb,hgc,e4,n0,hz2,hw2,s1,s2]
   ·rw [h1] at n1
    rw [h2] at n2
    unfold sV zC at hgc n1 n2 ⊢
    rw [Int.natAbs_natCast,hg0,hw0] at hgc
    rw [hw0] at n2
    rw [hb] at n2
    unfold zD at hgc n1 n2 ⊢
    simp only [go_sem,Fn.y14,hb,n1,n2,hgc,e4,n0,hz2,hw2,s1,s2]
theorem yr8 (z w:Int) (hw:w≠0) {S:Nat} (hz:z.natAbs<2^S) (hws:w.natAbs<2^S) (hS:S<2^37) {n:Nat} (hn:KR S+3≤n):evV E (n+1) Id.y14 [sV z,sV w]=some (rV (ofQ z w hw)):=by
 by_cases h:w<0
 ·rw [yue hw h]
  exact yej (-z) (-w) (by omega) (by omega) (by omega) hS hn true z w (.inr ⟨rfl,rfl,rfl⟩)
 ·rw [yux hw h]
  exact yej z w (by omega) hz hws hS hn false z w (.inl ⟨rfl,rfl,rfl⟩)
theorem yvk (z d:Int) (hd:d≠0) (h1:-9223372036854775808≤z) (h2:z<9223372036854775808) (h3:-9223372036854775808≤d) (h4:d<9223372036854775808) {n:Nat} (hn:KR 64+4≤n):evV E (n+1) Id.y3j [.one (.int .i64 z),.one (.int .i64 d)]=some (rV (ofQ z d hd)):=by
 rw [y04 ygh]
 have hK:=yiz 64
 have e:(2:Nat)^64=18446744073709551616:=rfl
 obtain ⟨n,rfl⟩:∃k,n=k+1:=⟨n-1,by omega⟩
 have z1:=y02 (ybb z h1 h2 (n:=n) (by omega)) (can1 (y30 _ _))
 have z2:=y02 (ybb d h3 h4 (n:=n) (by omega)) (can1 (y30 _ _))
 have hq:=y02 (yr8 z d hd (S:=64) (by rw [e];omega) (by rw [e];omega) (by decide) (n:=n) (by omega)) (can2 (y6e _) (y6e _))
 generalize ofQ z d hd=q at hq ⊢
 unfold rV at hq ⊢
 rw [rC_eq] at hq ⊢
 unfold sV zC zD at z1 z2 hq
 unfold zD
 simp only [go_sem,Fn.y3j,z1,z2,hq]
theorem yrj (a b:Rat) {S T:Nat} (ha:SmQ S a) (hb:SmQ T b) (hS:S+T<2^36) {n:Nat} (hn:KR (S+T)+4≤n):evV E (n+1) Id.y3d [rV a,rV b]=some (rV (a*b)):=by
 rw [y04 yee,Rat.mul_def]
 have hK:=yiz (S+T)
 obtain ⟨n,rfl⟩:∃k,n=k+1:=⟨n-1,by omega⟩
 have da:=y5w ha.den
 have db:=y5w hb.den
 have na:=y5w ha.num
 have nb:=y5w hb.num
 have d1:=y02 (yj7 a (by omega) (n:=n) (by omega)) (can1 (yeu _))
 have d2:=y02 (yj7 b (by omega) (n:=n) (by omega)) (can1 (yeu _))
 have m1:=y02 (yhq a.num b.num (by omega) (by omega) (n:=n) (by omega)) (can2 (y6e _) (y6e _))
 have m2:=y02 (yhq (a.den:Int) (b.den:Int) (by rw [Int.natAbs_natCast];omega) (by rw [Int.natAbs_natCast];omega) (n:=n) (by rw [Int.natAbs_natCast,Int.natAbs_natCast];omega)) (can2 (y6e _) (y6e _))
 have h1:(a.num*b.num).natAbs<2^(S+T):=by rw [Int.natAbs_mul];exact y33 ha.num hb.num
 have h2:((a.den:Int)*(b.den:Int)).natAbs<2^(S+T):=by
  rw [Int.natAbs_mul,Int.natAbs_natCast,Int.natAbs_natCast];exact y33 ha.den hb.den
 have hp:(0:Int)<(a.den:Int)*(b.den:Int):=Int.mul_pos (by have:=a.den_pos;omega) (by have:=b.den_pos;omega)
 have hq:=y02 (yej (a.num*b.num) ((a.den:Int)*(b.den:Int)) hp h1 h2 (by omega) (n:=n) (by omega) false _ _ (.inl ⟨rfl,rfl,rfl⟩)) (can2 (y6e _) (y6e _))
 have en:Rat.normalize (a.num*b.num) ((a.den:Int)*(b.den:Int)).natAbs (by omega)=Rat.normalize (a.num*b.num) (a.den*b.den) (Nat.mul_ne_zero a.den_nz b.den_nz):=by
  congr 1
 rw [en] at hq
 generalize Rat.normalize (a.num*b.num) (a.den*b.den) _=q at hq ⊢
 generalize a.num*b.num=p at m1 hq
 generalize (a.den:Int)*(b.den:Int)=r at m2 hq
 unfold rV at d1 d2 hq ⊢
 rw [rC_eq] at d1 d2 hq
 rw [rC_eq a,rC_eq b,rC_eq q]
 unfold sV zC at d1 d2 m1 m2 hq
 rw [Int.natAbs_natCast] at d1 d2
 rw [Int.natAbs_natCast,Int.natAbs_natCast] at m2
 unfold zD at d1 d2 m1 m2 hq ⊢
 simp only [go_sem,Fn.y3d,d1,d2,m1,m2,hq]
end Go.Ev
namespace Go.Ev
open Go.Dig
def Ends (f:FuncId) (args:List SV) (r:SV):Prop:=∃N,∀n,N≤n→evV E n f args=some r
theorem Ends.of {f:FuncId} {args:List SV} {r:SV} (N:Nat) (h:∀{n},N≤n→evV E (n+1) f args=some r):Ends f args r:=
 ⟨N+1,fun n hn=>by obtain ⟨m,rfl⟩:∃m,n=m+1:=⟨n-1,by omega⟩;exact h (by omega)⟩
def Calling (f:FuncId) (args:List SV) (r:SV):Prop:=∃N,∀n,N≤n→∀(ob:Nat→Option AObj) (fz:Nat→Nat),callV (evF E n) f args ob fz=some (.fzd fz r)
theorem Ends.call {f:FuncId} {args:List SV} {r:SV} (h:Ends f args r) (hc:∀x∈args,CanS x):Calling f args r:=by
 obtain ⟨N,h⟩:=h
 exact ⟨N,fun n hn=>y02 (h n hn) hc⟩
structure Num where
 n:Int
 d:Int
 p:Nat
 n1:-9223372036854775808≤n
 n2:n<9223372036854775808
 d1:-9223372036854775808≤d
 d2:d<9223372036854775808
 p2:p<256
def Num.c (x:Num):List AV:=[.int .i64 x.n,.int .i64 x.d,.int .u8 (x.p:Int)]
def Num.den (x:Num):Int:=if x.d=0 then 1 else x.d
theorem Num.den0 (x:Num):x.den≠0:=by unfold Num.den;split<;>omega
theorem Num.denR (x:Num):-9223372036854775808≤x.den∧x.den<9223372036854775808:=by
 have h1:=x.d1
 have h2:=x.d2
 unfold Num.den;split<;>omega
def Num.base (x:Num):Rat:=ofQ x.n x.den x.den0
def Num.q (x:Num):Rat:=x.base^(x.p%4+1)
theorem Num.baseS (x:Num):SmQ 64 x.base:=SmQ.ofQ x.den0 x.n1 x.n2 x.denR.1 x.denR.2
theorem powS {a:Rat} (h:SmQ 64 a):∀k,SmQ (64*(k+1)) (a^(k+1))
 | 0=>by rw [Rat.pow_succ,Rat.pow_zero,Rat.one_mul];exact h
 | k+1=>by
  rw [Rat.pow_succ]
  exact SmQ.mono (SmQ.mul (powS h k) h) (by omega)
theorem Num.qS (x:Num):SmQ 256 x.q:=SmQ.mono (powS x.baseS (x.p%4)) (by omega)
theorem yhr {n i1 i4 i6 i7 i8:Nat} {fz:Nat→Nat} {nx:Nat} (a:Rat) (ha:SmQ 64 a) (x2 x3:SV) (c1 c2:AV) (p:Nat) (h14:i7≠i1∧i7≠i4∧i7≠i6∧i8≠i1∧i8≠i4∧i8≠i6∧i8≠i7) (hn:KR 320≤n) (hn':K 320≤n):∀(m k:Nat),k+m=p%4→∀(ob:Nat→Option AObj) (X:List (Nat×SV)),ob i1=some (.box [c1,c2,.int .u8 (p:Int)])→ob i4=some (.box (qC a))→ob i6=some (.box (rC a))→ob i7=some (.box (qC (a^(k+1))))→ob i8=some (.box (rC (a^(k+1))))→∀N,m<N→
  ∃(ob':Nat→Option AObj) (X':List (Nat×SV)),loopN (evC (evF E (n+6)) (n+6) Fn.y50) N ⟨env ((1,.one (.box i1 0))::(2,x2)::(3,x3)::(4,.one (.box i4 0))::(6,.one (.box i6 0))::(7,.one (.box i7 0))::(8,.one (.box i8 0))::(9,.one (.int .u8 (k:Int)))::X),ob,fz,nx⟩=
   some (.ext 0,⟨env ((1,.one (.box i1 0))::(2,x2)::(3,x3)::(4,.one (.box i4 0))::(6,.one (.box i6 0))::(7,.one (.box i7 0))::(8,.one (.box i8 0))::X'),ob',fz,nx⟩)∧ob' i7=some (.box (qC (a^(p%4+1))))∧ob' i8=some (.box (rC (a^(p%4+1))))∧∀i,i≠i7→i≠i8→ob' i=ob i
 | 0,k,hk,ob,X,o1,o4,o6,o7,o8,N+1,hN=>by
  have hk':k=p%4:=by omega
  subst hk'
  refine ⟨ob,[(9,.one (.int .u8 ((p%4:Nat):Int))),(33,.one (.bool false))],y0j ?_,o7,o8,fun _ _ _=>rfl⟩
  have t4:((4:Int)=0)=False:=by simp
  have hr:((p:Int)).tmod 4=((p%4:Nat):Int):=(Int.ofNat_tmod p 4).symm
  have hl:(((p%4:Nat):Int)<((p%4:Nat):Int))=False:=by simp
  simp only [go_sem,Fn.y50,o1,t4,hr,hl]
 | m+1,k,hk,ob,X,o1,o4,o6,o7,o8,N+1,hN=>by
  have t4:((4:Int)=0)=False:=by simp
  have hr:((p:Int)).tmod 4=((p%4:Nat):Int):=(Int.ofNat_tmod p 4).symm
  have hl:(((k:Nat):Int)<((p%4:Nat):Int))=True:=by simp;omega
  have hw:IntKind.u8.wrap ((k+1:Nat):Int)=((k+1:Nat):Int):=by rw [IntKind.wrap_u8];omega
  have hs:SmQ 256 (a^(k+1)):=SmQ.mono (powS ha k) (by omega)
  have m1:=y02 (ygw (a^(k+1)) a hs ha (by decide) (n:=n+5) (by show K 320+_≤_;omega)) (can2 (y1a _) (y1a _)) ob fz
  have m2:=fun ob=>y02 (yrj (a^(k+1)) a hs ha (by decide) (n:=n+5) (by show KR 320+_≤_;omega)) (can2 (yeu _) (yeu _)) ob fz
  rw [←Rat.pow_succ] at m1 m2
  obtain ⟨g1,g2,g3,g4,g5,g6,g7⟩:=h14
  obtain ⟨ob',X',h1,h2,h3,h4⟩:=yhr (fz:=fz) (nx:=nx) a ha x2 x3 c1 c2 p ⟨g1,g2,g3,g4,g5,g6,g7⟩ hn hn' m (k+1) (by omega) (upd (upd ob i7 (.box (qC (a^(k+1+1))))) i8 (.box (rC (a^(k+1+1))))) []
   (by rw [y00 g4.symm,y00 g1.symm];exact o1) (by rw [y00 g5.symm,y00 g2.symm];exact o4) (by rw [y00 g6.symm,y00 g3.symm];exact o6) (by rw [y00 g7.symm];exact upd_same _ _ _) (upd_same _ _ _) N (by omega)
  refine ⟨ob',X', ?_,h2,h3,fun i e7 e8=>by rw [h4 i e7 e8,y00 e8,y00 e7]⟩
  rw [←h1]
  refine y0l ?_
  have u6:∀y,upd ob i7 y i6=ob i6:=fun y=>y00 g3.symm
  have u8:∀y,upd ob i7 y i8=ob i8:=fun y=>y00 g7
  generalize a^(k+1)=b at*
  generalize a^(k+1+1)=c at*
  unfold qV at m1
  unfold rV at m2
  rw [rC_eq] at o6 o8
  rw [rC_eq b,rC_eq a,rC_eq c] at m2
  rw [rC_eq c]
  unfold qC natV at m1 o4 o7 ⊢
  unfold zD at m2 o6 o8 ⊢
  simp only [go_sem,Fn.y50,o1,t4,hr,hl,o4,o6,o7,o8,u6,u8,m1,m2,add1,hw]
theorem nbeq (a b:Nat):Nat.beq a b=(a==b):=by
 rw [Bool.eq_iff_iff,Nat.beq_eq,beq_iff_eq]
attribute [go_sem] List.all_cons List.all_nil nbeq Nat.reduceBEq
theorem rV_eq (q:Rat):rV q=.agg [.bool (decide (q.num<0)),zD q.num.natAbs,.bool (decide ((q.den:Int)<0)),zD q.den]:=by unfold rV;rw [rC_eq]
def bothT:ACode:=match Fn.y0d.code with | .seq _ (.seq _ (.seq _ (.seq _ (.seq _ (.seq _ t)))))=>t | _=>.skip
theorem ysn (x:Num) {n:Nat} (hn:K 320+KR 320+20≤n):evV E (n+1) Id.y0d [.agg x.c]=some (.tup [qV x.q,rV x.q]):=by
 rw [y04 yd2]
 have hK:K 64≤K 320:=yxj (by decide)
 have hR:KR 64≤KR 320:=by unfold KR;have:=Nat.pow_le_pow_right (show 0<2 by decide) (show 64≤320 by decide);omega
 obtain ⟨n,rfl⟩:∃k,n=k+6:=⟨n-6,by omega⟩
 have h1:=y02 (yxf x.n x.den x.den0 x.n1 x.n2 x.denR.1 x.denR.2 (n:=n+5) (by omega)) (can2 (y30 _ _) (y30 _ _))
 have h2:=y02 (yvk x.n x.den x.den0 x.n1 x.n2 x.denR.1 x.denR.2 (n:=n+5) (by omega)) (can2 (y30 _ _) (y30 _ _))
 have hb:=x.baseS
 rw [show ofQ x.n x.den x.den0=x.base from rfl] at h1 h2
 have hq:x.q=x.base^(x.p%4+1):=rfl
 have hc:x.c=[.int .i64 x.n,.int .i64 x.d,.int .u8 (x.p:Int)]:=rfl
 have hden:x.den=if x.d=0 then 1 else x.d:=rfl
 rw [hq,hc]
 generalize x.den=den at*
 generalize x.base=a at*
 have hlo:=fun i1 i4 i6 i7 i8 nx c1 c2 x2 x3 hne ob=>yhr (n:=n) (i1:=i1) (i4:=i4) (i6:=i6) (i7:=i7) (i8:=i8) (fz:=fz0) (nx:=nx) a hb x2 x3 c1 c2 x.p hne (by omega) (by omega) (x.p%4) 0 (by omega) ob []
 have ga:a^(0+1)=a:=by rw [Rat.pow_succ,Rat.pow_zero,Rat.one_mul]
 generalize a^(x.p%4+1)=b at*
 have key:∀(c1 c2:AV) (ob:Nat→Option AObj),ob 0=some (.box [c1,c2,.int .u8 (x.p:Int)])→ob 1=some (.box [.bool false,.nils,.nils])→ob 2=some (.box [.bool false,.nils,.bool false,.nils])→ob 11=some (.box (qC a))→ob 19=some (.box (rC a))→ob 23=some (.box (qC a))→ob 24=some (.box (rC a))→
   finV Fn.y0d.res (thenC (evF E (n+6)) (n+6) bothT (blkC 0 (loopN (evC (evF E (n+6)) (n+6) Fn.y50) (n+6) ⟨env [(1,.one (.box 0 0)),(2,.one (.box 1 0)),(3,.one (.box 2 0)),(4,.one (.box 11 0)),(6,.one (.box 19 0)),(7,.one (.box 23 0)),(8,.one (.box 24 0)),(9,.one (.int .u8 0))],ob,fz0,27⟩)))=some (.tup [qV b,rV b]):=by
  intro c1 c2 ob o0 o1 o2 o11 o19 o23 o24
  obtain ⟨ob',X',hl,p7,p8,pr⟩:=hlo 0 11 19 23 24 27 c1 c2 (.one (.box 1 0)) (.one (.box 2 0)) (by decide) ob o0 o11 o19 (by rw [ga];exact o23) (by rw [ga];exact o24) (n+6) (by omega)
  rw [show ((0:Nat):Int)=0 from rfl] at hl
  have q1:ob' 1=_:=(pr 1 (by decide) (by decide)).trans o1
  have q2:ob' 2=_:=(pr 2 (by decide) (by decide)).trans o2
  have u2:∀y,upd ob' 1 y 2=ob' 2:=fun y=>y00 (by decide)
  rw [rC_eq] at p8
  rw [rV_eq]
  unfold qC natV at p7
  unfold zD at p8
  unfold qV qC natV zD
  unfold bothT Fn.y0d
  simp only [go_sem,hl,p7,p8,q1,q2,u2]
 rw [rV_eq] at h2
 unfold qV qC natV at h1
 unfold zD at h2
 by_cases hd:x.d=0
 ·rw [if_pos hd] at hden
  have e0:(x.d==0)=true:=by simp [hd]
  rw [hden] at h1 h2
  unfold Fn.y0d
  simp only [go_sem,e0,h1,h2]
  exact key _ _ _ rfl rfl rfl rfl rfl rfl rfl
 ·rw [if_neg hd] at hden
  have e0:(x.d==0)=false:=by simp [hd]
  rw [hden] at h1 h2
  unfold Fn.y0d
  simp only [go_sem,e0,h1,h2]
  exact key _ _ _ rfl rfl rfl rfl rfl rfl rfl
end Go.Ev
namespace Go.Ev
open Go.RowKit
open Go.Proofs
def numD:TD:=.struct [.int .i64,.int .i64,.int .u8]
def jointD:TD:=.struct [numD,numD,numD,numD,numD,numD,.int .i64]
def lostD:TD:=.struct [.int .i64,.int .i64]
theorem yg2 {z:Int} (h:(Lit.int .i64 z).wf=true):-9223372036854775808≤z∧z<9223372036854775808:=by
 simp only [Lit.wf,Bool.and_eq_true,decide_eq_true_eq] at h
 have e1:IntKind.i64.min=-9223372036854775808:=by decide
 have e2:IntKind.i64.max=9223372036854775807:=by decide
 rw [e1,e2] at h
 omega
theorem wf_u8 {z:Int} (h:(Lit.int .u8 z).wf=true):∃n:Nat,z=(n:Int)∧n<256:=by
 simp only [Lit.wf,Bool.and_eq_true,decide_eq_true_eq] at h
 have e1:IntKind.u8.min=0:=by decide
 have e2:IntKind.u8.max=255:=by decide
 rw [e1,e2] at h
 exact ⟨z.toNat,by omega,by omega⟩
structure Jt where
 low:Num
 high:Num
 most:Num
 step:Num
 place:Num
 speed:Num
 d:Int
 d1:-9223372036854775808≤d
 d2:d<9223372036854775808
def Jt.c (j:Jt):List AV:=j.low.c++(j.high.c++(j.most.c++(j.step.c++(j.place.c++(j.speed.c++[.int .i64 j.d])))))
structure Eng where
 torque:Num
 heating:Num
 cooling:Num
 most:Num
 step:Num
 heat:Num
 d:Int
 d1:-9223372036854775808≤d
 d2:d<9223372036854775808
 k:Int
 k1:-9223372036854775808≤k
 k2:k<9223372036854775808
def Eng.c (j:Eng):List AV:=j.torque.c++(j.heating.c++(j.cooling.c++(j.most.c++(j.step.c++(j.heat.c++[.int .i64 j.d,.int .i64 j.k])))))
section
variable {H:Type} {d:DataW H} {xs:List AV}
theorem y7n (h:IsD numD d xs):∃x:Num,xs=x.c:=by
 unfold numD at h
 simp only [IsD,IsDs] at h
 obtain ⟨ds,-,d1,r1,y1,z1,-,rfl,⟨a,ha,-,rfl⟩,d2,r2,y2,z2,-,rfl,⟨b,hb,-,rfl⟩,d3,r3,y3,z3,-,rfl,⟨c,hc,-,rfl⟩,-,rfl⟩:=h
 have h1:=yg2 ha
 have h2:=yg2 hb
 obtain ⟨p,rfl,hp⟩:=wf_u8 hc
 exact ⟨⟨a,b,p,h1.1,h1.2,h2.1,h2.2,hp⟩,rfl⟩
theorem ycj {x:DataW H} {ds:List (DataW H)} {B:Nat} (hb:YtclakmennjjomaaGreat.Rows.uptoBulkAll (x::ds)≤B):YtclakmennjjomaaGreat.Rows.uptoBulk x≤B∧YtclakmennjjomaaGreat.Rows.uptoBulkAll ds≤B:=by
 simp only [YtclakmennjjomaaGreat.Rows.uptoBulkAll] at hb;omega
theorem ygk (h:IsD (.int .i64) d xs):∃z:Int,xs=[.int .i64 z]∧-9223372036854775808≤z∧z<9223372036854775808:=by
 simp only [IsD] at h
 obtain ⟨z,hz,-,rfl⟩:=h
 exact ⟨z,rfl,(yg2 hz).1,(yg2 hz).2⟩
theorem yqs (h:IsD jointD d xs):∃j:Jt,xs=j.c:=by
 unfold jointD at h
 rw [IsD] at h
 simp only [IsDs] at h
 obtain ⟨ds,-,d1,r1,y1,z1,-,rfl,h1,d2,r2,y2,z2,-,rfl,h2,d3,r3,y3,z3,-,rfl,h3,d4,r4,y4,z4,-,rfl,h4,d5,r5,y5,z5,-,rfl,h5,d6,r6,y6,z6,-,rfl,h6,d7,r7,y7,z7,-,rfl,h7,-,rfl⟩:=h
 obtain ⟨x1,rfl⟩:=y7n h1
 obtain ⟨x2,rfl⟩:=y7n h2
 obtain ⟨x3,rfl⟩:=y7n h3
 obtain ⟨x4,rfl⟩:=y7n h4
 obtain ⟨x5,rfl⟩:=y7n h5
 obtain ⟨x6,rfl⟩:=y7n h6
 obtain ⟨z,rfl,e1,e2⟩:=ygk h7
 exact ⟨⟨x1,x2,x3,x4,x5,x6,z,e1,e2⟩,rfl⟩
theorem yr9 (h:IsD lostD d xs):∃a b:Int,xs=[.int .i64 a,.int .i64 b]∧-9223372036854775808≤a∧a<9223372036854775808∧-9223372036854775808≤b∧b<9223372036854775808:=by
 unfold lostD at h
 rw [IsD] at h
 simp only [IsDs] at h
 obtain ⟨ds,-,d1,r1,y1,z1,-,rfl,h1,d2,r2,y2,z2,-,rfl,h2,-,rfl⟩:=h
 obtain ⟨z,rfl,e1,e2⟩:=ygk h1
 obtain ⟨y,rfl,f1,f2⟩:=ygk h2
 exact ⟨z,y,rfl,e1,e2,f1,f2⟩
theorem yt7 {B:Nat} (h:IsD (.slice numD) d xs) (hb:YtclakmennjjomaaGreat.Rows.uptoBulk d≤B):∃l:List Num,xs=[.sl false (l.map Num.c)]∧l.length<B:=by
 obtain ⟨l,rfl,hl,-⟩:=ypx (c:=Num.c) (Q:=fun _=>True) (fun d xs h _=>by obtain ⟨x,hx⟩:=y7n h;exact ⟨x,hx,trivial⟩) h hb
 exact ⟨l,rfl,hl⟩
end
end Go.Ev
namespace Go.Ev
open Go.Dig
theorem yqu (z:Int) (d:Nat) (hd:0<d):sgn (decide (z<0)) (if z<0∧z.natAbs%d≠0 then z.natAbs / d+1 else z.natAbs / d)=z / (d:Int):=by
 have hd':(0:Int)<d:=by omega
 unfold sgn
 by_cases h:z<0
 ·simp only [h,decide_true,if_true,true_and]
  have hm:=Nat.div_add_mod z.natAbs d
  have hlt:=Nat.mod_lt z.natAbs hd
  generalize z.natAbs / d=q at hm ⊢
  generalize hr:z.natAbs%d=r at hm hlt ⊢
  have hz:z=-((d*q+r:Nat):Int):=by omega
  rw [hz]
  by_cases h0:r=0
  ·subst h0
   simp only [ne_eq,not_true_eq_false,if_false,Nat.add_zero]
   have:-((d*q:Nat):Int)=(d:Int)*(-(q:Int)):=by push_cast;rw [Int.mul_neg]
   rw [this,Int.mul_ediv_cancel_left _ (by omega)]
  ·simp only [ne_eq,h0,not_false_eq_true,if_true]
   have e:-((d*q+r:Nat):Int)=((d:Int)-r)+(d:Int)*(-((q+1:Nat):Int)):=by push_cast;rw [Int.mul_neg,Int.mul_add];omega
   rw [e,Int.add_mul_ediv_left _ _ (by omega),Int.ediv_eq_zero_of_lt (by omega) (by omega)]
   omega
 ·simp only [h,decide_false,Bool.false_eq_true,if_false,false_and]
  have hz:z=(z.natAbs:Int):=by omega
  conv=>rhs;rw [hz]
  exact Int.natCast_ediv _ _ |>.symm ▸ rfl
theorem yn2 (z:Int) (d:Nat) (hd:0<d) {S:Nat} (hz:z.natAbs<2^S) (hS:S<2^38) {n:Nat} (hn:2*S+40≤n):evV E (n+1) Id.y1m [wV z,.one (natV d)]=some (wV (z / (d:Int))):=by
 rw [y04 ybj]
 have hds:dlen B32 z.natAbs≤S:=y42 hz
 have hqs:dlen B32 (z.natAbs / d)≤S:=y42 (Nat.lt_of_le_of_lt (Nat.div_le_self _ _) hz)
 have h1s:dlen B32 1≤1:=y42 (by decide)
 obtain ⟨m,rfl⟩:∃m,n=m+1:=⟨n-1,by omega⟩
 have hdiv:=y02 (ycp z.natAbs d hd (by omega) (n:=m) (by omega)) (can2 (y0c _) (y0c _))
 have hadd:=y02 (ygx (z.natAbs / d) 1 (by omega) (by omega) (n:=m) (by omega)) (can2 (y0c _) (y0c _))
 have hone:=yen (n:=m+1) (by omega)
 have hw:=y6f _ _ _ (yqu z d hd) (n:=m+1) (by omega)
 generalize z / (d:Int)=w at hw ⊢
 have hl:=yd0 (z.natAbs%d)
 generalize z.natAbs%d=r at hdiv hw hl
 generalize z.natAbs / d=q at hdiv hadd hw
 by_cases h:z<0
 ·by_cases h0:r=0
  ·subst h0
   simp only [h,ne_eq,not_true_eq_false,and_false,if_false,decide_true] at hw hl
   unfold wV wC natV at hw ⊢
   unfold natV at hdiv
   simp only [go_sem,Fn.y1m,hdiv,hw,h,hl,yeh,decide_true,decide_false,Nat.zero_lt_succ,Nat.reduceLT]
  ·simp only [h,ne_eq,h0,not_false_eq_true,and_true,if_true,decide_true] at hw hl
   unfold wV wC natV at hw ⊢
   unfold natV at hdiv hadd hone
   simp only [go_sem,Fn.y1m,hdiv,hadd,hone,hw,h,hl,yeh,decide_true,decide_false,Nat.zero_lt_succ,Nat.reduceLT]
 ·simp only [h,false_and,if_false,decide_false] at hw
  unfold wV wC natV at hw ⊢
  unfold natV at hdiv
  simp only [go_sem,Fn.y1m,hdiv,hw,h,decide_true,decide_false,Nat.zero_lt_succ,Nat.reduceLT]
def floorQ (q:Rat):Int:=q.num / (q.den:Int)
theorem yq1 (a:Rat) {S:Nat} (ha:SmQ S a) (hS:S<2^36) {n:Nat} (hn:2*S+50≤n):evV E (n+1) Id.y2t [qV a]=some (qV (Rat.ofInt (floorQ a))):=by
 rw [y04 yfk]
 obtain ⟨m,rfl⟩:∃m,n=m+1:=⟨n-1,by omega⟩
 have hd:=y68 a ha.den (by omega) (n:=m+1) (by omega)
 have hf:=y02 (yn2 a.num a.den a.den_pos ha.num (by omega) (n:=m) (by omega)) (can2 (y6y _) (y0c _))
 have ho:=y02 (yoh (floorQ a) m) (can1 (y6y _))
 unfold floorQ at ho ⊢
 generalize a.num / (a.den:Int)=w at hf ho ⊢
 rw [yfl] at ho ⊢
 unfold qV qC natV at hd
 unfold wV wC natV at hf ho
 unfold qV qC natV
 simp only [go_sem,Fn.y2t,hd,hf,ho,Nat.zero_lt_succ,Nat.reduceLT]
end Go.Ev
namespace Go.Ev
theorem ypk (q:Rat):(qC q).length=3:=rfl
theorem yuu (a b:Rat):(qC a++qC b).length=6:=rfl
theorem yua (a b c d:Rat):(qC a++(qC b++(qC c++qC d))).length=12:=rfl
theorem yxp (a:Rat):sub (qC a) 0 3=some (qC a):=rfl
theorem yxd (a:Rat) (l:List AV):sub (qC a++l) 0 3=some (qC a):=by
 unfold sub qC
 have:Nat.ble 3 (l.length+1+1+1)=true:=Nat.ble_eq_true_of_le (by omega)
 simp [this]
theorem yxr (a:Rat) (l:List AV) (n:Nat):sub (qC a++l) 3 n=sub l 0 n:=by
 unfold sub qC
 have:Nat.ble (3+n) (l.length+1+1+1)=Nat.ble (0+n) l.length:=by
  rw [Nat.zero_add,show 3+n=n+1+1+1 by omega];rfl
 simp only [List.cons_append,List.nil_append,List.length_cons,this,List.drop_succ_cons,List.drop_zero]
theorem yq7 (a:Rat) (l:List AV) (k n:Nat):sub (qC a++l) (k+3) n=sub l k n:=by
 unfold sub qC
 have:Nat.ble (k+3+n) (l.length+1+1+1)=Nat.ble (k+n) l.length:=by
  rw [show k+3+n=(k+n)+1+1+1 by omega];rfl
 simp only [List.cons_append,List.nil_append,List.length_cons,this,List.drop_succ_cons]
theorem ywi (a:Rat) (l:List AV) (n:Nat):sub (qC a++l) 6 n=sub l 3 n:=yq7 a l 3 n
theorem yvr (a:Rat) (l:List AV) (n:Nat):sub (qC a++l) 9 n=sub l 6 n:=yq7 a l 6 n
theorem yui (a b c d:Rat):sub (qC a++(qC b++(qC c++qC d))) 0 12=some (qC a++(qC b++(qC c++qC d))):=rfl
theorem put_z (x y z:AV) (l:List AV) (q:Rat):put (x::y::z::l) 0 (qC q)=some (qC q++l):=by
 unfold put qC
 have:Nat.ble 3 (l.length+1+1+1)=true:=Nat.ble_eq_true_of_le (by omega)
 simp [this]
theorem yxb (x y z:AV) (q:Rat):put [x,y,z] 0 (qC q)=some (qC q):=rfl
theorem put_q (p:Rat) (l:List AV) (q:Rat):put (qC p++l) 0 (qC q)=some (qC q++l):=put_z _ _ _ l q
theorem yxe (p q:Rat):put (qC p) 0 (qC q)=some (qC q):=rfl
theorem yj6 (p:Rat) (l:List AV) (k:Nat) (xs:List AV):put (qC p++l) (k+3) xs=(put l k xs).map (qC p++·):=by
 unfold put qC
 have:Nat.ble (k+3+xs.length) (l.length+1+1+1)=Nat.ble (k+xs.length) l.length:=by
  rw [show k+3+xs.length=(k+xs.length)+1+1+1 by omega];rfl
 simp only [List.cons_append,List.nil_append,List.length_cons,this,List.take_succ_cons]
 cases Nat.ble (k+xs.length) l.length with
 | true=>
  have e:k+3+xs.length=k+xs.length+1+1+1:=by omega
  simp only [e,List.drop_succ_cons,cond_true,Option.map_some,List.cons_append]
 | false=>rfl
theorem yx1 (p:Rat) (l xs:List AV):put (qC p++l) 3 xs=(put l 0 xs).map (qC p++·):=yj6 p l 0 xs
theorem yx5 (p:Rat) (l xs:List AV):put (qC p++l) 6 xs=(put l 3 xs).map (qC p++·):=yj6 p l 3 xs
theorem ywq (p:Rat) (l xs:List AV):put (qC p++l) 9 xs=(put l 6 xs).map (qC p++·):=yj6 p l 6 xs
theorem ywa (z1 z2 z3 z4 z5 z6 z7 z8 z9 z10 z11 z12:AV) (a b c d:Rat):put [z1,z2,z3,z4,z5,z6,z7,z8,z9,z10,z11,z12] 0 (qC a++(qC b++(qC c++qC d)))=some (qC a++(qC b++(qC c++qC d))):=rfl
theorem y6u (a b c d:Rat):CanS (.agg (qC a++(qC b++(qC c++qC d)))):=.agg _ fun x hx=>by
 have h:∀q:Rat,x∈qC q→Canon x:=fun q hx=>by
  unfold qC at hx
  simp only [List.mem_cons,List.not_mem_nil,or_false] at hx
  rcases hx with rfl | rfl | rfl
  ·exact .bool _
  ·exact .sl _
  ·exact .sl _
 simp only [List.mem_append] at hx
 rcases hx with hx | hx | hx | hx<;>exact h _ hx
theorem ya9 (a:Rat) (ob:Nat→Option AObj) (fz:Nat→Nat):frzS ob fz (.agg (qC a))=some (fz,.agg (qC a)):=(y1a a).frz ob fz
theorem yt0 (a b c d:Rat) (ob:Nat→Option AObj) (fz:Nat→Nat):frzS ob fz (.agg (qC a++(qC b++(qC c++qC d))))=some (fz,.agg (qC a++(qC b++(qC c++qC d)))):=(y6u a b c d).frz ob fz
attribute [go_sem ↓] ypk yuu yua yxp yxd yxr ywi yvr yui put_z yxb put_q yxe yx1 yx5 ywq ywa ya9 yt0
attribute [go_sem] List.append_nil Option.map_some
end Go.Ev
namespace Go.Ev
theorem cMul (a b:Rat) {S T:Nat} (ha:SmQ S a) (hb:SmQ T b) (h:S+T<2^36):Calling Id.y05 [.agg (qC a),.agg (qC b)] (.agg (qC (a*b))):=
 ⟨K (S+T)+4,fun n hn=>by obtain ⟨m,rfl⟩:∃m,n=m+1:=⟨n-1,by omega⟩;exact y02 (ygw a b ha hb h (by omega)) (can2 (y1a _) (y1a _))⟩
theorem cAdd (a b:Rat) {S T:Nat} (ha:SmQ S a) (hb:SmQ T b) (h:S+T<2^36):Calling Id.y0a [.agg (qC a),.agg (qC b)] (.agg (qC (a+b))):=
 ⟨K (S+T+1)+4,fun n hn=>by obtain ⟨m,rfl⟩:∃m,n=m+1:=⟨n-1,by omega⟩;exact y02 (yh3 a b ha hb h (by omega)) (can2 (y1a _) (y1a _))⟩
theorem cSub (a b:Rat) {S T:Nat} (ha:SmQ S a) (hb:SmQ T b) (h:S+T<2^36):Calling Id.y0u [.agg (qC a),.agg (qC b)] (.agg (qC (a-b))):=
 ⟨K (S+T+1)+6,fun n hn=>by obtain ⟨m,rfl⟩:∃m,n=m+1:=⟨n-1,by omega⟩;exact y02 (ymg a b ha hb h (by omega)) (can2 (y1a _) (y1a _))⟩
theorem cDiv (a b:Rat) (h0:b.num≠0) {S T:Nat} (ha:SmQ S a) (hb:SmQ T b) (h:S+T<2^36):Calling Id.y3b [.agg (qC a),.agg (qC b)] (.tup [.agg (qC (a / b)),.one (.int .i64 0)]):=
 ⟨K (S+T)+6,fun n hn=>by obtain ⟨m,rfl⟩:∃m,n=m+1:=⟨n-1,by omega⟩;exact y02 (ymo a b h0 ha hb h (by omega)) (can2 (y1a _) (y1a _))⟩
theorem cNeg (a:Rat):Calling Id.y0p [.agg (qC a)] (.agg (qC (-a))):=
 ⟨2,fun n hn=>by obtain ⟨m,rfl⟩:∃m,n=m+2:=⟨n-2,by omega⟩;exact y02 (ygn a m) (can1 (y1a _))⟩
theorem cSign (a:Rat):Calling Id.y09 [.agg (qC a)] (.one (.int .i64 (signI a.num))):=
 ⟨2,fun n hn=>by obtain ⟨m,rfl⟩:∃m,n=m+2:=⟨n-2,by omega⟩;exact y02 (yes a m) (can1 (y1a _))⟩
theorem cCmp (a b:Rat) {S T:Nat} (ha:SmQ S a) (hb:SmQ T b) (h:S+T<2^36):Calling Id.y0s [.agg (qC a),.agg (qC b)] (.one (.int .i64 (cmpQ a b))):=
 ⟨4*(S+T)+101,fun n hn=>by obtain ⟨m,rfl⟩:∃m,n=m+1:=⟨n-1,by omega⟩;exact y02 (ycx a b ha hb h (by omega)) (can2 (y1a _) (y1a _))⟩
theorem cInt (z:Int) (h1:-9223372036854775808≤z) (h2:z<9223372036854775808):Calling Id.y0m [.one (.int .i64 z)] (.agg (qC (Rat.ofInt z))):=
 ⟨10,fun n hn=>by obtain ⟨m,rfl⟩:∃m,n=m+1:=⟨n-1,by omega⟩;exact y02 (ylw z h1 h2 (by omega)) (can1 (.one _ (.int _ _)))⟩
theorem cFloor (a:Rat) {S:Nat} (ha:SmQ S a) (h:S<2^36):Calling Id.y2t [.agg (qC a)] (.agg (qC (Rat.ofInt (floorQ a)))):=
 ⟨2*S+51,fun n hn=>by obtain ⟨m,rfl⟩:∃m,n=m+1:=⟨n-1,by omega⟩;exact y02 (yq1 a ha h (by omega)) (can1 (y1a _))⟩
theorem yiw (a b:Rat) (h0:b.num≠0) {S T:Nat} (ha:SmQ S a) (hb:SmQ T b) (h:S+T<2^36):Ends Id.y0t [.agg (qC a),.agg (qC b)] (.agg (qC (a / b))):=by
 obtain ⟨N1,h1⟩:=cDiv a b h0 ha hb h
 refine Ends.of (N1+1) fun {n} hn=> ?_
 rw [y04 ybr]
 have h1:=h1 n (by omega)
 simp only [go_sem,Fn.y0t,h1]
theorem cQuo (a b:Rat) (h0:b.num≠0) {S T:Nat} (ha:SmQ S a) (hb:SmQ T b) (h:S+T<2^36):Calling Id.y0t [.agg (qC a),.agg (qC b)] (.agg (qC (a / b))):=
 (yiw a b h0 ha hb h).call (can2 (y1a _) (y1a _))
structure RN where
 low:Rat
 high:Rat
 most:Rat
 step:Rat
theorem ylg (l h m s:Rat):Ends Id.y13 [.agg (qC l++(qC h++(qC m++qC s)))] (.agg (qC (-h)++(qC (-l)++(qC m++qC s)))):=by
 obtain ⟨N1,h1⟩:=cNeg h
 obtain ⟨N2,h2⟩:=cNeg l
 refine Ends.of (N1+N2+1) fun {n} hn=> ?_
 rw [y04 ya7]
 have h1:=h1 n (by omega)
 have h2:=h2 n (by omega)
 simp only [go_sem,Fn.y13,h1,h2]
theorem y8m {z:Int} {S:Nat} (h:z.natAbs<2^(S+1)):SmQ (S+1) (Rat.ofInt z):=⟨h,by show 1<2^(S+1);exact Nat.one_lt_two_pow (by omega)⟩
theorem smQ_one:SmQ 2 (Rat.ofInt 1):=y8m (S:=1) (by decide)
theorem ycs:SmQ 2 (Rat.ofInt 2):=y8m (S:=1) (by decide)
theorem y9t {q:Rat} {S:Nat} (h:SmQ S q):SmQ (S+1) (Rat.ofInt (floorQ q)):=by
 refine y8m ?_
 unfold floorQ
 have h1:=h.num
 have h2:(q.num / (q.den:Int)).natAbs≤q.num.natAbs+1:=by
  have hd:(0:Int)<q.den:=by have:=q.den_pos;omega
  have a1:=Int.ediv_mul_le q.num (b:=(q.den:Int)) (by omega)
  have a2:=Int.lt_ediv_add_one_mul_self q.num hd
  by_cases hz:0≤q.num
  ·have b1:0≤q.num / (q.den:Int):=Int.ediv_nonneg hz (by omega)
   have b2:q.num / (q.den:Int)≤q.num:=Int.ediv_le_self _ hz
   omega
  ·have b1:q.num / (q.den:Int)<0:=Int.ediv_neg_of_neg_of_pos (by omega) hd
   have b2:q.num≤q.num / (q.den:Int):=by
    have:q.num / (q.den:Int)*(q.den:Int)≤q.num / (q.den:Int):=by
     have:=Int.mul_le_mul_of_nonpos_left (a:=q.num / (q.den:Int)) (b:=(q.den:Int)) (c:=1) (by omega) (by omega)
     omega
    have c:=Int.lt_ediv_add_one_mul_self q.num hd
    by_cases e:(q.den:Int)=1
    ·rw [e];simp
    ·have h3:(q.num / (q.den:Int)+1)*(q.den:Int)≤(q.num / (q.den:Int)+1):=by
      have:=Int.mul_le_mul_of_nonpos_left (a:=q.num / (q.den:Int)+1) (b:=(q.den:Int)) (c:=1) (by omega) (by omega)
      omega
     omega
   omega
 have:2^(S+1)=2^S+2^S:=by rw [Nat.pow_succ];omega
 have:0<2^S:=Nat.pow_pos (by decide)
 omega
def triQ (n:Rat):Rat:=n*(n+1) / 2
theorem ys1 (n:Rat) {S:Nat} (hn:SmQ S n) (h:S<2^30):Ends Id.y39 [.agg (qC n)] (.agg (qC (triQ n))):=by
 have e1:Rat.ofInt 1=1:=rfl
 have e2:Rat.ofInt 2=2:=rfl
 obtain ⟨N1,h1⟩:=cInt 1 (by decide) (by decide)
 obtain ⟨N2,h2⟩:=cInt 2 (by decide) (by decide)
 obtain ⟨N3,h3⟩:=cAdd n (Rat.ofInt 1) hn smQ_one (by omega)
 obtain ⟨N4,h4⟩:=cMul n (n+Rat.ofInt 1) hn (hn.add smQ_one) (by omega)
 obtain ⟨N5,h5⟩:=cQuo (n*(n+Rat.ofInt 1)) (Rat.ofInt 2) (by decide) (hn.mul (hn.add smQ_one)) ycs (by omega)
 refine Ends.of (N1+N2+N3+N4+N5+1) fun {k} hk=> ?_
 rw [y04 yik]
 unfold triQ
 rw [←e1,←e2]
 have h1:=h1 k (by omega)
 have h2:=h2 k (by omega)
 have h3:=h3 k (by omega)
 have h4:=h4 k (by omega)
 have h5:=h5 k (by omega)
 simp only [go_sem,Fn.y39,h1,h2,h3,h4,h5]
theorem cTri (n:Rat) {S:Nat} (hn:SmQ S n) (h:S<2^30):Calling Id.y39 [.agg (qC n)] (.agg (qC (triQ n))):=(ys1 n hn h).call (can1 (y1a _))
theorem y61 {n:Rat} {S:Nat} (hn:SmQ S n):SmQ (2*S+5) (triQ n):=by
 have:=(hn.mul (hn.add smQ_one)).div (b:=Rat.ofInt 2) (by decide) ycs
 exact this.mono (by omega)
theorem ynw (l h m s:Rat) {S:Nat} (hm:SmQ S m) (hs:SmQ S s) (hS:S<2^30):Ends Id.y0o [.agg (qC l++(qC h++(qC m++qC s)))] (.agg (qC (s*m))):=by
 obtain ⟨N1,h1⟩:=cMul s m hs hm (by omega)
 refine Ends.of (N1+1) fun {n} hn=> ?_
 rw [y04 yb9]
 have h1:=h1 n (by omega)
 simp only [go_sem,Fn.y0o,h1]
theorem cBrake (l h m s:Rat) {S:Nat} (hm:SmQ S m) (hs:SmQ S s) (hS:S<2^30):Calling Id.y0o [.agg (qC l++(qC h++(qC m++qC s)))] (.agg (qC (s*m))):=(ynw l h m s hm hs hS).call (can1 (y6u _ _ _ _))
theorem cTurned (l h m s:Rat):Calling Id.y13 [.agg (qC l++(qC h++(qC m++qC s)))] (.agg (qC (-h)++(qC (-l)++(qC m++qC s)))):=(ylg l h m s).call (can1 (y6u _ _ _ _))
end Go.Ev
namespace Go.Ev
def minQ (a b:Rat):Rat:=if cmpQ b a<0 then b else a
def maxQ (a b:Rat):Rat:=if cmpQ b a>0 then b else a
theorem ye8 {S:Nat} (a b:Rat) (ha:SmQ S a) (hb:SmQ S b) (hS:S<2^35):Ends Id.y3z [.one (.sl false [qC a,qC b])] (.agg (qC (minQ a b))):=by
 refine .of (4*(S+S)+110) fun {n} hn=> ?_
 obtain ⟨n,rfl⟩:∃m,n=m+2:=⟨n-2,by omega⟩
 have h:=y02 (yje Id.y3r a b _ (n:=n+1) (by omega) (yte b a hb ha (by omega) (n:=n) (by omega))) (can2 (.one _ (.fn _)) (.one _ (.sl _)))
 rw [y04 ylb]
 have e:(if decide (cmpQ b a<0)=true then b else a)=minQ a b:=by unfold minQ;simp
 rw [e] at h
 unfold qV at h
 simp only [go_sem,Fn.y3z,h]
theorem yeb {S:Nat} (a b:Rat) (ha:SmQ S a) (hb:SmQ S b) (hS:S<2^35):Ends Id.y47 [.one (.sl false [qC a,qC b])] (.agg (qC (maxQ a b))):=by
 refine .of (4*(S+S)+110) fun {n} hn=> ?_
 obtain ⟨n,rfl⟩:∃m,n=m+2:=⟨n-2,by omega⟩
 have h:=y02 (yje Id.y3t a b _ (n:=n+1) (by omega) (yre b a hb ha (by omega) (n:=n) (by omega))) (can2 (.one _ (.fn _)) (.one _ (.sl _)))
 rw [y04 ylq]
 have e:(if decide (cmpQ b a>0)=true then b else a)=maxQ a b:=by unfold maxQ;simp
 rw [e] at h
 unfold qV at h
 simp only [go_sem,Fn.y47,h]
theorem SmQ.min {S:Nat} {a b:Rat} (ha:SmQ S a) (hb:SmQ S b):SmQ S (minQ a b):=by unfold minQ;split<;>assumption
theorem SmQ.max {S:Nat} {a b:Rat} (ha:SmQ S a) (hb:SmQ S b):SmQ S (maxQ a b):=by unfold maxQ;split<;>assumption
end Go.Ev
namespace Go.Ev
def stopQ (m s v:Rat):Rat:=s*(Rat.ofInt (floorQ (v / (s*m)))*v-s*m*triQ (Rat.ofInt (floorQ (v / (s*m)))))
theorem ype (l h m s v:Rat) {S:Nat} (hm:SmQ S m) (hs:SmQ S s) (hv:SmQ S v) (h0:(s*m).num≠0) (hS:S<2^24):Ends Id.y1y [.agg (qC l++(qC h++(qC m++qC s))),.agg (qC v)] (.agg (qC (stopQ m s v))):=by
 have hb:=hs.mul hm
 have hq:=hv.div h0 hb
 have hn:=y9t hq
 obtain ⟨N1,h1⟩:=cBrake l h m s hm hs (by omega)
 obtain ⟨N2,h2⟩:=cQuo v (s*m) h0 hv hb (by omega)
 obtain ⟨N3,h3⟩:=cFloor (v / (s*m)) hq (by omega)
 unfold stopQ
 generalize hg:Rat.ofInt (floorQ (v / (s*m)))=n at hn h3 ⊢
 obtain ⟨N4,h4⟩:=cMul n v hn hv (by omega)
 obtain ⟨N5,h5⟩:=cTri n hn (by omega)
 obtain ⟨N6,h6⟩:=cMul (s*m) (triQ n) hb (y61 hn) (by omega)
 obtain ⟨N7,h7⟩:=cSub (n*v) (s*m*triQ n) (hn.mul hv) (hb.mul (y61 hn)) (by omega)
 obtain ⟨N8,h8⟩:=cMul s (n*v-s*m*triQ n) hs ((hn.mul hv).sub (hb.mul (y61 hn))) (by omega)
 refine Ends.of (N1+N2+N3+N4+N5+N6+N7+N8+1) fun {k} hk=> ?_
 rw [y04 ybk]
 have h1:=h1 k (by omega)
 have h2:=h2 k (by omega)
 have h3:=h3 k (by omega)
 have h4:=h4 k (by omega)
 have h5:=h5 k (by omega)
 have h6:=h6 k (by omega)
 have h7:=h7 k (by omega)
 have h8:=h8 k (by omega)
 simp only [go_sem,Fn.y1y,h1,h2,h3,h4,h5,h6,h7,h8]
theorem yjh (a b c d e:Rat):∀x∈[SV.agg (qC a++(qC b++(qC c++qC d))),SV.agg (qC e)],CanS x:=can2 (y6u _ _ _ _) (y1a _)
theorem cStop (l h m s v:Rat) {S:Nat} (hm:SmQ S m) (hs:SmQ S s) (hv:SmQ S v) (h0:(s*m).num≠0) (hS:S<2^24):Calling Id.y1y [.agg (qC l++(qC h++(qC m++qC s))),.agg (qC v)] (.agg (qC (stopQ m s v))):=
 (ype l h m s v hm hs hv h0 hS).call (yjh _ _ _ _ _)
theorem yka {m s v:Rat} {S:Nat} (hm:SmQ S m) (hs:SmQ S s) (hv:SmQ S v) (h0:(s*m).num≠0):SmQ (13*S+20) (stopQ m s v):=by
 have hb:=hs.mul hm
 have hn:=y9t (hv.div h0 hb)
 exact (hs.mul ((hn.mul hv).sub (hb.mul (y61 hn)))).mono (by omega)
def farQ (m s p v:Rat) (d:Int):Rat:=if 0<v.num then p+s*Rat.ofInt d*v+stopQ m s v else p
def belowQ (h m s p v:Rat) (d:Int):Bool:=decide (cmpQ (farQ m s p v d) h≤0)
theorem yor (z:Int):(signI z>0)=(0<z):=by
 unfold signI
 by_cases h:z<0
 ·simp only [h,if_true,eq_iff_iff];omega
 ·by_cases h0:z=0
  ·simp only [h0,if_true,eq_iff_iff];omega
  ·simp only [h,h0,if_false,eq_iff_iff];omega
theorem ynb (l h m s p v:Rat) (d:Int) {S:Nat} (hh:SmQ S h) (hm:SmQ S m) (hs:SmQ S s) (hp:SmQ S p) (hv:SmQ S v) (h0:(s*m).num≠0) (d0:0≤d) (d1:d≤16) (hS:S<2^20):
  Ends Id.y12 [.agg (qC l++(qC h++(qC m++qC s))),.agg (qC p),.agg (qC v),.one (.int .i64 d)] (.one (.bool (belowQ h m s p v d))):=by
 have hd:SmQ 6 (Rat.ofInt d):=y8m (S:=5) (by omega)
 obtain ⟨N1,h1⟩:=cSign v
 obtain ⟨N2,h2⟩:=cInt d (by omega) (by omega)
 obtain ⟨N3,h3⟩:=cMul s (Rat.ofInt d) hs hd (by omega)
 obtain ⟨N4,h4⟩:=cMul (s*Rat.ofInt d) v (hs.mul hd) hv (by omega)
 have hx:=(hs.mul hd).mul hv
 obtain ⟨N5,h5⟩:=cAdd p (s*Rat.ofInt d*v) hp hx (by omega)
 obtain ⟨N6,h6⟩:=cStop l h m s v hm hs hv h0 (by omega)
 obtain ⟨N7,h7⟩:=cAdd (p+s*Rat.ofInt d*v) (stopQ m s v) (hp.add hx) (yka hm hs hv h0) (by omega)
 have hf:SmQ (17*S+40) (farQ m s p v d):=by
  unfold farQ
  split
  ·exact ((hp.add hx).add (yka hm hs hv h0)).mono (by omega)
  ·exact hp.mono (by omega)
 obtain ⟨N8,h8⟩:=cCmp (farQ m s p v d) h hf hh (by omega)
 refine Ends.of (N1+N2+N3+N4+N5+N6+N7+N8+1) fun {k} hk=> ?_
 rw [y04 yba]
 have h1:=h1 k (by omega)
 have h2:=h2 k (by omega)
 have h3:=h3 k (by omega)
 have h4:=h4 k (by omega)
 have h5:=h5 k (by omega)
 have h6:=h6 k (by omega)
 have h7:=h7 k (by omega)
 have h8:=h8 k (by omega)
 have hp:=yor v.num
 unfold belowQ
 unfold farQ at h8 ⊢
 by_cases hv0:0<v.num
 ·simp only [hv0,if_true] at hp h8 ⊢
  simp only [go_sem,Fn.y12,h1,h2,h3,h4,h5,h6,h7,h8,hp,decide_true]
 ·simp only [hv0,if_false] at hp h8 ⊢
  simp only [go_sem,Fn.y12,h1,h8,hp,decide_false]
end Go.Ev
namespace Go.Ev
def safeQ (l h m s p v:Rat) (d:Int):Bool:=belowQ h m s p v d&&belowQ (-l) m s (-p) (-v) d
theorem yap (a b c d e f:Rat) (z:Int):∀x∈[SV.agg (qC a++(qC b++(qC c++qC d))),SV.agg (qC e),SV.agg (qC f),.one (.int .i64 z)],CanS x:=fun x hx=>by
 simp only [List.mem_cons,List.not_mem_nil,or_false] at hx
 rcases hx with rfl | rfl | rfl | rfl
 ·exact y6u _ _ _ _
 ·exact y1a _
 ·exact y1a _
 ·exact .one _ (.int _ _)
theorem cBelow (l h m s p v:Rat) (d:Int) {S:Nat} (hh:SmQ S h) (hm:SmQ S m) (hs:SmQ S s) (hp:SmQ S p) (hv:SmQ S v) (h0:(s*m).num≠0) (d0:0≤d) (d1:d≤16) (hS:S<2^20):
  Calling Id.y12 [.agg (qC l++(qC h++(qC m++qC s))),.agg (qC p),.agg (qC v),.one (.int .i64 d)] (.one (.bool (belowQ h m s p v d))):=
 (ynb l h m s p v d hh hm hs hp hv h0 d0 d1 hS).call (yap _ _ _ _ _ _ _)
theorem yob (l h m s p v:Rat) (d:Int) {S:Nat} (hl:SmQ S l) (hh:SmQ S h) (hm:SmQ S m) (hs:SmQ S s) (hp:SmQ S p) (hv:SmQ S v) (h0:(s*m).num≠0) (d0:0≤d) (d1:d≤16) (hS:S<2^20):
  Ends Id.y11 [.agg (qC l++(qC h++(qC m++qC s))),.agg (qC p),.agg (qC v),.one (.int .i64 d)] (.one (.bool (safeQ l h m s p v d))):=by
 obtain ⟨N1,h1⟩:=cBelow l h m s p v d hh hm hs hp hv h0 d0 d1 hS
 obtain ⟨N2,h2⟩:=cTurned l h m s
 obtain ⟨N3,h3⟩:=cNeg p
 obtain ⟨N4,h4⟩:=cNeg v
 obtain ⟨N5,h5⟩:=cBelow (-h) (-l) m s (-p) (-v) d hl.neg hm hs hp.neg hv.neg h0 d0 d1 hS
 refine Ends.of (N1+N2+N3+N4+N5+1) fun {k} hk=> ?_
 rw [y04 ybg]
 have h1:=h1 k (by omega)
 have h2:=h2 k (by omega)
 have h3:=h3 k (by omega)
 have h4:=h4 k (by omega)
 have h5:=h5 k (by omega)
 unfold safeQ
 generalize belowQ (-l) m s (-p) (-v) d=b2 at h5 ⊢
 generalize belowQ h m s p v d=b1 at h1 ⊢
 cases b1 with
 | true=>simp only [go_sem,Fn.y11,h1,h2,h3,h4,h5,Bool.true_and]
 | false=>simp only [go_sem,Fn.y11,h1,Bool.false_and]
theorem cSafe (l h m s p v:Rat) (d:Int) {S:Nat} (hl:SmQ S l) (hh:SmQ S h) (hm:SmQ S m) (hs:SmQ S s) (hp:SmQ S p) (hv:SmQ S v) (h0:(s*m).num≠0) (d0:0≤d) (d1:d≤16) (hS:S<2^20):
  Calling Id.y11 [.agg (qC l++(qC h++(qC m++qC s))),.agg (qC p),.agg (qC v),.one (.int .i64 d)] (.one (.bool (safeQ l h m s p v d))):=
 (yob l h m s p v d hl hh hm hs hp hv h0 d0 d1 hS).call (yap _ _ _ _ _ _ _)
def errR (l h m s:Rat) (d:Int):Int:=if cmpQ l h>0∨m.num≤0∨s.num≤0 then 2 else if d<0∨d>16 then 3 else 0
theorem ykr (z:Int):(signI z≤0)=(z≤0):=by
 unfold signI
 by_cases h:z<0
 ·simp only [h,if_true,eq_iff_iff];omega
 ·by_cases h0:z=0
  ·simp only [h0,if_true,eq_iff_iff];omega
  ·simp only [h,h0,if_false,eq_iff_iff];omega
theorem yn3 (l h m s:Rat) (d:Int) {S:Nat} (hl:SmQ S l) (hh:SmQ S h) (hS:S<2^20):
  Ends Id.y0f [.agg (qC l++(qC h++(qC m++qC s))),.one (.int .i64 d)] (.one (.int .i64 (errR l h m s d))):=by
 obtain ⟨N1,h1⟩:=cCmp l h hl hh (by omega)
 obtain ⟨N2,h2⟩:=cSign m
 obtain ⟨N3,h3⟩:=cSign s
 refine Ends.of (N1+N2+N3+1) fun {k} hk=> ?_
 rw [y04 yb3]
 have h1:=h1 k (by omega)
 have h2:=h2 k (by omega)
 have h3:=h3 k (by omega)
 have e2:=ykr m.num
 have e3:=ykr s.num
 unfold errR
 by_cases a1:cmpQ l h>0
 ·simp only [go_sem,Fn.y0f,h1,a1,decide_true,true_or,if_true]
 ·by_cases a2:m.num≤0
  ·simp only [a2] at e2
   simp only [go_sem,Fn.y0f,h1,h2,a1,a2,e2,decide_true,decide_false,true_or,false_or,if_true]
  ·simp only [a2] at e2
   by_cases a3:s.num≤0
   ·simp only [a3] at e3
    simp only [go_sem,Fn.y0f,h1,h2,h3,a1,a2,a3,e2,e3,decide_true,decide_false,true_or,false_or,if_true]
   ·simp only [a3] at e3
    by_cases a4:d<0
    ·simp only [go_sem,Fn.y0f,h1,h2,h3,a1,a2,a3,a4,e2,e3,decide_true,decide_false,true_or,false_or,if_true,if_false]
    ·by_cases a5:d>16
     ·simp only [go_sem,Fn.y0f,h1,h2,h3,a1,a2,a3,a4,a5,e2,e3,decide_true,decide_false,true_or,false_or,if_true,if_false]
     ·simp only [go_sem,Fn.y0f,h1,h2,h3,a1,a2,a3,a4,a5,e2,e3,decide_true,decide_false,true_or,false_or,if_true,if_false]
theorem cCheckR (l h m s:Rat) (d:Int) {S:Nat} (hl:SmQ S l) (hh:SmQ S h) (hS:S<2^20):
  Calling Id.y0f [.agg (qC l++(qC h++(qC m++qC s))),.one (.int .i64 d)] (.one (.int .i64 (errR l h m s d))):=
 (yn3 l h m s d hl hh hS).call (can2 (y6u _ _ _ _) (.one _ (.int _ _)))
theorem ykn {s m:Rat} (hs:0<s.num) (hm:0<m.num):(s*m).num≠0:=by
 have h1:s≠0:=fun e=>by rw [e] at hs;exact absurd hs (by decide)
 have h2:m≠0:=fun e=>by rw [e] at hm;exact absurd hm (by decide)
 intro h
 have:=Rat.num_eq_zero.1 h
 rcases Rat.mul_eq_zero.1 this with h | h
 ·exact h1 h
 ·exact h2 h
theorem ycl {l h m s:Rat} {d:Int} (e:errR l h m s d=0):¬cmpQ l h>0∧0<m.num∧0<s.num∧0≤d∧d≤16:=by
 unfold errR at e
 split at e
 ·cases e
 ·split at e
  ·cases e
  ·rename_i a b
   simp only [not_or,Int.not_le,Int.not_lt] at a b
   exact ⟨by omega,by omega,by omega,by omega,by omega⟩
theorem yr4 (l h m s p v:Rat) (d:Int) {S:Nat} (hl:SmQ S l) (hh:SmQ S h) (hm:SmQ S m) (hs:SmQ S s) (hp:SmQ S p) (hv:SmQ S v) (hS:S<2^20):
  Ends Id.y3f [.agg (qC l++(qC h++(qC m++qC s))),.agg (qC p),.agg (qC v),.one (.int .i64 d)] (.tup [.one (.bool (decide (errR l h m s d=0)&&safeQ l h m s p v d)),.one (.int .i64 (errR l h m s d))]):=by
 obtain ⟨N1,h1⟩:=cCheckR l h m s d hl hh hS
 by_cases e:errR l h m s d=0
 ·obtain ⟨_,e1,e2,e3,e4⟩:=ycl e
  obtain ⟨N2,h2⟩:=cSafe l h m s p v d hl hh hm hs hp hv (ykn e2 e1) e3 e4 hS
  refine Ends.of (N1+N2+1) fun {k} hk=> ?_
  rw [y04 ya3]
  have h1:=h1 k (by omega)
  have h2:=h2 k (by omega)
  rw [e] at h1 ⊢
  have e0:((0:Int) !=0)=false:=rfl
  simp only [go_sem,Fn.y3f,h1,h2,e0,decide_true,Bool.true_and]
 ·refine Ends.of (N1+1) fun {k} hk=> ?_
  rw [y04 ya3]
  have h1:=h1 k (by omega)
  have e':(errR l h m s d !=0)=true:=by simp [e]
  generalize errR l h m s d=er at h1 e e' ⊢
  simp only [go_sem,Fn.y3f,h1,e',e,decide_false,Bool.false_and]
end Go.Ev
namespace Go.Ev
theorem y9v (q:Rat):q*(q.den:Rat)=(q.num:Rat):=by
 have h:=Rat.num_divInt_den q
 rw [Rat.divInt_eq_div] at h
 have hd:((q.den:Int):Rat)≠0:=by
  intro e;have:=Rat.intCast_eq_zero_iff.1 e;have:=q.den_pos;omega
 have h2:(q.num:Rat) / ((q.den:Int):Rat)*((q.den:Int):Rat)=(q.num:Rat):=Rat.div_mul_cancel hd
 rwa [h] at h2
theorem yco (q:Rat):(0<q.num)=(0<q):=by
 have h1:=@Rat.num_nonneg (-q)
 rw [Rat.neg_num] at h1
 rw [eq_iff_iff]
 constructor
 ·intro h;exact Rat.not_le.1 fun hq=>by have:=h1.2 (by grind);omega
 ·intro h;exact Int.not_le.1 fun hq=>by have:=h1.1 (by omega);grind
def InD (D:Nat) (Z:Nat) (q:Rat):Prop:=∃z:Int,q*((D:Nat):Rat)=(z:Rat)∧z.natAbs<2^Z
theorem InD.sm {D Z S:Nat} {q:Rat} (h:InD D Z q) (hD:0<D) (hS:D<2^S) (hZ:Z≤S):SmQ S q:=by
 obtain ⟨z,h1,h2⟩:=h
 have h3:((q.num*(D:Int):Int):Rat)=((z*(q.den:Int):Int):Rat):=by
  rw [Rat.intCast_mul,Rat.intCast_mul,←h1]
  have:=y9v q
  rw [←this]
  show q*(q.den:Rat)*(D:Rat)=q*(D:Rat)*(q.den:Rat)
  grind
 have h4:q.num*(D:Int)=z*(q.den:Int):=Rat.intCast_inj.1 h3
 have h5:q.num.natAbs*D=z.natAbs*q.den:=by
  have:=congrArg Int.natAbs h4
  rwa [Int.natAbs_mul,Int.natAbs_mul,Int.natAbs_natCast,Int.natAbs_natCast] at this
 have h6:q.den ∣ D:=(q.reduced.symm).dvd_of_dvd_mul_left (h5 ▸ Nat.dvd_mul_left _ _)
 have h7:q.den≤D:=Nat.le_of_dvd hD h6
 refine ⟨?_,by omega⟩
 have h8:q.num.natAbs*D≤z.natAbs*D:=by rw [h5];exact Nat.mul_le_mul_left _ h7
 have h9:q.num.natAbs≤z.natAbs:=Nat.le_of_mul_le_mul_right h8 hD
 exact Nat.lt_of_le_of_lt h9 (Nat.lt_of_lt_of_le h2 (Nat.pow_le_pow_right (by decide) hZ))
theorem InD.mono {D Z Y:Nat} {q:Rat} (h:InD D Z q) (hZ:Z≤Y):InD D Y q:=by
 obtain ⟨z,h1,h2⟩:=h
 exact ⟨z,h1,Nat.lt_of_lt_of_le h2 (Nat.pow_le_pow_right (by decide) hZ)⟩
theorem InD.neg {D Z:Nat} {q:Rat} (h:InD D Z q):InD D Z (-q):=by
 obtain ⟨z,h1,h2⟩:=h
 refine ⟨-z, ?_,by rw [Int.natAbs_neg];exact h2⟩
 rw [Rat.intCast_neg,←h1];grind
theorem InD.add {D Z:Nat} {a b:Rat} (h:InD D Z a) (k:InD D Z b):InD D (Z+1) (a+b):=by
 obtain ⟨z,h1,h2⟩:=h
 obtain ⟨y,k1,k2⟩:=k
 refine ⟨z+y, ?_, ?_⟩
 ·rw [Rat.intCast_add,←h1,←k1];grind
 ·have:=Int.natAbs_add_le z y
  rw [Nat.pow_succ];omega
theorem InD.sub {D Z:Nat} {a b:Rat} (h:InD D Z a) (k:InD D Z b):InD D (Z+1) (a-b):=by
 have:=h.add k.neg
 rwa [←Rat.sub_eq_add_neg] at this
theorem InD.mul {D Z E Y:Nat} {a b:Rat} (h:InD D Z a) (k:InD E Y b):InD (D*E) (Z+Y) (a*b):=by
 obtain ⟨z,h1,h2⟩:=h
 obtain ⟨y,k1,k2⟩:=k
 refine ⟨z*y, ?_,by rw [Int.natAbs_mul];exact y33 h2 k2⟩
 rw [Rat.intCast_mul,←h1,←k1]
 have:((D*E:Nat):Rat)=(D:Rat)*(E:Rat):=Rat.natCast_mul D E
 rw [this];grind
theorem InD.more {D Z C c:Nat} {q:Rat} (h:InD D Z q) (hC:C<2^c):InD (D*C) (Z+c) q:=by
 obtain ⟨z,h1,h2⟩:=h
 refine ⟨z*(C:Int), ?_,by rw [Int.natAbs_mul,Int.natAbs_natCast];exact y33 h2 hC⟩
 rw [Rat.intCast_mul,←h1]
 have:((D*C:Nat):Rat)=(D:Rat)*(C:Rat):=Rat.natCast_mul D C
 rw [this]
 show q*(↑D*↑C)=q*↑D*(C:Rat)
 grind
theorem InD.more' {D Z C c:Nat} {q:Rat} (h:InD D Z q) (hC:C<2^c):InD (C*D) (c+Z) q:=by
 rw [Nat.mul_comm,Nat.add_comm];exact h.more hC
theorem InD.of {S:Nat} {q:Rat} (h:SmQ S q):InD q.den S q:=⟨q.num,y9v q,h.num⟩
theorem InD.int {S:Nat} {z:Int} (h:z.natAbs<2^S):InD 1 S (z:Rat):=⟨z,by show (z:Rat)*1=z;grind,h⟩
theorem InD.inv {S:Nat} {q:Rat} (h:SmQ S q) (h0:q.num≠0):InD q.num.natAbs S q⁻¹:=by
 have e:=y9v q
 have q0:q≠0:=fun e=>h0 (by rw [e];rfl)
 have hi:q*q⁻¹=1:=Rat.mul_inv_cancel q q0
 by_cases hn:q.num<0
 ·refine ⟨-(q.den:Int), ?_,by rw [Int.natAbs_neg,Int.natAbs_natCast];exact h.den⟩
  have e2:((q.num.natAbs:Nat):Rat)=-((q.num:Int):Rat):=by
   have:((q.num.natAbs:Nat):Int)=-q.num:=by omega
   rw [←Rat.intCast_neg,←this];rfl
  rw [e2,←e,Rat.intCast_neg]
  show q⁻¹*-(q*(q.den:Rat))=-(q.den:Rat)
  grind
 ·refine ⟨(q.den:Int), ?_,by rw [Int.natAbs_natCast];exact h.den⟩
  have e2:((q.num.natAbs:Nat):Rat)=((q.num:Int):Rat):=by
   have:((q.num.natAbs:Nat):Int)=q.num:=by omega
   rw [←this];rfl
  rw [e2,←e]
  show q⁻¹*(q*(q.den:Rat))=(q.den:Rat)
  grind
end Go.Ev
namespace Go.Ev
theorem yv7 (a b:Int):(cmpZ a b>0)=(b<a):=by
 unfold cmpZ;rw [eq_iff_iff];(repeat split)<;>omega
theorem yvc (a b:Int):(cmpZ a b<0)=(a<b):=by
 unfold cmpZ;rw [eq_iff_iff];(repeat split)<;>omega
theorem y7s (a b:Rat):(cmpQ a b>0)=(b<a):=by
 unfold cmpQ;rw [yv7,Rat.lt_iff]
theorem ygp (a b:Rat):(cmpQ a b<0)=(a<b):=by
 unfold cmpQ;rw [yvc,Rat.lt_iff]
theorem y8p (a b:Rat):(cmpQ a b≤0)=(a≤b):=by
 have h:=y7s a b
 rw [eq_iff_iff] at h ⊢
 rw [←Rat.not_lt,←h];omega
theorem ytu (a b:Rat):(cmpQ a b=0)=(a=b):=by
 have h1:=y7s a b
 have h2:=ygp a b
 rw [eq_iff_iff] at h1 h2 ⊢
 constructor
 ·intro h;rw [h] at h1 h2;simp at h1 h2;exact Rat.le_antisymm (Rat.not_lt.1 h1) (Rat.not_lt.1 h2)
 ·intro h
  have h3:¬b<a:=by rw [h];exact Rat.lt_irrefl
  have h4:¬a<b:=by rw [h];exact Rat.lt_irrefl
  rw [←h1] at h3;rw [←h2] at h4
  omega
theorem yfj (q:Rat):(q.num<0)=(q<0):=by
 rw [eq_iff_iff]
 have h:=@Rat.num_nonneg q
 rw [←Rat.not_le,←h];omega
theorem yko (q:Rat):(signI q.num<0)=(q<0):=by
 have h1:=yfj q
 rw [eq_iff_iff] at*
 rw [←h1]
 unfold signI
 (repeat split)<;>omega
theorem ymf (q:Rat):absQ q=if q<0 then-q else q:=by
 unfold absQ;simp only [yfj]
theorem ym9 (a b:Rat):minQ a b=if b<a then b else a:=by
 unfold minQ;simp only [ygp]
theorem ym4 (a b:Rat):maxQ a b=if a<b then b else a:=by
 unfold maxQ;simp only [y7s]
theorem SmQ.absQ {S:Nat} {a:Rat} (h:SmQ S a):SmQ S (absQ a):=by
 unfold Ev.absQ;split
 ·exact SmQ.neg h
 ·exact h
end Go.Ev
namespace Go.Ev
theorem yn8 (a b:Rat):CanonEs [qC a,qC b]:=fun e he x hx=>by
 have h:∀q:Rat,x∈qC q→Canon x:=fun q hx=>by
  unfold qC at hx
  simp only [List.mem_cons,List.not_mem_nil,or_false] at hx
  rcases hx with rfl | rfl | rfl
  ·exact .bool _
  ·exact .sl _
  ·exact .sl _
 simp only [List.mem_cons,List.not_mem_nil,or_false] at he
 rcases he with rfl | rfl<;>exact h _ hx
theorem y7m {f:FuncId} {a b:Rat} {r:SV} (h:Ends f [.one (.sl false [qC a,qC b])] r):∃N,∀n,N≤n→∀(ob:Nat→Option AObj) (fz:Nat→Nat) (id:Nat),
  callV (evF E n) f [.one (.rsl id 0 3 0 2 false)] (upd ob id (.row 3 [qC a,qC b] 0)) fz=some (.fzd (raise fz id 2) r):=by
 obtain ⟨N,h⟩:=h
 refine ⟨N,fun n hn ob fz id=> ?_⟩
 rw [y6k]
 have hr:rowAt (upd ob id (.row 3 [qC a,qC b] 0)) id 0=some (3,[qC a,qC b]):=by
  simp only [rowAt,upd_same]
  rfl
 have h1:=yaq (sz:=3) (full:=false) fz hr (lo:=0) (len:=2) (by simp) (yn8 a b)
 simp only [List.drop_zero,Nat.zero_add] at h1
 rw [show ([qC a,qC b]:List (List AV)).take 2=[qC a,qC b] from rfl] at h1
 simp only [mapFz,h1,h n hn,Option.map_some]
def nextQ (m s v w f g:Rat):Rat:=maxQ (maxQ (-g) (v-s*m)) (minQ (minQ f (v+s*m)) (v+s*w))
def holdQ (m s v w f g:Rat):Rat:=(nextQ m s v w f g-v) / s
theorem yia (a b c d e:Rat) (z:Int):∀x∈[SV.agg (qC a++(qC b++(qC c++qC d))),SV.agg (qC e),.one (.int .i64 z)],CanS x:=fun x hx=>by
 simp only [List.mem_cons,List.not_mem_nil,or_false] at hx
 rcases hx with rfl | rfl | rfl
 ·exact y6u _ _ _ _
 ·exact y1a _
 ·exact .one _ (.int _ _)
theorem yph (l h m s p v w:Rat) (d:Int) (f g:Rat) {S T:Nat} (hm:SmQ S m) (hs:SmQ S s) (hv:SmQ S v) (hw:SmQ S w) (hf:SmQ T f) (hg:SmQ T g) (h0:s.num≠0) (hS:S<2^20) (hT:T<2^26)
  (kf:Ends Id.y08 [.agg (qC l++(qC h++(qC m++qC s))),.agg (qC p),.one (.int .i64 d)] (.agg (qC f)))
  (kg:Ends Id.y08 [.agg (qC (-h)++(qC (-l)++(qC m++qC s))),.agg (qC (-p)),.one (.int .i64 d)] (.agg (qC g))):
  Ends Id.y1j [.agg (qC l++(qC h++(qC m++qC s))),.agg (qC p),.agg (qC v),.agg (qC w),.one (.int .i64 d)] (.agg (qC (holdQ m s v w f g))):=by
 obtain ⟨N1,h1⟩:=kf.call (yia _ _ _ _ _ _)
 obtain ⟨N2,h2⟩:=kg.call (yia _ _ _ _ _ _)
 obtain ⟨N3,h3⟩:=cBrake l h m s hm hs (by omega)
 have hb:=hs.mul hm
 obtain ⟨N4,h4⟩:=cAdd v (s*m) hv hb (by omega)
 have t1:SmQ (T+4*S+4) (v+s*m):=(hv.add hb).mono (by omega)
 have t2:SmQ (T+4*S+4) (v-s*m):=(hv.sub hb).mono (by omega)
 have tf:SmQ (T+4*S+4) f:=hf.mono (by omega)
 have tg:SmQ (T+4*S+4) (-g):=hg.neg.mono (by omega)
 obtain ⟨N5,h5⟩:=y7m (ye8 f (v+s*m) tf t1 (by omega))
 obtain ⟨N6,h6⟩:=cTurned l h m s
 obtain ⟨N7,h7⟩:=cNeg p
 obtain ⟨N8,h8⟩:=cNeg g
 obtain ⟨N9,h9⟩:=cSub v (s*m) hv hb (by omega)
 obtain ⟨M1,i1⟩:=y7m (yeb (-g) (v-s*m) tg t2 (by omega))
 obtain ⟨M2,i2⟩:=cMul s w hs hw (by omega)
 obtain ⟨M3,i3⟩:=cAdd v (s*w) hv (hs.mul hw) (by omega)
 have t3:SmQ (T+4*S+4) (v+s*w):=(hv.add (hs.mul hw)).mono (by omega)
 obtain ⟨M4,i4⟩:=y7m (ye8 (minQ f (v+s*m)) (v+s*w) (tf.min t1) t3 (by omega))
 obtain ⟨M5,i5⟩:=y7m (yeb (maxQ (-g) (v-s*m)) (minQ (minQ f (v+s*m)) (v+s*w)) (tg.max t2) ((tf.min t1).min t3) (by omega))
 have tn:SmQ (T+4*S+4) (nextQ m s v w f g):=(tg.max t2).max ((tf.min t1).min t3)
 obtain ⟨M6,i6⟩:=cSub (nextQ m s v w f g) v tn hv (by omega)
 obtain ⟨M7,i7⟩:=cQuo (nextQ m s v w f g-v) s h0 (tn.sub hv) hs (by omega)
 refine Ends.of (N1+N2+N3+N4+N5+N6+N7+N8+N9+M1+M2+M3+M4+M5+M6+M7+1) fun {k} hk=> ?_
 rw [y04 ybi]
 unfold holdQ
 have h1:=h1 k (by omega)
 have h2:=h2 k (by omega)
 have h3:=h3 k (by omega)
 have h4:=h4 k (by omega)
 have h5:=h5 k (by omega)
 have h6:=h6 k (by omega)
 have h7:=h7 k (by omega)
 have h8:=h8 k (by omega)
 have h9:=h9 k (by omega)
 have i1:=i1 k (by omega)
 have i2:=i2 k (by omega)
 have i3:=i3 k (by omega)
 have i4:=i4 k (by omega)
 have i5:=i5 k (by omega)
 have i6:=i6 k (by omega)
 have i7:=i7 k (by omega)
 rw [show maxQ (maxQ (-g) (v-s*m)) (minQ (minQ f (v+s*m)) (v+s*w))=nextQ m s v w f g from rfl] at i5
 simp only [go_sem,Fn.y1j,h1,h2,h3,h4,h5,h6,h7,h8,h9,i1,i2,i3,i4,i5,i6,i7]
end Go.Ev
namespace Go.Ev
theorem ymw:qC 0=[.bool false,.sl false [],.sl false []]:=by
 have:=yfl 0
 unfold qV at this
 have h:natV (0:Int).natAbs=.sl false []:=by
  show natV 0=_
  unfold natV
  rw [Go.Dig.digs_zero]
  rfl
 rw [h] at this
 exact SV.agg.inj this
theorem yqk (a b c d e f g:Rat) (z:Int):∀x∈[SV.agg (qC a++(qC b++(qC c++qC d))),SV.agg (qC e),SV.agg (qC f),SV.agg (qC g),.one (.int .i64 z)],CanS x:=fun x hx=>by
 simp only [List.mem_cons,List.not_mem_nil,or_false] at hx
 rcases hx with rfl | rfl | rfl | rfl | rfl
 ·exact y6u _ _ _ _
 ·exact y1a _
 ·exact y1a _
 ·exact y1a _
 ·exact .one _ (.int _ _)
end Go.Ev
namespace Go.Ev
def wayQ (m s d n:Rat):Rat:=s*m*(n*(Rat.ofInt 1+d)+(triQ n-n))
theorem ytl {ob ob':Nat→Option AObj} {id:Nat} (h:ob' id=ob id):shut ob ob' id=ob id:=by
 unfold shut
 rw [h]
 cases ob id with
 | none=>rfl
 | some o=>cases o<;>rfl
theorem ygs (l h m s d x:Rat) {S T:Nat} (hm:SmQ S m) (hs:SmQ S s) (hd:SmQ S d) (hx:SmQ T x) (hS:S<2^20) (hT:T<2^24):
  ∃N,∀n,N≤n→∀(ob:Nat→Option AObj) (fz:Nat→Nat) (nx:Nat),25≤nx→ob 0=some (.box (qC l++(qC h++(qC m++qC s))))→ob 15=some (.box (qC (Rat.ofInt 1)))→ob 16=some (.box (qC d))→
   ∃ob' nx',evF E n (.fn Id.y0w) [.agg (qC x),.one (.box 0 0),.one (.box 15 0),.one (.box 16 0)] ⟨ob,fz,nx⟩=some (.agg (qC (wayQ m s d x)),⟨ob',fz,nx'⟩)∧nx≤nx'∧∀id,id<nx→ob' id=ob id:=by
 obtain ⟨N1,h1⟩:=cBrake l h m s hm hs (by omega)
 obtain ⟨N2,h2⟩:=cAdd (Rat.ofInt 1) d smQ_one hd (by omega)
 obtain ⟨N3,h3⟩:=cMul x (Rat.ofInt 1+d) hx (smQ_one.add hd) (by omega)
 obtain ⟨N4,h4⟩:=cTri x hx (by omega)
 obtain ⟨N5,h5⟩:=cSub (triQ x) x (y61 hx) hx (by omega)
 obtain ⟨N6,h6⟩:=cAdd (x*(Rat.ofInt 1+d)) (triQ x-x) (hx.mul (smQ_one.add hd)) ((y61 hx).sub hx) (by omega)
 obtain ⟨N7,h7⟩:=cMul (s*m) (x*(Rat.ofInt 1+d)+(triQ x-x)) (hs.mul hm) ((hx.mul (smQ_one.add hd)).add ((y61 hx).sub hx)) (by omega)
 refine ⟨N1+N2+N3+N4+N5+N6+N7+2,fun n hn ob fz nx hnx o0 o15 o16=> ?_⟩
 obtain ⟨k,rfl⟩:∃k,n=k+1:=⟨n-1,by omega⟩
 rw [yb6 y8z]
 have h1:=h1 k (by omega)
 have h2:=h2 k (by omega)
 have h3:=h3 k (by omega)
 have h4:=h4 k (by omega)
 have h5:=h5 k (by omega)
 have h6:=h6 k (by omega)
 have h7:=h7 k (by omega)
 have a0:∀j,(0<nx+j)=True:=fun j=>by simp;omega
 have a15:∀j,(15<nx+j)=True:=fun j=>by simp;omega
 have a16:∀j,(16<nx+j)=True:=fun j=>by simp;omega
 have n0:∀j,(0=nx+j)=False:=fun j=>by simp;omega
 have n15:∀j,(15=nx+j)=False:=fun j=>by simp;omega
 have n16:∀j,(16=nx+j)=False:=fun j=>by simp;omega
 have z0:(0=nx)=False:=by simp;omega
 have z15:(15=nx)=False:=by simp;omega
 have z16:(16=nx)=False:=by simp;omega
 have y0:(nx=0)=False:=by simp;omega
 have y15:(nx=15)=False:=by simp;omega
 have y16:(nx=16)=False:=by simp;omega
 have x0:∀j,(nx+j=0)=False:=fun j=>by simp;omega
 have x15:∀j,(nx+j=15)=False:=fun j=>by simp;omega
 have x16:∀j,(nx+j=16)=False:=fun j=>by simp;omega
 have w1:(nx<nx+2)=True:=by simp
 have w2:(nx+1<nx+2)=True:=by simp
 have w3:(nx=nx+1)=False:=by simp
 have w4:(nx+1=nx)=False:=by simp
 refine ⟨shut ob (upd (upd (upd ob (nx+0) (.box (qC x))) (nx+1) (.box [.bool false,.nils,.nils])) (nx+1) (.box (qC (wayQ m s d x)))),nx+2, ?_,by omega,fun id hid=> ?_⟩
 ·unfold wayQ
  simp only [go_sem,Fn.y0w,o0,o15,o16,a0,a15,a16,n0,n15,n16,z0,z15,z16,y0,y15,y16,x0,x15,x16,w1,w2,w3,w4,h1,h2,h3,h4,h5,h6,h7]
 ·refine ytl ?_
  rw [y00 (by omega),y00 (by omega),y00 (by omega)]
end Go.Ev
namespace Go.Ev
theorem y7a (q:Rat):floorQ q=q.floor:=(Rat.floor_def q).symm
theorem y6a (z:Int):Rat.ofInt z=(z:Rat):=rfl
theorem y8q (n:Rat):2*triQ n=n*(n+1):=by
 unfold triQ
 rw [Rat.mul_comm,Rat.div_mul_cancel (by decide)]
theorem ye3:triQ ((0:Int):Rat)=0:=by
 unfold triQ
 rw [show ((0:Int):Rat)=0 from rfl]
 grind
theorem yla {a b c:Rat} (hc:0<c):c*a≤c*b↔a≤b:=by rw [←Rat.not_lt,←Rat.not_lt,Rat.mul_lt_mul_left hc]
theorem y93 {a b c:Rat} (hc:0<c):a*c≤b*c↔a≤b:=by rw [←Rat.not_lt,←Rat.not_lt,Rat.mul_lt_mul_right hc]
theorem y8n {B v:Rat} (hB:0<B) (N K:Int) (h1:(N:Rat)*B≤v) (h2:v≤((N:Rat)+1)*B):(K:Rat)*v-B*triQ K≤(N:Rat)*v-B*triQ N:=by
 unfold triQ
 rcases Int.lt_trichotomy K N with h | h | h
 ·have h3:(K:Rat)+1≤(N:Rat):=by
   have:((K+1:Int):Rat)≤(N:Rat):=Rat.intCast_le_intCast.2 h
   rwa [Rat.intCast_add] at this
  generalize (K:Rat)=k at*
  generalize (N:Rat)=n at*
  have p1:0≤(n-k)*(v-n*B):=Rat.mul_nonneg (by grind) (by grind)
  have p2:0≤(n-k)*((n-k-1)*B):=Rat.mul_nonneg (by grind) (Rat.mul_nonneg (by grind) (by grind))
  grind
 ·subst h
  exact Rat.le_refl
 ·have h3:(N:Rat)+1≤(K:Rat):=by
   have:((N+1:Int):Rat)≤(K:Rat):=Rat.intCast_le_intCast.2 h
   rwa [Rat.intCast_add] at this
  generalize (K:Rat)=k at*
  generalize (N:Rat)=n at*
  have p1:0≤(k-n)*((n+1)*B-v):=Rat.mul_nonneg (by grind) (by grind)
  have p2:0≤(k-n)*((k-n-1)*B):=Rat.mul_nonneg (by grind) (Rat.mul_nonneg (by grind) (by grind))
  grind
theorem y9m {B v:Rat} (hB:0<B):((floorQ (v / B):Int):Rat)*B≤v∧v≤(((floorQ (v / B):Int):Rat)+1)*B:=by
 rw [y7a]
 have h1:=Rat.floor_le (v / B)
 have h2:=Rat.lt_floor_add_one (v / B)
 rw [Rat.intCast_add] at h2
 have e:v / B*B=v:=Rat.div_mul_cancel (by grind)
 have h3:=Rat.mul_le_mul_of_nonneg_right h1 (c:=B) (by grind)
 have h4:=Rat.mul_lt_mul_of_pos_right h2 hB
 rw [e] at h3 h4
 exact ⟨h3,Rat.le_of_lt h4⟩
theorem y7k {B v:Rat} (hB:0<B) (hv:0≤v):0≤floorQ (v / B):=by
 rw [y7a,Rat.le_floor_iff]
 have:0≤v / B:=by rw [Rat.div_def];exact Rat.mul_nonneg hv (Rat.le_of_lt (Rat.inv_pos.2 hB))
 simpa using this
structure FastOk (h m s p:Rat) (d:Int) (f:Rat):Prop where
 neg:(h-p) / s<0→f=(h-p) / s
 pos:0≤(h-p) / s→∃k:Int,0≤k∧wayQ m s (Rat.ofInt d) (k:Rat)≤(h-p) / s∧(h-p) / s<wayQ m s (Rat.ofInt d) ((k:Rat)+1)∧f*(1+Rat.ofInt d+k)=(h-p) / s+s*m*triQ k
theorem y8b (h m s p v:Rat) (d:Int):(belowQ h m s p v d=true)=(if 0<v then p+s*(d:Rat)*v+s*(((floorQ (v / (s*m)):Int):Rat)*v-s*m*triQ ((floorQ (v / (s*m)):Int):Rat))≤h else p≤h):=by
 unfold belowQ farQ stopQ
 have e:(0<v.num)=(0<v):=by
  exact yco v
 simp only [decide_eq_true_eq,y8p,e,y6a]
 split<;>rfl
theorem y6s {h m s p:Rat} {d:Int} {f:Rat} (hs:0<s) (hm:0<m) (hd:0≤d) (F:FastOk h m s p d f) (w:Rat):(belowQ h m s (p+s*w) w d=true)=(w≤f):=by
 have hB:0<s*m:=Rat.mul_pos hs hm
 have hD:(0:Rat)≤(d:Rat):=Rat.intCast_nonneg.2 hd
 have er:s*((h-p) / s)=h-p:=by rw [Rat.mul_comm,Rat.div_mul_cancel (by grind)]
 obtain ⟨F1,F2⟩:=F
 rw [y8b,eq_iff_iff]
 generalize (h-p) / s=room at*
 have sc:∀x:Rat,(p+s*x≤h↔x≤room):=fun x=>by
  have:=yla (a:=x) (b:=room) hs
  rw [←this]
  constructor<;>intro _<;>grind
 by_cases hw:0<w
 ·rw [if_pos hw]
  have n1:=y9m (v:=w) hB
  have n0:=y7k (v:=w) hB (Rat.le_of_lt hw)
  generalize floorQ (w / (s*m))=N at*
  have e1:p+s*w+s*(d:Rat)*w+s*((N:Rat)*w-s*m*triQ (N:Rat))=p+s*(w+(d:Rat)*w+((N:Rat)*w-s*m*triQ (N:Rat))):=by grind
  rw [e1,sc]
  by_cases hr:room<0
  ·have:=F1 hr
   have hN:(0:Rat)≤(N:Rat):=Rat.intCast_nonneg.2 n0
   have t:=y8n hB N 0 n1.1 n1.2
   have t0:=ye3
   have z0:((0:Int):Rat)=0:=rfl
   rw [t0,z0] at t
   have p1:0≤(d:Rat)*w:=Rat.mul_nonneg hD (Rat.le_of_lt hw)
   constructor<;>intro _<;>grind
  ·obtain ⟨k,k0,k1,k2,k3⟩:=F2 (Rat.not_lt.1 hr)
   have hk:(0:Rat)≤(k:Rat):=Rat.intCast_nonneg.2 k0
   unfold wayQ at k1 k2
   simp only [y6a,triQ] at k1 k2 k3
   rw [show ((1:Int):Rat)=1 from rfl] at k1 k2
   clear F1 F2 sc
   have hB':=hB
   have hf1:(k:Rat)*(s*m)≤f:=by
    have c:0<1+(d:Rat)+(k:Rat):=by grind
    rw [←y93 c,k3]
    generalize s*m=B at*
    generalize (k:Rat)=K at*
    generalize (d:Rat)=D at*
    grind
   have hf2:f≤((k:Rat)+1)*(s*m):=by
    have c:0<1+(d:Rat)+(k:Rat):=by grind
    rw [←y93 c,k3]
    generalize s*m=B at*
    generalize (k:Rat)=K at*
    generalize (d:Rat)=D at*
    grind
   have m1:=y8n hB k N hf1 hf2
   have m2:=y8n hB N k n1.1 n1.2
   simp only [triQ] at m1 m2 ⊢
   have hN:(0:Rat)≤(N:Rat):=Rat.intCast_nonneg.2 n0
   generalize s*m=B at*
   generalize (k:Rat)=K at*
   generalize (N:Rat)=n at*
   generalize (d:Rat)=D at*
   constructor
   ·intro hx
    refine Rat.not_lt.1 fun hlt=> ?_
    have q1:0<(1+D+K)*(w-f):=Rat.mul_pos (by grind) (by grind)
    grind
   ·intro hx
    have q1:0≤(1+D+n)*(f-w):=Rat.mul_nonneg (by grind) (by grind)
    grind
 ·rw [if_neg hw,sc]
  by_cases hr:room<0
  ·rw [F1 hr]
  ·obtain ⟨k,k0,k1,k2,k3⟩:=F2 (Rat.not_lt.1 hr)
   have hk:(0:Rat)≤(k:Rat):=Rat.intCast_nonneg.2 k0
   rw [y6a] at k3
   have t1:=y8q (k:Rat)
   have f0:0≤f:=by
    refine Rat.not_lt.1 fun hlt=> ?_
    have q1:0<(1+(d:Rat)+(k:Rat))*(-f):=Rat.mul_pos (by grind) (by grind)
    have q2:0≤s*m*triQ (k:Rat):=Rat.mul_nonneg (by grind) (by have:0≤(k:Rat)*((k:Rat)+1):=Rat.mul_nonneg hk (by grind);grind)
    grind
   constructor<;>intro _<;>grind
def brkQ (B v:Rat):Rat:=if v< -B then v+B else if v≤B then 0 else v-B
theorem ym7 {B v:Rat} (hB:0<B):brkQ B (-v)=-brkQ B v:=by unfold brkQ;grind
theorem yk9 {B v:Rat} (hB:0<B):v-B≤brkQ B v∧brkQ B v≤v+B:=by unfold brkQ;grind
theorem y9r {h m s p v:Rat} {d:Int} (hs:0<s) (hm:0<m) (hd:0≤d) (hb:belowQ h m s p v d=true):belowQ h m s (p+s*brkQ (s*m) v) (brkQ (s*m) v) d=true:=by
 have hB:0<s*m:=Rat.mul_pos hs hm
 have hD:(0:Rat)≤(d:Rat):=Rat.intCast_nonneg.2 hd
 rw [y8b] at hb ⊢
 by_cases hv:0<v
 ·rw [if_pos hv] at hb
  have n1:=y9m (v:=v) hB
  have n0:=y7k (v:=v) hB (Rat.le_of_lt hv)
  generalize floorQ (v / (s*m))=N at*
  have p1:0≤s*(d:Rat)*v:=Rat.mul_nonneg (Rat.mul_nonneg (by grind) hD) (by grind)
  by_cases hle:v≤s*m
  ·have e:brkQ (s*m) v=0:=by unfold brkQ;grind
   rw [e,if_neg (by grind)]
   have t:=y8n hB N 0 n1.1 n1.2
   have t0:=ye3
   have z0:((0:Int):Rat)=0:=rfl
   rw [t0,z0] at t
   have p2:0≤s*((N:Rat)*v-s*m*triQ (N:Rat)):=Rat.mul_nonneg (by grind) (by grind)
   grind
  ·have e:brkQ (s*m) v=v-s*m:=by unfold brkQ;grind
   rw [e]
   have hw:0<v-s*m:=by grind
   rw [if_pos hw]
   generalize floorQ ((v-s*m) / (s*m))=M at*
   have t:=y8n hB N (M+1) n1.1 n1.2
   rw [Rat.intCast_add,show ((1:Int):Rat)=1 from rfl] at t
   have t1:=y8q (M:Rat)
   have t2:=y8q ((M:Rat)+1)
   have t3:=y8q (N:Rat)
   have p3:0≤s*(((N:Rat)*v-s*m*triQ (N:Rat))-(((M:Rat)+1)*v-s*m*triQ ((M:Rat)+1))):=Rat.mul_nonneg (by grind) (by grind)
   have p4:0≤s*(d:Rat)*(s*m):=Rat.mul_nonneg (Rat.mul_nonneg (by grind) hD) (by grind)
   have e3:s*((M:Rat)*(v-s*m)-s*m*triQ (M:Rat))+s*(v-s*m)=s*(((M:Rat)+1)*v-s*m*triQ ((M:Rat)+1)):=by
    have:(M:Rat)*(v-s*m)-s*m*triQ (M:Rat)+(v-s*m)=((M:Rat)+1)*v-s*m*triQ ((M:Rat)+1):=by
     generalize s*m=B at*
     generalize (M:Rat)=K at*
     grind
    grind
   grind
 ·rw [if_neg hv] at hb
  have hw:¬0<brkQ (s*m) v:=by unfold brkQ;grind
  rw [if_neg hw]
  have:0≤s*(-brkQ (s*m) v):=Rat.mul_nonneg (by grind) (by grind)
  grind
theorem ync {l h m s p:Rat} {d:Int} {f g:Rat} (hs:0<s) (hm:0<m) (hd:0≤d) (F:FastOk h m s p d f) (G:FastOk (-l) m s (-p) d g) (w:Rat):(safeQ l h m s (p+s*w) w d=true)=(w≤f∧-g≤w):=by
 unfold safeQ
 rw [Bool.and_eq_true]
 rw [y6s hs hm hd F w]
 have e:-(p+s*w)=-p+s*(-w):=by grind
 rw [e,y6s hs hm hd G (-w)]
 rw [eq_iff_iff]
 constructor<;>intro h<;>exact ⟨h.1,by grind⟩
theorem ypz {l h m s p v:Rat} {d:Int} {f g:Rat} (hs:0<s) (hm:0<m) (hd:0≤d) (F:FastOk h m s p d f) (G:FastOk (-l) m s (-p) d g) (hsafe:safeQ l h m s p v d=true):∃w,w≤f∧-g≤w∧v-s*m≤w∧w≤v+s*m:=by
 have hB:0<s*m:=Rat.mul_pos hs hm
 unfold safeQ at hsafe
 rw [Bool.and_eq_true] at hsafe
 have h1:=y9r hs hm hd hsafe.1
 have h2:=y9r hs hm hd hsafe.2
 rw [ym7 hB] at h2
 rw [y6s hs hm hd F] at h1
 rw [y6s hs hm hd G] at h2
 exact ⟨brkQ (s*m) v,h1,by grind,(yk9 hB).1,(yk9 hB).2⟩
theorem yg4 {m s v w f g:Rat} (hs:0<s):v+s*holdQ m s v w f g=nextQ m s v w f g:=by
 unfold holdQ
 have:s*((nextQ m s v w f g-v) / s)=nextQ m s v w f g-v:=by rw [Rat.mul_comm,Rat.div_mul_cancel (by grind)]
 grind
theorem yp7 {m s v w f g:Rat} (h:∃u,u≤f∧-g≤u∧v-s*m≤u∧u≤v+s*m):
  nextQ m s v w f g≤f∧-g≤nextQ m s v w f g∧v-s*m≤nextQ m s v w f g∧nextQ m s v w f g≤v+s*m∧
   ∀u,u≤f→-g≤u→v-s*m≤u→u≤v+s*m→(u≤v+s*w→u≤nextQ m s v w f g∧nextQ m s v w f g≤v+s*w)∧(v+s*w≤u→nextQ m s v w f g≤u∧v+s*w≤nextQ m s v w f g):=by
 obtain ⟨u,h1,h2,h3,h4⟩:=h
 unfold nextQ
 simp only [ym9,ym4]
 generalize s*m=B at*
 generalize v+s*w=x at*
 generalize v+B=vb at*
 generalize v-B=va at*
 refine ⟨by grind,by grind,by grind,by grind,fun u u1 u2 u3 u4=>⟨fun h=>by grind,fun h=>by grind⟩⟩
def fastG (room B D:Rat):Nat→Nat→Rat
 | 0,k=>(room+B*triQ (k:Rat)) / (1+D+(k:Rat))
 | n+1,k=>if room<B*(((k:Rat)+1)*(1+D)+(triQ ((k:Rat)+1)-((k:Rat)+1))) then (room+B*triQ (k:Rat)) / (1+D+(k:Rat)) else fastG room B D n (k+1)
def fastQ (h m s p:Rat) (d:Int):Rat:=if (h-p) / s<0 then (h-p) / s else fastG ((h-p) / s) (s*m) (d:Rat) (floorQ ((h-p) / s / (s*m))).toNat 0
theorem yew {room B D:Rat} (hD:0≤D):∀(n k:Nat),B*((k:Rat)*(1+D)+(triQ (k:Rat)-(k:Rat)))≤room→room<B*((((k+n:Nat):Rat)+1)*(1+D)+(triQ (((k+n:Nat):Rat)+1)-(((k+n:Nat):Rat)+1)))→
  ∃j:Nat,B*((j:Rat)*(1+D)+(triQ (j:Rat)-(j:Rat)))≤room∧room<B*(((j:Rat)+1)*(1+D)+(triQ ((j:Rat)+1)-((j:Rat)+1)))∧fastG room B D n k*(1+D+(j:Rat))=room+B*triQ (j:Rat)
 | 0,k,h1,h2=>by
  have hk:(0:Rat)≤(k:Rat):=Rat.natCast_nonneg
  exact ⟨k,h1,h2,by unfold fastG;exact Rat.div_mul_cancel (by grind)⟩
 | n+1,k,h1,h2=>by
  have hk:(0:Rat)≤(k:Rat):=Rat.natCast_nonneg
  unfold fastG
  split
  ·rename_i h3
   exact ⟨k,h1,h3,Rat.div_mul_cancel (by grind)⟩
  ·rename_i h3
   have e:((k+1:Nat):Rat)=(k:Rat)+1:=Rat.natCast_add k 1
   refine yew hD n (k+1) (by rw [e];exact Rat.not_lt.1 h3) ?_
   rw [show k+1+n=k+(n+1) by omega]
   exact h2
theorem yau {h m s p:Rat} {d:Int} (hs:0<s) (hm:0<m) (hd:0≤d):FastOk h m s p d (fastQ h m s p d):=by
 have hB:0<s*m:=Rat.mul_pos hs hm
 have hD:(0:Rat)≤(d:Rat):=Rat.intCast_nonneg.2 hd
 unfold fastQ
 refine ⟨fun hr=>if_pos hr,fun hr=> ?_⟩
 rw [if_neg (Rat.not_lt.2 hr)]
 generalize (h-p) / s=room at*
 have n1:=y9m (v:=room) hB
 have n0:=y7k (v:=room) hB hr
 have n2:room<((((floorQ (room / (s*m))).toNat:Nat):Rat)+1)*(s*m):=by
  have h2:=Rat.lt_floor_add_one (room / (s*m))
  rw [←y7a,Rat.intCast_add] at h2
  have h4:=Rat.mul_lt_mul_of_pos_right h2 hB
  rw [Rat.div_mul_cancel (by grind)] at h4
  have e:(((floorQ (room / (s*m))).toNat:Nat):Rat)=((floorQ (room / (s*m)):Int):Rat):=by
   have:(((floorQ (room / (s*m))).toNat:Nat):Int)=floorQ (room / (s*m)):=by omega
   rw [←this];rfl
  rw [e];exact h4
 generalize (floorQ (room / (s*m))).toNat=n at*
 have hn:(0:Rat)≤(n:Rat):=Rat.natCast_nonneg
 have z0:((0:Nat):Rat)=0:=rfl
 have t0:=y8q ((0:Nat):Rat)
 obtain ⟨j,j1,j2,j3⟩:=yew (room:=room) (B:=s*m) hD n 0 (by
   have:triQ ((0:Nat):Rat)=0:=by grind
   rw [this,z0];grind) (by
   rw [Nat.zero_add]
   have p1:0≤(s*m)*(((n:Rat)+1)*(d:Rat)):=Rat.mul_nonneg (by grind) (Rat.mul_nonneg (by grind) hD)
   have p2:0≤(s*m)*(((n:Rat)+1)*(n:Rat)):=Rat.mul_nonneg (by grind) (Rat.mul_nonneg (by grind) hn)
   simp only [triQ]
   generalize s*m=B at*
   generalize (n:Rat)=x at*
   generalize (d:Rat)=D at*
   grind)
 refine ⟨(j:Int),by omega, ?_, ?_, ?_⟩
 ·unfold wayQ;exact j1
 ·unfold wayQ;exact j2
 ·exact j3
theorem yt2 {h m s p:Rat} {d:Int} {f g:Rat} (hs:0<s) (hm:0<m) (hd:0≤d) (F:FastOk h m s p d f) (G:FastOk h m s p d g):f=g:=by
 have h1:=y6s hs hm hd F
 have h2:=y6s hs hm hd G
 have a:g≤f:=by rw [←h1,h2];exact Rat.le_refl
 have b:f≤g:=by rw [←h2,h1];exact Rat.le_refl
 exact Rat.le_antisymm b a
end Go.Ev
namespace Go.Ev
theorem yk3 {h m s p v:Rat} {d:Int} (hs:0<s) (hm:0<m) (hd:0≤d) (hb:belowQ h m s p v d=true):p≤h:=by
 have hB:0<s*m:=Rat.mul_pos hs hm
 have hD:(0:Rat)≤(d:Rat):=Rat.intCast_nonneg.2 hd
 rw [y8b] at hb
 by_cases hv:0<v
 ·rw [if_pos hv] at hb
  have n1:=y9m (v:=v) hB
  generalize floorQ (v / (s*m))=N at*
  have p1:0≤s*(d:Rat)*v:=Rat.mul_nonneg (Rat.mul_nonneg (by grind) hD) (by grind)
  have t:=y8n hB N 0 n1.1 n1.2
  have t0:=ye3
  have z0:((0:Int):Rat)=0:=rfl
  rw [t0,z0] at t
  have p2:0≤s*((N:Rat)*v-s*m*triQ (N:Rat)):=Rat.mul_nonneg (by grind) (by grind)
  grind
 ·rw [if_neg hv] at hb
  exact hb
theorem yfz {h m s p v:Rat} {d e:Int} (hs:0<s) (he:e≤d) (hb:belowQ h m s p v d=true):belowQ h m s p v e=true:=by
 rw [y8b] at hb ⊢
 by_cases hv:0<v
 ·rw [if_pos hv] at hb ⊢
  have h1:(e:Rat)≤(d:Rat):=Rat.intCast_le_intCast.2 he
  generalize s*(((floorQ (v / (s*m)):Int):Rat)*v-s*m*triQ ((floorQ (v / (s*m)):Int):Rat))=x at*
  have p1:0≤s*((d:Rat)-(e:Rat))*v:=Rat.mul_nonneg (Rat.mul_nonneg (by grind) (by grind)) (by grind)
  grind
 ·rw [if_neg hv] at hb ⊢
  exact hb
theorem ygf {h m s p v:Rat} {d:Int} (hs:0<s) (hb:belowQ h m s p v d=true):belowQ h m s (p+s*v) v (d-1)=true:=by
 rw [y8b] at hb ⊢
 by_cases hv:0<v
 ·rw [if_pos hv] at hb ⊢
  have h1:((d-1:Int):Rat)=(d:Rat)-1:=Rat.intCast_sub d 1
  rw [h1]
  generalize s*(((floorQ (v / (s*m)):Int):Rat)*v-s*m*triQ ((floorQ (v / (s*m)):Int):Rat))=x at*
  grind
 ·rw [if_neg hv] at hb ⊢
  have:0≤s*(-v):=Rat.mul_nonneg (by grind) (by grind)
  grind
theorem ym6 {l h m s p v:Rat} {d:Int} (hs:0<s) (hm:0<m) (hd:0≤d) (hb:safeQ l h m s p v d=true):l≤p∧p≤h:=by
 unfold safeQ at hb
 rw [Bool.and_eq_true] at hb
 have h1:=yk3 hs hm hd hb.1
 have h2:=yk3 hs hm hd hb.2
 exact ⟨by grind,h1⟩
theorem yi1 {l h m s p v:Rat} {d e:Int} (hs:0<s) (he:e≤d) (hb:safeQ l h m s p v d=true):safeQ l h m s p v e=true:=by
 unfold safeQ at hb ⊢
 rw [Bool.and_eq_true] at hb ⊢
 exact ⟨yfz hs he hb.1,yfz hs he hb.2⟩
theorem yop {l h m s p v:Rat} {d:Int} (hs:0<s) (hb:safeQ l h m s p v d=true):safeQ l h m s (p+s*v) v (d-1)=true:=by
 unfold safeQ at hb ⊢
 rw [Bool.and_eq_true] at hb ⊢
 refine ⟨ygf hs hb.1, ?_⟩
 have:=ygf hs hb.2
 rwa [show-p+s*-v=-(p+s*v) by grind] at this
theorem ytf {l h m s p v:Rat} {d:Int} (hs:0<s) (hm:0<m) (hd:0≤d) (hb:safeQ l h m s p v d=true):safeQ l h m s (p+s*brkQ (s*m) v) (brkQ (s*m) v) d=true:=by
 have hB:0<s*m:=Rat.mul_pos hs hm
 unfold safeQ at hb ⊢
 rw [Bool.and_eq_true] at hb ⊢
 refine ⟨y9r hs hm hd hb.1, ?_⟩
 have:=y9r hs hm hd hb.2
 rw [ym7 hB] at this
 rwa [show-p+s*-brkQ (s*m) v=-(p+s*brkQ (s*m) v) by grind] at this
def brakingQ (m s v:Rat):Rat:=maxQ (-m) (minQ m (-v / s))
theorem ybd {m s v:Rat} (hs:0<s) (hm:0<m):v+s*brakingQ m s v=brkQ (s*m) v∧-m≤brakingQ m s v∧brakingQ m s v≤m:=by
 have e:s*(-v / s)=-v:=by rw [Rat.mul_comm,Rat.div_mul_cancel (by grind)]
 have sc:∀a b:Rat,s*a<s*b↔a<b:=fun a b=>Rat.mul_lt_mul_left hs
 unfold brakingQ brkQ
 rw [ym9,ym4]
 generalize-v / s=x at*
 have h1:=sc x m
 have h2:=sc (-m) x
 have h3:=sc (-m) m
 have e1:s*-m=-(s*m):=by grind
 refine ⟨?_,by grind,by grind⟩
 by_cases c:x<m
 ·rw [if_pos c]
  by_cases c2:-m<x
  ·rw [if_pos c2,if_neg (by grind),if_pos (by grind)];grind
  ·rw [if_neg c2]
   by_cases c3:v-s*m=0
   ·rw [if_neg (by grind),if_pos (by grind)];grind
   ·have:s*x≤s*-m:=Rat.not_lt.1 (fun h=>c2 ((sc _ _).1 h))
    rw [if_neg (by have:0<s*m:=Rat.mul_pos hs hm;grind),if_neg (by grind)];grind
 ·rw [if_neg c,if_pos (by grind)]
  have:s*m≤s*x:=Rat.not_lt.1 (fun h=>c ((sc _ _).1 h))
  by_cases c3:v=-(s*m)
  ·have:0<s*m:=Rat.mul_pos hs hm
   rw [if_neg (by grind),if_pos (by grind)];grind
  ·rw [if_pos (by grind)]
def accQ (l h m s:Rat) (d at_ lng:Int) (i:Int) (p v w:Rat):Rat:=
 if lng=0∨i-at_<0 then holdQ m s v w (fastQ h m s p d) (fastQ (-l) m s (-p) d) else if i-at_≥lng then brakingQ m s v else 0
structure Mo where
 a:Rat
 v:Rat
 p:Rat
def moQ (l h m s:Rat) (d at_ lng:Int) (i:Int) (p v w:Rat):Mo:=
 ⟨accQ l h m s d at_ lng i p v w,v+s*accQ l h m s d at_ lng i p v w,p+s*(v+s*accQ l h m s d at_ lng i p v w)⟩
def driveQ (l h m s:Rat) (d at_ lng:Int):Int→Rat→Rat→List Rat→List Mo
 | i,p,v,[]=>[]
 | i,p,v,w::r=>moQ l h m s d at_ lng i p v w::driveQ l h m s d at_ lng (i+1) (moQ l h m s d at_ lng i p v w).p (moQ l h m s d at_ lng i p v w).v r
theorem yi2 (l h m s:Rat) (d at_ lng:Int):∀(ws:List Rat) (i:Int) (p v:Rat),(driveQ l h m s d at_ lng i p v ws).length=ws.length
 | [],i,p,v=>rfl
 | w::r,i,p,v=>by unfold driveQ;rw [List.length_cons,List.length_cons,yi2 l h m s d at_ lng r]
def lookQ (d at_ lng i:Int):Int:=if lng=0∨i≤at_ then d else if i-at_≤lng then d-(i-at_) else 0
def slowQ (v w c:Rat):Prop:=if absQ v≤c then w=0 else absQ w=absQ v-c∧(0<w↔0<v)∧(w<0↔v<0)
theorem ysv {B v:Rat} (hB:0<B):slowQ v (brkQ B v) B:=by
 unfold slowQ brkQ
 simp only [ymf]
 by_cases h1:v< -B
 ·rw [if_pos h1,if_pos (show v<0 by grind),if_neg (by grind)]
  refine ⟨by grind,by grind,by grind⟩
 ·rw [if_neg h1]
  by_cases h2:v≤B
  ·rw [if_pos h2,if_pos (by grind)]
  ·rw [if_neg h2,if_neg (show ¬v<0 by grind),if_neg (by grind)]
   refine ⟨by grind,by grind,by grind⟩
theorem yto {m s a v:Rat} (hs:0<s) (h1:v-s*m≤v+s*a) (h2:v+s*a≤v+s*m):-m≤a∧a≤m:=by
 constructor
 ·refine Rat.not_lt.1 fun hlt=> ?_
  have:=Rat.mul_lt_mul_of_pos_left hlt hs
  grind
 ·refine Rat.not_lt.1 fun hlt=> ?_
  have:=Rat.mul_lt_mul_of_pos_left hlt hs
  grind
theorem mo_ok {l h m s:Rat} {d at_ lng i:Int} {p v w:Rat} (hs:0<s) (hm:0<m) (hd:0≤d) (h1:0≤lng) (h2:lng≤d) (hsafe:safeQ l h m s p v (lookQ d at_ lng i)=true):
  let o:=moQ l h m s d at_ lng i p v w
  safeQ l h m s o.p o.v (lookQ d at_ lng (i+1))=true∧l≤o.p∧o.p≤h∧-m≤o.a∧o.a≤m∧(lng=0∨i<at_→safeQ l h m s o.p o.v d=true)∧(¬(lng=0∨i<at_)→lng≤i-at_→slowQ v o.v (s*m)):=by
 have hB:0<s*m:=Rat.mul_pos hs hm
 intro o
 have key:∃e,0≤e∧lookQ d at_ lng (i+1)≤e∧safeQ l h m s o.p o.v e=true∧-m≤o.a∧o.a≤m∧(lng=0∨i<at_→e=d)∧(¬(lng=0∨i<at_)→lng≤i-at_→slowQ v o.v (s*m)):=by
  show ∃e,0≤e∧lookQ d at_ lng (i+1)≤e∧safeQ l h m s (p+s*(v+s*accQ l h m s d at_ lng i p v w)) (v+s*accQ l h m s d at_ lng i p v w) e=true∧-m≤accQ l h m s d at_ lng i p v w∧accQ l h m s d at_ lng i p v w≤m∧(lng=0∨i<at_→e=d)∧(¬(lng=0∨i<at_)→lng≤i-at_→slowQ v (v+s*accQ l h m s d at_ lng i p v w) (s*m))
  unfold accQ
  by_cases c1:lng=0∨i-at_<0
  ·rw [if_pos c1]
   have el:lookQ d at_ lng i=d:=if_pos (by omega)
   rw [el] at hsafe
   have F:=yau (h:=h) (p:=p) hs hm hd
   have G:=yau (h:=-l) (p:=-p) hs hm hd
   have hr:=ypz hs hm hd F G hsafe
   have hn:=yp7 (w:=w) hr
   have e:=yg4 (m:=m) (v:=v) (w:=w) (f:=fastQ h m s p d) (g:=fastQ (-l) m s (-p) d) hs
   obtain ⟨n1,n2,n3,n4,-⟩:=hn
   rw [←e] at n1 n2 n3 n4
   have na:=yto hs n3 n4
   refine ⟨d,hd, ?_, ?_,na.1,na.2,fun _=>rfl,fun hc=>absurd (by omega) hc⟩
   ·unfold lookQ;split
    ·omega
    ·split<;>omega
   ·rw [ync hs hm hd F G];exact ⟨n1,n2⟩
  ·rw [if_neg c1]
   by_cases c2:i-at_≥lng
   ·rw [if_pos c2]
    obtain ⟨b1,b2,b3⟩:=ybd (v:=v) hs hm
    rw [b1]
    have hsafe0:safeQ l h m s p v 0=true:=by
     refine yi1 hs ?_ hsafe
     unfold lookQ;split
     ·omega
     ·split<;>omega
    refine ⟨0,by omega, ?_,ytf hs hm (by omega) hsafe0,b2,b3,fun hc=>absurd (by omega) c1,fun _ _=>ysv hB⟩
    unfold lookQ;split
    ·omega
    ·split<;>omega
   ·rw [if_neg c2]
    have e0:v+s*0=v:=by grind
    rw [e0]
    refine ⟨lookQ d at_ lng i-1, ?_, ?_,yop hs hsafe,by grind,by grind,fun hc=>absurd (by omega) c1,fun _ hc=>absurd hc (by omega)⟩
    ·unfold lookQ;split
     ·omega
     ·split<;>omega
    ·unfold lookQ;split
     ·split
      ·omega
      ·split<;>omega
     ·split
      ·split
       ·omega
       ·split<;>omega
      ·split
       ·omega
       ·split<;>omega
 obtain ⟨e,e0,e1,e2,e3,e4,e5,e6⟩:=key
 have hl:=ym6 hs hm e0 e2
 exact ⟨yi1 hs e1 e2,hl.1,hl.2,e3,e4,fun hc=>by rw [←e5 hc];exact e2,e6⟩
end Go.Ev
namespace Go.Ev
section
variable {F:Caller} {rb i fuel:Nat} {r:List AOper} {L:List (Nat×SV)} {ob:Nat→Option AObj} {fz:Nat→Nat} {nx:Nat}
theorem yxn (ops:List AOper) (pm:List (Nat×List (Nat×Opd))) (na:Nat) (ks:List Nat):evC F fuel (.regp ops pm na ks) ⟨env L,ob,fz,nx⟩=regC ks (evP F nx ops pm ⟨env L,ob,fz,nx+na⟩):=by
 simp only [evC]
 cases evP F nx ops pm ⟨env L,ob,fz,nx+na⟩<;>rfl
def onP (F:Caller) (rb:Nat) (aos:List AOper) (r:List (Nat×List (Nat×Opd))) (st:St) (ks:List (Nat×Opd)):Option St→Option St
 | some st'=>bif keepOk st st' ks then evP F rb aos r st' else none
 | none=>none
def pickP (F:Caller) (rb j:Nat) (aos:List AOper) (r:List (Nat×List (Nat×Opd))) (st:St) (ks:List (Nat×Opd)):Option AOper→Option St
 | some o=>onP F rb aos r st ks (evOps F true rb j [o] st)
 | none=>none
theorem p_nil (aos:List AOper) (st:St):evP F rb aos [] st=some st:=Eq.trans rfl rfl
theorem yvq (aos:List AOper) (j:Nat) (ks:List (Nat×Opd)) (r:List (Nat×List (Nat×Opd))) (st:St):evP F rb aos ((j,ks)::r) st=pickP F rb j aos r st ks aos[j]? :=by
 rw [evP]
 cases aos[j]? with
 | none=>rfl
 | some o=>
  simp only [pickP,evOps]
  cases evO F true rb j o st<;>rfl
theorem yo8 (j:Nat) (aos:List AOper) (r:List (Nat×List (Nat×Opd))) (st:St) (ks:List (Nat×Opd)) (o:AOper):pickP F rb j aos r st ks (some o)=onP F rb aos r st ks (evOps F true rb j [o] st):=Eq.trans rfl rfl
theorem yub (aos:List AOper) (r:List (Nat×List (Nat×Opd))) (st st':St) (ks:List (Nat×Opd)):onP F rb aos r st ks (some st')=bif keepOk st st' ks then evP F rb aos r st' else none:=Eq.trans rfl rfl
theorem yst (st st':St):keepOk st st' []=true:=Eq.trans rfl rfl
def sameL:Option (List AV)→Option (List AV)→Bool
 | some x,some y=>same2 (sameA DEPTH) x y
 | _,_=>false
theorem yoz (L':List (Nat×SV)) (ob':Nat→Option AObj) (fz':Nat→Nat) (nx' n:Nat) (a:Opd) (r:List (Nat×Opd)):keepOk ⟨env L,ob,fz,nx⟩ ⟨env L',ob',fz',nx'⟩ ((n,a)::r)=(sameL (loadAt ob n (a.ev (env L))) (loadAt ob' n (a.ev (env L)))&&keepOk ⟨env L,ob,fz,nx⟩ ⟨env L',ob',fz',nx'⟩ r):=by
 rw [keepOk]
 cases loadAt ob n (a.ev (env L)) with
 | none=>rfl
 | some x=>cases loadAt ob' n (a.ev (env L))<;>rfl
theorem ynr (x y:List AV):sameL (some x) (some y)=same2 (sameA DEPTH) x y:=Eq.trans rfl rfl
end
theorem y8g {α:Type} {f:α→α→Bool}:∀(l:List α),(∀x∈l,f x x=true)→same2 f l l=true
 | [],_=>rfl
 | x::r,h=>by rw [same2,h x (by simp),y8g r (fun y hy=>h y (by simp [hy]))];rfl
theorem ypn (d:Nat) (k:IntKind) (n:Int):sameA (d+1) (.int k n) (.int k n)=true:=by simp [sameA]
theorem ynz (d:Nat) (b:Bool):sameA (d+1) (.bool b) (.bool b)=true:=by simp [sameA]
theorem yey (d n:Nat):sameA (d+2) (.sl false (natE (Go.Dig.digs B32 n))) (.sl false (natE (Go.Dig.digs B32 n)))=true:=by
 rw [sameA,Bool.and_eq_true]
 refine ⟨rfl,y8g _ fun e he=>y8g _ fun x hx=> ?_⟩
 unfold natE at he
 obtain ⟨z,-,rfl⟩:=List.mem_map.1 he
 simp only [List.mem_singleton] at hx
 subst hx
 exact ypn _ _ _
theorem yuq (q:Rat):same2 (sameA DEPTH) (qC q) (qC q)=true:=by
 refine y8g _ fun x hx=> ?_
 unfold qC natV at hx
 simp only [List.mem_cons,List.not_mem_nil,or_false] at hx
 rcases hx with rfl | rfl | rfl
 ·exact ynz _ _
 ·exact yey _ _
 ·exact yey _ _
attribute [go_sem] yxn p_nil yvq yo8 yub yst yoz ynr yuq
def cutAt:Nat→ACode→ACode→ACode
 | 0,_,t=>t
 | n+1,.seq a b,t=>.seq a (cutAt n b t)
 | _+1,c,_=>c
def tailAt:Nat→ACode→ACode
 | 0,c=>c
 | n+1,.seq _ b=>tailAt n b
 | _+1,_=>.skip
def LQ (q:Rat) (c:List AV):Prop:=c=qC q∨q=0∧c=[.bool false,.nils,.nils]
theorem LQ.of (q:Rat):LQ q (qC q):=.inl rfl
theorem LQ.sub {q:Rat} {c:List AV} (h:LQ q c):Ev.sub c 0 3=some c:=by
 rcases h with rfl | ⟨-,rfl⟩<;>rfl
theorem LQ.put {q:Rat} {c:List AV} (h:LQ q c) (x:Rat):Ev.put c 0 (qC x)=some (qC x):=by
 rcases h with rfl | ⟨-,rfl⟩<;>rfl
theorem LQ.len {q:Rat} {c:List AV} (h:LQ q c):c.length=3:=by
 rcases h with rfl | ⟨-,rfl⟩<;>rfl
end Go.Ev
namespace Go.Ev
theorem LQ.frz {q:Rat} {c:List AV} (h:LQ q c) (ob:Nat→Option AObj) (fz:Nat→Nat):frzS ob fz (.agg c)=some (fz,.agg (qC q)):=by
 rcases h with rfl | ⟨rfl,rfl⟩
 ·exact ya9 q ob fz
 ·rw [ymw];rfl
theorem yqa {F:Caller} {f:FuncId} {q:Rat} {c:List AV} (h:LQ q c) (ob:Nat→Option AObj) (fz:Nat→Nat):callV F f [.agg c] ob fz=callV F f [.agg (qC q)] ob fz:=by
 unfold callV mapFz
 rw [h.frz,ya9]
theorem y83 {F:Caller} {f:FuncId} {a b:Rat} {c e:List AV} (h:LQ a c) (k:LQ b e) (ob:Nat→Option AObj) (fz:Nat→Nat):callV F f [.agg c,.agg e] ob fz=callV F f [.agg (qC a),.agg (qC b)] ob fz:=by
 simp only [callV,mapFz]
 rw [h.frz,ya9]
 simp only
 rw [k.frz,ya9]
def natQ (n:Nat):Rat:=Rat.ofInt (n:Int)
theorem ybu (n:Nat):natQ n=(n:Rat):=rfl
theorem yn0 (a:Nat):floorQ (natQ a / Rat.ofInt 2)=((a / 2:Nat):Int):=by
 rw [y7a,ybu,show Rat.ofInt 2=2 from rfl]
 have h1:((a / 2:Nat):Int)≤((a:Rat) / 2).floor:=by
  rw [Rat.le_floor_iff]
  have h:((a / 2*2:Nat):Rat)≤(a:Rat):=Rat.natCast_le_natCast.2 (by omega)
  rw [Rat.natCast_mul] at h
  have e:(a:Rat) / 2*2=a:=Rat.div_mul_cancel (by decide)
  show ((a / 2:Nat):Rat)≤_
  have:((2:Nat):Rat)=2:=rfl
  grind
 have h2:((a:Rat) / 2).floor<((a / 2+1:Nat):Int):=by
  rw [Rat.floor_lt_iff]
  have h:(a:Rat)<(((a / 2+1)*2:Nat):Rat):=Rat.natCast_lt_natCast.2 (by omega)
  rw [Rat.natCast_mul] at h
  have e:(a:Rat) / 2*2=a:=Rat.div_mul_cancel (by decide)
  show _<((a / 2+1:Nat):Rat)
  have:((2:Nat):Rat)=2:=rfl
  grind
 omega
theorem ya5 {n S:Nat} (h:n<2^(S+1)):SmQ (S+1) (natQ n):=y8m (by simpa using h)
theorem ye6 (a b:Nat):natQ a+natQ b=natQ (a+b):=(Rat.natCast_add a b).symm
theorem yl2 {a b:Nat} (h:a≤b):natQ b-natQ a=natQ (b-a):=by
 have:natQ b=natQ (b-a)+natQ a:=by rw [ye6,Nat.sub_add_cancel h]
 rw [this];grind
def fastS (L:List (Nat×SV)):List (Nat×SV):=(3,.one (.box 0 0))::(6,.one (.box 2 0))::(7,.one (.box 10 0))::(8,.one (.box 15 0))::(9,.one (.box 16 0))::(10,.one (.fn Id.y0w [] [.box 0 0,.box 15 0,.box 16 0]))::(11,.one (.box 21 0))::(12,.one (.box 22 0))::L
structure FastB (ob:Nat→Option AObj) (l h m s d room:Rat) (lo hi:Nat) (lc:List AV):Prop where
 o0:ob 0=some (.box (qC l++(qC h++(qC m++qC s))))
 o2:ob 2=some (.box [.bool false,.nils,.nils])
 o10:ob 10=some (.box (qC room))
 o15:ob 15=some (.box (qC (Rat.ofInt 1)))
 o16:ob 16=some (.box (qC d))
 o21:ob 21=some (.box lc)
 o22:ob 22=some (.box (qC (natQ hi)))
 lq:LQ (natQ lo) lc
section
variable (l h m s d room:Rat) {S T:Nat} (hm:SmQ S m) (hs:SmQ S s) (hd:SmQ S d) (hr:SmQ (4*S) room) (hS:S<2^20) (hT:T+1<2^24)
include hm hs hd hr hS hT
theorem y77 {n:Nat} (hn:n<2^(T+1)):SmQ (T+1) (natQ n)∧SmQ (4*S+5*T+40) (wayQ m s d (natQ n)):=by
 have hx:SmQ (T+1) (natQ n):=ya5 hn
 exact ⟨hx,((hs.mul hm).mul ((hx.mul (smQ_one.add hd)).add ((y61 hx).sub hx))).mono (by omega)⟩
theorem yqz {lo hi:Nat} {lc:List AV} (hhi:hi<2^(T+1)) (hlt:room<wayQ m s d (natQ hi)):
  ∃N,∀n,N≤n→∀(ob:Nat→Option AObj) (nx:Nat) (X:List (Nat×SV)),25≤nx→FastB ob l h m s d room lo hi lc→
   ∃ob' nx' X',evC (evF E n) n Fn.y3c ⟨env (fastS X),ob,fz0,nx⟩=some (.ext 0,⟨env (fastS X'),ob',fz0,nx'⟩)∧nx≤nx'∧FastB ob' l h m s d room lo hi lc:=by
 obtain ⟨hx,hway⟩:=y77 m s d room hm hs hd hr hS hT hhi
 obtain ⟨N1,h1⟩:=ygs l h m s d (natQ hi) hm hs hd hx hS hT
 obtain ⟨N2,h2⟩:=cCmp (wayQ m s d (natQ hi)) room hway hr (by omega)
 refine ⟨N1+N2,fun n hn ob nx X hnx B=> ?_⟩
 obtain ⟨ob',nx',e1,e2,e3⟩:=h1 n (by omega) ob fz0 nx hnx B.o0 B.o15 B.o16
 have h2:=h2 n (by omega)
 have e10:=e3 10 (by omega)
 have hc:(cmpQ (wayQ m s d (natQ hi)) room≤0)=False:=by rw [y8p,eq_iff_iff,iff_false];exact Rat.not_le.2 hlt
 obtain ⟨o0,o2,o10,o15,o16,o21,o22,lq⟩:=B
 refine ⟨ob',nx',[(36,.one (.bool false))], ?_,e2,⟨(e3 0 (by omega)).trans o0,(e3 2 (by omega)).trans o2,e10.trans o10,(e3 15 (by omega)).trans o15,(e3 16 (by omega)).trans o16,(e3 21 (by omega)).trans o21,(e3 22 (by omega)).trans o22,lq⟩⟩
 have u10:(10<nx)=True:=by simp;omega
 have u22:(22<nx)=True:=by simp;omega
 unfold fastS
 simp only [go_sem,Fn.y3c,o10,o22,u10,u22,e10,e1,h2,hc]
theorem yqd {lo hi:Nat} {lc:List AV} (hhi:hi<2^T) (hlt:wayQ m s d (natQ hi)≤room):
  ∃N,∀n,N≤n→∀(ob:Nat→Option AObj) (nx:Nat) (X:List (Nat×SV)),25≤nx→FastB ob l h m s d room lo hi lc→
   ∃ob' nx',evC (evF E n) n Fn.y3c ⟨env (fastS X),ob,fz0,nx⟩=some (.nrm,⟨env (fastS []),ob',fz0,nx'⟩)∧nx≤nx'∧FastB ob' l h m s d room hi (hi+hi) (qC (natQ hi)):=by
 have h2T:2^(T+1)=2^T+2^T:=by rw [Nat.pow_succ];omega
 obtain ⟨hx,hway⟩:=y77 m s d room hm hs hd hr hS hT (n:=hi) (by omega)
 obtain ⟨N1,h1⟩:=ygs l h m s d (natQ hi) hm hs hd hx hS hT
 obtain ⟨N2,h2⟩:=cCmp (wayQ m s d (natQ hi)) room hway hr (by omega)
 obtain ⟨N3,h3⟩:=cAdd (natQ hi) (natQ hi) hx hx (by omega)
 rw [ye6] at h3
 refine ⟨N1+N2+N3,fun n hn ob nx X hnx B=> ?_⟩
 obtain ⟨ob',nx',e1,e2,e3⟩:=h1 n (by omega) ob fz0 nx hnx B.o0 B.o15 B.o16
 have h2:=h2 n (by omega)
 have h3:=h3 n (by omega)
 have e10:=e3 10 (by omega)
 have hc:(cmpQ (wayQ m s d (natQ hi)) room≤0)=True:=by rw [y8p,eq_iff_iff,iff_true];exact hlt
 obtain ⟨o0,o2,o10,o15,o16,o21,o22,lq⟩:=B
 have q21:=(e3 21 (by omega)).trans o21
 have q22:=(e3 22 (by omega)).trans o22
 refine ⟨upd (upd ob' 21 (.box (qC (natQ hi)))) 22 (.box (qC (natQ (hi+hi)))),nx', ?_,e2,⟨?_, ?_, ?_, ?_, ?_, ?_, ?_,.of _⟩⟩
 ·have u10:(10<nx)=True:=by simp;omega
  have u22:(22<nx)=True:=by simp;omega
  have v22:(22<nx')=True:=by simp;omega
  have v21:(21<nx')=True:=by simp;omega
  have p21:=lq.put (natQ hi)
  unfold fastS
  simp only [go_sem,Fn.y3c,o10,o22,u10,u22,e10,e1,h2,hc,q21,q22,v21,v22,h3,↓p21]
 ·rw [y00 (by decide),y00 (by decide)];exact (e3 0 (by omega)).trans o0
 ·rw [y00 (by decide),y00 (by decide)];exact (e3 2 (by omega)).trans o2
 ·rw [y00 (by decide),y00 (by decide)];exact e10.trans o10
 ·rw [y00 (by decide),y00 (by decide)];exact (e3 15 (by omega)).trans o15
 ·rw [y00 (by decide),y00 (by decide)];exact (e3 16 (by omega)).trans o16
 ·rw [y00 (by decide),upd_same]
 ·rw [upd_same]
theorem yly {K:Nat} (hK:∀n,K≤n→room<wayQ m s d (natQ n)) (hKT:2*K<2^(T+1)):∀(j lo hi:Nat) (lc:List AV),K≤hi*2^j→0<hi→hi<2*K∨hi=1→lo<hi→wayQ m s d (natQ lo)≤room→
  ∃lo' hi',lo'<hi'∧hi'<2^(T+1)∧wayQ m s d (natQ lo')≤room∧room<wayQ m s d (natQ hi')∧∃N,∀n,N≤n→∀(ob:Nat→Option AObj) (nx:Nat) (X:List (Nat×SV)),25≤nx→FastB ob l h m s d room lo hi lc→∀M,j<M→
   ∃ob' nx' X' lc',loopN (evC (evF E n) n Fn.y3c) M ⟨env (fastS X),ob,fz0,nx⟩=some (.ext 0,⟨env (fastS X'),ob',fz0,nx'⟩)∧nx≤nx'∧FastB ob' l h m s d room lo' hi' lc'
 | j,lo,hi,lc,hj,h0,hi2,hlo,hw=>by
  have k1:1<2^(T+1):=Nat.one_lt_two_pow (by omega)
  have h2T:2^(T+1)=2^T+2^T:=by rw [Nat.pow_succ];omega
  by_cases hlt:room<wayQ m s d (natQ hi)
  ·obtain ⟨N,hN⟩:=yqz l h m s d room hm hs hd hr hS hT (lo:=lo) (hi:=hi) (lc:=lc) (by omega) hlt
   refine ⟨lo,hi,hlo,by omega,hw,hlt,N,fun n hn ob nx X hnx B M hM=> ?_⟩
   obtain ⟨M,rfl⟩:∃k,M=k+1:=⟨M-1,by omega⟩
   obtain ⟨ob',nx',X',e1,e2,e3⟩:=hN n hn ob nx X hnx B
   exact ⟨ob',nx',X',lc,y0j e1,e2,e3⟩
  ·have hhK:hi<K:=Nat.lt_of_not_le fun hle=>hlt (hK hi hle)
   obtain ⟨j,rfl⟩:∃k,j=k+1:=⟨j-1,by
    rcases Nat.eq_zero_or_pos j with e | e
    ·subst e;simp at hj;omega
    ·omega⟩
   obtain ⟨N,hN⟩:=yqd l h m s d room hm hs hd hr hS hT (lo:=lo) (hi:=hi) (lc:=lc) (by omega) (Rat.not_lt.1 hlt)
   obtain ⟨lo2,hi2,f1,f2,f3,f4,N2,hN2⟩:=yly hK hKT j hi (hi+hi) (qC (natQ hi)) (by rw [Nat.pow_succ] at hj;rw [Nat.add_mul];rw [Nat.mul_comm (2^j) 2,←Nat.mul_assoc,Nat.mul_comm hi 2,Nat.mul_assoc] at hj;omega) (by omega) (by omega) (by omega) (Rat.not_lt.1 hlt)
   refine ⟨lo2,hi2,f1,f2,f3,f4,N+N2,fun n hn ob nx X hnx B M hM=> ?_⟩
   obtain ⟨M,rfl⟩:∃k,M=k+1:=⟨M-1,by omega⟩
   obtain ⟨ob',nx',e1,e2,e3⟩:=hN n (by omega) ob nx X hnx B
   obtain ⟨ob2,nx2,X2,lc2,g1,g2,g3⟩:=hN2 n (by omega) ob' nx' [] (by omega) e3 M (by omega)
   exact ⟨ob2,nx2,X2,lc2,by rw [y0l e1];exact g1,by omega,g3⟩
theorem yhp {lo hi:Nat} {lc:List AV} (hhi:hi<2^(T+1)) (hgap:1<hi-lo):
  ∃N,∀n,N≤n→∀(ob:Nat→Option AObj) (nx:Nat) (X:List (Nat×SV)),25≤nx→FastB ob l h m s d room lo hi lc→
   ∃ob' nx',evC (evF E n) n Fn.y27 ⟨env (fastS X),ob,fz0,nx⟩=some (.nrm,⟨env (fastS []),ob',fz0,nx'⟩)∧nx≤nx'∧
    (if wayQ m s d (natQ ((lo+hi) / 2))≤room then FastB ob' l h m s d room ((lo+hi) / 2) hi (qC (natQ ((lo+hi) / 2))) else FastB ob' l h m s d room lo ((lo+hi) / 2) lc):=by
 obtain ⟨hx,-⟩:=y77 m s d room hm hs hd hr hS hT (n:=hi) hhi
 obtain ⟨hl,-⟩:=y77 m s d room hm hs hd hr hS hT (n:=lo) (by omega)
 obtain ⟨hm2,hway⟩:=y77 m s d room hm hs hd hr hS hT (n:=(lo+hi) / 2) (by omega)
 have h2T2:2^(T+1+1)=2^(T+1)+2^(T+1):=by rw [Nat.pow_succ];omega
 have hsum:SmQ (T+1+1) (natQ (lo+hi)):=ya5 (by omega)
 have hdiff:SmQ (T+1) (natQ (hi-lo)):=ya5 (by omega)
 obtain ⟨N1,h1⟩:=ygs l h m s d (natQ ((lo+hi) / 2)) hm hs hd hm2 hS hT
 obtain ⟨N2,h2⟩:=cCmp (wayQ m s d (natQ ((lo+hi) / 2))) room hway hr (by omega)
 obtain ⟨N3,h3⟩:=cSub (natQ hi) (natQ lo) hx hl (by omega)
 rw [yl2 (by omega)] at h3
 obtain ⟨N4,h4⟩:=cCmp (natQ (hi-lo)) (Rat.ofInt 1) hdiff smQ_one (by omega)
 obtain ⟨N5,h5⟩:=cAdd (natQ lo) (natQ hi) hl hx (by omega)
 rw [ye6] at h5
 obtain ⟨N6,h6⟩:=cInt 2 (by decide) (by decide)
 obtain ⟨N7,h7⟩:=cQuo (natQ (lo+hi)) (Rat.ofInt 2) (by decide) hsum ycs (by omega)
 obtain ⟨N8,h8⟩:=cFloor (natQ (lo+hi) / Rat.ofInt 2) (hsum.div (by decide) ycs) (by omega)
 rw [yn0] at h8
 have h8:∀n,N8≤n→∀(ob:Nat→Option AObj) (fz:Nat→Nat),callV (evF E n) Id.y2t [.agg (qC (natQ (lo+hi) / Rat.ofInt 2))] ob fz=some (.fzd fz (.agg (qC (natQ ((lo+hi) / 2))))):=h8
 refine ⟨N1+N2+N3+N4+N5+N6+N7+N8,fun n hn ob nx X hnx B=> ?_⟩
 obtain ⟨o0,o2,o10,o15,o16,o21,o22,lq⟩:=B
 have h2:=h2 n (by omega)
 have h3:∀ob fz,callV (evF E n) Id.y0u [.agg (qC (natQ hi)),.agg lc] ob fz=some (.fzd fz (.agg (qC (natQ (hi-lo))))):=fun ob fz=>by rw [y83 (.of _) lq];exact h3 n (by omega) ob fz
 have h4:=h4 n (by omega)
 have h5:∀ob fz,callV (evF E n) Id.y0a [.agg lc,.agg (qC (natQ hi))] ob fz=some (.fzd fz (.agg (qC (natQ (lo+hi))))):=fun ob fz=>by rw [y83 lq (.of _)];exact h5 n (by omega) ob fz
 have h6:=h6 n (by omega)
 have h7:=h7 n (by omega)
 have h8:=h8 n (by omega)
 have hg:(cmpQ (natQ (hi-lo)) (Rat.ofInt 1)>0)=True:=by
  rw [y7s,eq_iff_iff,iff_true]
  exact Rat.natCast_lt_natCast.2 hgap
 have u10:(10<nx)=True:=by simp;omega
 have u15:(15<nx)=True:=by simp;omega
 have u21:(21<nx)=True:=by simp;omega
 have u22:(22<nx)=True:=by simp;omega
 have nb:∀k id:Nat,id<25→((id=nx+k)=False):=fun k id h=>by simp;omega
 have nb':∀k id:Nat,id<25→((nx+k=id)=False):=fun k id h=>by simp;omega
 obtain ⟨ob',nx',e1,e2,e3⟩:=h1 n (by omega) (upd ob (nx+6) (.box (qC (natQ ((lo+hi) / 2))))) fz0 (nx+8) (by omega) (by rw [y00 (by omega)];exact o0) (by rw [y00 (by omega)];exact o15) (by rw [y00 (by omega)];exact o16)
 have g:∀id,id<25→ob' id=ob id:=fun id hid=>by rw [e3 id (by omega),y00 (by omega)]
 have g13:ob' (nx+6)=some (.box (qC (natQ ((lo+hi) / 2)))):=by rw [e3 _ (by omega),upd_same]
 have q10:=(g 10 (by decide)).trans o10
 have q21:=(g 21 (by decide)).trans o21
 have q22:=(g 22 (by decide)).trans o22
 have x10:(nx+6=10)=False:=by simp;omega
 have x10':(10=nx+6)=False:=by simp;omega
 have x21':(21=nx+6)=False:=by simp;omega
 have x22':(22=nx+6)=False:=by simp;omega
 have u8:(nx+6<nx+8)=True:=by simp
 have u10':(10<nx+8)=True:=by simp;omega
 have lsub:=lq.sub
 have lput:=lq.put (natQ ((lo+hi) / 2))
 have vx:(nx+6<nx')=True:=by simp;omega
 have ug:upd ob (nx+6) (.box (qC (natQ ((lo+hi) / 2)))) 10=ob 10:=y00 (by omega)
 have keep:∀(id:Nat) (x:AObj),FastB ob' l h m s d room lo hi lc:=fun _ _=>⟨(g 0 (by decide)).trans o0,(g 2 (by decide)).trans o2,q10,(g 15 (by decide)).trans o15,(g 16 (by decide)).trans o16,q21,q22,lq⟩
 by_cases hw:wayQ m s d (natQ ((lo+hi) / 2))≤room
 ·have hc:(cmpQ (wayQ m s d (natQ ((lo+hi) / 2))) room≤0)=True:=by rw [y8p,eq_iff_iff,iff_true];exact hw
  refine ⟨upd ob' 21 (.box (qC (natQ ((lo+hi) / 2)))),nx', ?_,by omega, ?_⟩
  ·unfold fastS
   simp only [go_sem,Fn.y27,o10,o15,o21,o22,u10,u15,u21,u22,↓lsub,h3,h4,h5,h6,h7,h8,hg,x10,x10',x21',x22',u8,u10',ug,e1,q10,h2,hc,g13,q21,↓lput,vx]
  ·rw [if_pos hw]
   refine ⟨?_, ?_, ?_, ?_, ?_, ?_, ?_,.of _⟩
   ·rw [y00 (by decide)];exact (g 0 (by decide)).trans o0
   ·rw [y00 (by decide)];exact (g 2 (by decide)).trans o2
   ·rw [y00 (by decide)];exact q10
   ·rw [y00 (by decide)];exact (g 15 (by decide)).trans o15
   ·rw [y00 (by decide)];exact (g 16 (by decide)).trans o16
   ·rw [upd_same]
   ·rw [y00 (by decide)];exact q22
 ·have hc:(cmpQ (wayQ m s d (natQ ((lo+hi) / 2))) room≤0)=False:=by rw [y8p,eq_iff_iff,iff_false];exact hw
  refine ⟨upd ob' 22 (.box (qC (natQ ((lo+hi) / 2)))),nx', ?_,by omega, ?_⟩
  ·unfold fastS
   simp only [go_sem,Fn.y27,o10,o15,o21,o22,u10,u15,u21,u22,↓lsub,h3,h4,h5,h6,h7,h8,hg,x10,x10',x21',x22',u8,u10',ug,e1,q10,h2,hc,g13,q22,vx]
  ·rw [if_neg hw]
   refine ⟨?_, ?_, ?_, ?_, ?_, ?_, ?_,lq⟩
   ·rw [y00 (by decide)];exact (g 0 (by decide)).trans o0
   ·rw [y00 (by decide)];exact (g 2 (by decide)).trans o2
   ·rw [y00 (by decide)];exact q10
   ·rw [y00 (by decide)];exact (g 15 (by decide)).trans o15
   ·rw [y00 (by decide)];exact (g 16 (by decide)).trans o16
   ·rw [y00 (by decide)];exact q21
   ·rw [upd_same]
theorem ypy {lo hi:Nat} {lc:List AV} (hhi:hi<2^(T+1)) (hgap:hi-lo=1):
  ∃N,∀n,N≤n→∀(ob:Nat→Option AObj) (nx:Nat) (X:List (Nat×SV)),25≤nx→FastB ob l h m s d room lo hi lc→
   ∃X',evC (evF E n) n Fn.y27 ⟨env (fastS X),ob,fz0,nx⟩=some (.ext 2,⟨env (fastS X'),ob,fz0,nx⟩):=by
 obtain ⟨hx,-⟩:=y77 m s d room hm hs hd hr hS hT (n:=hi) hhi
 obtain ⟨hl,-⟩:=y77 m s d room hm hs hd hr hS hT (n:=lo) (by omega)
 have hdiff:SmQ (T+1) (natQ (hi-lo)):=ya5 (by omega)
 obtain ⟨N3,h3⟩:=cSub (natQ hi) (natQ lo) hx hl (by omega)
 rw [yl2 (by omega)] at h3
 obtain ⟨N4,h4⟩:=cCmp (natQ (hi-lo)) (Rat.ofInt 1) hdiff smQ_one (by omega)
 refine ⟨N3+N4,fun n hn ob nx X hnx B=> ?_⟩
 obtain ⟨o0,o2,o10,o15,o16,o21,o22,lq⟩:=B
 have h3:∀ob fz,callV (evF E n) Id.y0u [.agg (qC (natQ hi)),.agg lc] ob fz=some (.fzd fz (.agg (qC (natQ (hi-lo))))):=fun ob fz=>by rw [y83 (.of _) lq];exact h3 n (by omega) ob fz
 have h4:=h4 n (by omega)
 have hg:(cmpQ (natQ (hi-lo)) (Rat.ofInt 1)>0)=False:=by
  rw [y7s,hgap,eq_iff_iff,iff_false]
  exact Rat.lt_irrefl
 have u15:(15<nx)=True:=by simp;omega
 have u21:(21<nx)=True:=by simp;omega
 have u22:(22<nx)=True:=by simp;omega
 have lsub:=lq.sub
 refine ⟨[(46,.one (.bool false))], ?_⟩
 unfold fastS
 simp only [go_sem,Fn.y27,o15,o21,o22,u15,u21,u22,↓lsub,h3,h4,hg]
theorem ygj:∀(j lo hi:Nat),hi-lo≤j→lo<hi→hi<2^(T+1)→wayQ m s d (natQ lo)≤room→room<wayQ m s d (natQ hi)→
  ∃lo',lo'<2^(T+1)∧wayQ m s d (natQ lo')≤room∧room<wayQ m s d (natQ (lo'+1))∧∀(lc:List AV),∃N,∀n,N≤n→∀(ob:Nat→Option AObj) (nx:Nat) (X:List (Nat×SV)),25≤nx→FastB ob l h m s d room lo hi lc→∀M,j<M→
   ∃ob' nx' X' lc',loopN (evC (evF E n) n Fn.y27) M ⟨env (fastS X),ob,fz0,nx⟩=some (.ext 2,⟨env (fastS X'),ob',fz0,nx'⟩)∧nx≤nx'∧FastB ob' l h m s d room lo' (lo'+1) lc'
 | 0,lo,hi,hj,hlo,hhi,w1,w2=>by omega
 | j+1,lo,hi,hj,hlo,hhi,w1,w2=>by
  by_cases hg:1<hi-lo
  ·by_cases hw:wayQ m s d (natQ ((lo+hi) / 2))≤room
   ·obtain ⟨lo',f1,f2,f3,hN2⟩:=ygj j ((lo+hi) / 2) hi (by omega) (by omega) hhi hw w2
    refine ⟨lo',f1,f2,f3,fun lc=> ?_⟩
    obtain ⟨N,hN⟩:=yhp l h m s d room hm hs hd hr hS hT (lo:=lo) (hi:=hi) (lc:=lc) hhi hg
    obtain ⟨N2,hN2⟩:=hN2 (qC (natQ ((lo+hi) / 2)))
    refine ⟨N+N2,fun n hn ob nx X hnx B M hM=> ?_⟩
    obtain ⟨M,rfl⟩:∃k,M=k+1:=⟨M-1,by omega⟩
    obtain ⟨ob',nx',e1,e2,e3⟩:=hN n (by omega) ob nx X hnx B
    rw [if_pos hw] at e3
    obtain ⟨ob2,nx2,X2,lc2,g1,g2,g3⟩:=hN2 n (by omega) ob' nx' [] (by omega) e3 M (by omega)
    exact ⟨ob2,nx2,X2,lc2,by rw [y0l e1];exact g1,by omega,g3⟩
   ·obtain ⟨lo',f1,f2,f3,hN2⟩:=ygj j lo ((lo+hi) / 2) (by omega) (by omega) (by omega) w1 (Rat.not_le.1 hw)
    refine ⟨lo',f1,f2,f3,fun lc=> ?_⟩
    obtain ⟨N,hN⟩:=yhp l h m s d room hm hs hd hr hS hT (lo:=lo) (hi:=hi) (lc:=lc) hhi hg
    obtain ⟨N2,hN2⟩:=hN2 lc
    refine ⟨N+N2,fun n hn ob nx X hnx B M hM=> ?_⟩
    obtain ⟨M,rfl⟩:∃k,M=k+1:=⟨M-1,by omega⟩
    obtain ⟨ob',nx',e1,e2,e3⟩:=hN n (by omega) ob nx X hnx B
    rw [if_neg hw] at e3
    obtain ⟨ob2,nx2,X2,lc2,g1,g2,g3⟩:=hN2 n (by omega) ob' nx' [] (by omega) e3 M (by omega)
    exact ⟨ob2,nx2,X2,lc2,by rw [y0l e1];exact g1,by omega,g3⟩
  ·have e:hi=lo+1:=by omega
   subst e
   refine ⟨lo,by omega,w1,w2,fun lc=> ?_⟩
   obtain ⟨N,hN⟩:=ypy l h m s d room hm hs hd hr hS hT (lo:=lo) (hi:=lo+1) (lc:=lc) hhi (by omega)
   refine ⟨N,fun n hn ob nx X hnx B M hM=> ?_⟩
   obtain ⟨M,rfl⟩:∃k,M=k+1:=⟨M-1,by omega⟩
   obtain ⟨X',e1⟩:=hN n hn ob nx X hnx B
   exact ⟨ob,nx,X',lc,y0j e1,Nat.le_refl _,B⟩
end
end Go.Ev
namespace Go.Ev
def fastT:ACode:=match Fn.y08.code with | .seq _ (.seq _ (.seq _ (.seq _ (.seq _ (.seq _ (.seq _ t))))))=>t | _=>.skip
theorem yvj {m s room:Rat} {d:Int} (hs:0<s) (hm:0<m) (hd:0≤d) (hr:0≤room) (n:Nat) (hn:(floorQ (room / (s*m))).toNat+1≤n):room<wayQ m s (Rat.ofInt d) (natQ n):=by
 have hB:0<s*m:=Rat.mul_pos hs hm
 have hD:(0:Rat)≤(d:Rat):=Rat.intCast_nonneg.2 hd
 have n0:=y7k (v:=room) hB hr
 have h2:=Rat.lt_floor_add_one (room / (s*m))
 rw [←y7a] at h2
 have h4:=Rat.mul_lt_mul_of_pos_right h2 hB
 rw [Rat.div_mul_cancel (by grind)] at h4
 have hle:((floorQ (room / (s*m))+1:Int):Rat)≤(n:Rat):=by
  have:(floorQ (room / (s*m))+1)≤((n:Nat):Int):=by omega
  have:=Rat.intCast_le_intCast.2 this
  exact this
 have h5:room<(n:Rat)*(s*m):=by
  have:=Rat.mul_le_mul_of_nonneg_right hle (Rat.le_of_lt hB)
  grind
 have h1:(1:Rat)≤(n:Rat):=by
  have:((1:Nat):Rat)≤(n:Rat):=Rat.natCast_le_natCast.2 (by omega)
  exact this
 unfold wayQ triQ
 rw [ybu,y6a,y6a,show ((1:Int):Rat)=1 from rfl]
 generalize (n:Rat)=x at*
 generalize (d:Rat)=D at*
 generalize s*m=B at*
 have p1:0≤B*(x*D):=Rat.mul_nonneg (by grind) (Rat.mul_nonneg (by grind) hD)
 have p2:0≤B*(x*(x-1)):=Rat.mul_nonneg (by grind) (Rat.mul_nonneg (by grind) (by grind))
 grind
set_option maxRecDepth 100000 in
theorem yc1 (l h m s p:Rat) (d:Int) {S:Nat} (h1S:1≤S) (hl:SmQ S l) (hh:SmQ S h) (hm:SmQ S m) (hs:SmQ S s) (hp:SmQ S p) (s0:0<s) (m0:0<m) (d0:0≤d) (d1:d≤16) (hS:S<2^19):
  Ends Id.y08 [.agg (qC l++(qC h++(qC m++qC s))),.agg (qC p),.one (.int .i64 d)] (.agg (qC (fastQ h m s p d)))∧SmQ (25*S+150) (fastQ h m s p d):=by
 have hB:0<s*m:=Rat.mul_pos s0 m0
 have hsn:s.num≠0:=fun e=>by have:=Rat.num_eq_zero.1 e;grind
 have hdS:SmQ (S+5) (Rat.ofInt d):=y8m (S:=S+4) (by have:2^5≤2^(S+4+1):=Nat.pow_le_pow_right (by decide) (by omega);omega)
 have hroom:SmQ (4*(S+5)) ((h-p) / s):=((hh.sub hp).div hsn hs).mono (by omega)
 have hmS:SmQ (S+5) m:=hm.mono (by omega)
 have hsS:SmQ (S+5) s:=hs.mono (by omega)
 have hF:=yau (h:=h) (p:=p) s0 m0 d0
 obtain ⟨N1,k1⟩:=cSub h p hh hp (by omega)
 obtain ⟨N2,k2⟩:=cQuo (h-p) s hsn (hh.sub hp) hs (by omega)
 obtain ⟨N3,k3⟩:=cSign ((h-p) / s)
 obtain ⟨N4,k4⟩:=cInt 1 (by decide) (by decide)
 obtain ⟨N5,k5⟩:=cInt d (by omega) (by omega)
 by_cases hr:(h-p) / s<0
 ·have e:=hF.neg hr
  rw [e]
  refine ⟨.of (N1+N2+N3) fun {n} hn=> ?_,hroom.mono (by omega)⟩
  rw [y04 y6w]
  have k1:=k1 n (by omega)
  have k2:=k2 n (by omega)
  have k3:=k3 n (by omega)
  have hc:(signI ((h-p) / s).num<0)=True:=by rw [yko,eq_iff_iff,iff_true];exact hr
  simp only [go_sem,Fn.y08,k1,k2,k3,hc]
 ·have hr0:=Rat.not_lt.1 hr
  obtain ⟨T,hT⟩:∃T,T=6*(S+5)+2:=⟨_,rfl⟩
  obtain ⟨K,hK⟩:∃K,K=(floorQ ((h-p) / s / (s*m))).toNat+1:=⟨_,rfl⟩
  have hnum:(s*m).num≠0:=fun e=>by have:=Rat.num_eq_zero.1 e;grind
  have hKT:2*K<2^(T+1):=by
   have h1:=(y9t (hroom.div hnum (hsS.mul hmS))).num
   have h2:(Rat.ofInt (floorQ ((h-p) / s / (s*m)))).num=floorQ ((h-p) / s / (s*m)):=rfl
   rw [h2] at h1
   have h3:2^(T+1)=2*(2*2^(4*(S+5)+(S+5+(S+5))+1)):=by
    rw [show T+1=4*(S+5)+(S+5+(S+5))+1+1+1 by omega,Nat.pow_succ _ (_+1+1),Nat.pow_succ _ (_+1)]
    omega
   omega
  have hbig:∀n,K≤n→(h-p) / s<wayQ m s (Rat.ofInt d) (natQ n):=fun n hn=>yvj s0 m0 d0 hr0 n (by omega)
  have hw0:wayQ m s (Rat.ofInt d) (natQ 0)≤(h-p) / s:=by
   have:wayQ m s (Rat.ofInt d) (natQ 0)=0:=by
    unfold wayQ triQ
    rw [ybu,show ((0:Nat):Rat)=0 from rfl]
    grind
   rw [this];exact hr0
  obtain ⟨lo1,hi1,f1,f2,f3,f4,N6,k6⟩:=yly l h m s (Rat.ofInt d) ((h-p) / s) hmS hsS hdS hroom (T:=T) (by omega) (by omega) hbig hKT K 0 1 [.bool false,.nils,.nils] (by rw [Nat.one_mul];exact Nat.le_of_lt Nat.lt_two_pow_self) (by omega) (.inr rfl) (by omega) hw0
  obtain ⟨lo2,g1,g2,g3,k7⟩:=ygj l h m s (Rat.ofInt d) ((h-p) / s) hmS hsS hdS hroom (T:=T) (by omega) (by omega) (hi1-lo1) lo1 hi1 (Nat.le_refl _) f1 f2 f3 f4
  obtain ⟨N7,k7a⟩:=k7 (qC (natQ lo1))
  obtain ⟨N8,k7b⟩:=k7 [.bool false,.nils,.nils]
  have fin:∀lo':Nat,lo'<2^(T+1)→wayQ m s (Rat.ofInt d) (natQ lo')≤(h-p) / s→(h-p) / s<wayQ m s (Rat.ofInt d) (natQ (lo'+1))→fastQ h m s p d=((h-p) / s+s*m*triQ (natQ lo')) / (Rat.ofInt 1+Rat.ofInt d+natQ lo')∧SmQ (25*S+150) (fastQ h m s p d)∧
    ∃N,∀n,N≤n→∀(ob:Nat→Option AObj) (nx:Nat) (X:List (Nat×SV)) (lc:List AV),25≤nx→FastB ob l h m s (Rat.ofInt d) ((h-p) / s) lo' (lo'+1) lc→
     finV Fn.y08.res (evC (evF E n) n (match fastT with | .seq _ t=>t | _=>.skip) ⟨env (fastS X),ob,fz0,nx⟩)=some (.agg (qC (((h-p) / s+s*m*triQ (natQ lo')) / (Rat.ofInt 1+Rat.ofInt d+natQ lo')))):=by
   intro lo' hlo w1 w2
   have hD:(0:Rat)≤(d:Rat):=Rat.intCast_nonneg.2 d0
   have hk:(0:Rat)≤natQ lo':=Rat.natCast_nonneg
   have hden:(Rat.ofInt 1+Rat.ofInt d+natQ lo').num≠0:=fun e=>by
    have:=Rat.num_eq_zero.1 e
    rw [y6a,y6a,show ((1:Int):Rat)=1 from rfl] at this
    grind
   have hden':Rat.ofInt 1+Rat.ofInt d+natQ lo'≠0:=fun e=>hden (by rw [e];rfl)
   have e:fastQ h m s p d=((h-p) / s+s*m*triQ (natQ lo')) / (Rat.ofInt 1+Rat.ofInt d+natQ lo'):=by
    refine yt2 s0 m0 d0 hF ⟨fun hc=>absurd hc hr,fun _=>⟨(lo':Int),by omega,w1, ?_, ?_⟩⟩
    ·have e1:natQ (lo'+1)=((lo':Int):Rat)+1:=Rat.natCast_add lo' 1
     rw [←e1];exact w2
    ·exact Rat.div_mul_cancel hden'
   have hx:SmQ (T+1) (natQ lo'):=ya5 hlo
   have q1:SmQ (4*(S+5)+(S+5+(S+5)+(2*(T+1)+5))+1) ((h-p) / s+s*m*triQ (natQ lo')):=hroom.add ((hsS.mul hmS).mul (y61 hx))
   have q2:SmQ (2+(S+5)+1+(T+1)+1) (Rat.ofInt 1+Rat.ofInt d+natQ lo'):=(smQ_one.add hdS).add hx
   refine ⟨e,by rw [e];exact (q1.div hden q2).mono (by omega), ?_⟩
   obtain ⟨M1,j1⟩:=cBrake l h m s hm hs (by omega)
   obtain ⟨M2,j2⟩:=cTri (natQ lo') hx (by omega)
   obtain ⟨M3,j3⟩:=cMul (s*m) (triQ (natQ lo')) (hs.mul hm) (y61 hx) (by omega)
   obtain ⟨M4,j4⟩:=cAdd ((h-p) / s) (s*m*triQ (natQ lo')) hroom ((hsS.mul hmS).mul (y61 hx)) (by omega)
   obtain ⟨M5,j5⟩:=cAdd (Rat.ofInt 1) (Rat.ofInt d) smQ_one hdS (by omega)
   obtain ⟨M6,j6⟩:=cAdd (Rat.ofInt 1+Rat.ofInt d) (natQ lo') (smQ_one.add hdS) hx (by omega)
   obtain ⟨M7,j7⟩:=cQuo ((h-p) / s+s*m*triQ (natQ lo')) (Rat.ofInt 1+Rat.ofInt d+natQ lo') hden q1 q2 (by omega)
   refine ⟨M1+M2+M3+M4+M5+M6+M7,fun n hn ob nx X lc hnx B=> ?_⟩
   obtain ⟨o0,o2,o10,o15,o16,o21,o22,lq⟩:=B
   have j1:=j1 n (by omega)
   have j2:∀ob fz,callV (evF E n) Id.y39 [.agg lc] ob fz=some (.fzd fz (.agg (qC (triQ (natQ lo'))))):=fun ob fz=>by rw [yqa lq];exact j2 n (by omega) ob fz
   have j3:=j3 n (by omega)
   have j4:=j4 n (by omega)
   have j5:=j5 n (by omega)
   have j6:∀ob fz,callV (evF E n) Id.y0a [.agg (qC (Rat.ofInt 1+Rat.ofInt d)),.agg lc] ob fz=some (.fzd fz (.agg (qC (Rat.ofInt 1+Rat.ofInt d+natQ lo')))):=fun ob fz=>by rw [y83 (.of _) lq];exact j6 n (by omega) ob fz
   have j7:=j7 n (by omega)
   have lsub:=lq.sub
   have u0:(0<nx)=True:=by simp;omega
   have u10:(10<nx)=True:=by simp;omega
   have u15:(15<nx)=True:=by simp;omega
   have u16:(16<nx)=True:=by simp;omega
   have u21:(21<nx)=True:=by simp;omega
   unfold fastS fastT Fn.y08
   simp only [go_sem,o0,o2,o10,o15,o16,o21,u0,u10,u15,u16,u21,↓lsub,j1,j2,j3,j4,j5,j6,j7]
  obtain ⟨e,hsz,N9,k9⟩:=fin lo2 g1 g2 g3
  refine ⟨?_,hsz⟩
  rw [e]
  refine .of (N1+N2+N3+N4+N5+N6+N7+N8+N9+K+(hi1-lo1)+1) fun {n} hn=> ?_
  rw [y04 y6w]
  have k1:=k1 n (by omega)
  have k2:=k2 n (by omega)
  have k3:=k3 n (by omega)
  have k4:=k4 n (by omega)
  have k5:=k5 n (by omega)
  have hc:(signI ((h-p) / s).num<0)=False:=by rw [yko,eq_iff_iff,iff_false];exact hr
  have key:∀(ob:Nat→Option AObj),FastB ob l h m s (Rat.ofInt d) ((h-p) / s) 0 1 [.bool false,.nils,.nils]→
    finV Fn.y08.res (thenC (evF E n) n fastT (blkC 0 (loopN (evC (evF E n) n Fn.y3c) n ⟨env (fastS []),ob,fz0,25⟩)))=some (.agg (qC (((h-p) / s+s*m*triQ (natQ lo2)) / (Rat.ofInt 1+Rat.ofInt d+natQ lo2)))):=by
   intro ob B
   obtain ⟨ob1,nx1,X1,lc1,e1,e2,e3⟩:=k6 n (by omega) ob 25 [] (by omega) B n (by omega)
   rw [e1,show fastT=.seq (.block 2 (.loop Fn.y27)) (match fastT with | .seq _ t=>t | _=>.skip) from rfl]
   have k7':∃ob' nx' X' lc',loopN (evC (evF E n) n Fn.y27) n ⟨env (fastS X1),ob1,fz0,nx1⟩=some (.ext 2,⟨env (fastS X'),ob',fz0,nx'⟩)∧nx1≤nx'∧FastB ob' l h m s (Rat.ofInt d) ((h-p) / s) lo2 (lo2+1) lc':=by
    rcases e3.lq with hq | ⟨-,hq⟩
    ·subst hq;exact k7a n (by omega) ob1 nx1 X1 (by omega) e3 n (by omega)
    ·subst hq;exact k7b n (by omega) ob1 nx1 X1 (by omega) e3 n (by omega)
   obtain ⟨ob2,nx2,X2,lc2,i1,i2,i3⟩:=k7'
   rw [y7l,if_pos rfl,y7b,x_seq,ygq,ykq,i1,y7l,if_pos rfl,y7b]
   exact k9 n (by omega) ob2 nx2 X2 lc2 (by omega) i3
  unfold Fn.y08
  simp only [go_sem,k1,k2,k3,k4,k5,hc,List.mapM_cons,List.mapM_nil,SV.av,Option.bind_eq_bind,Option.bind_some,Option.pure_def]
  refine key _ ?_
  exact ⟨rfl,rfl,rfl,rfl,rfl,rfl,rfl,.inr ⟨rfl,rfl⟩⟩
end Go.Ev
namespace Go.Ev
theorem y8j {q:Rat} (h:0<q.num):0<q:=by rwa [yco] at h
def heldQ (l h m s p v w:Rat) (d:Int):Rat:=holdQ m s v w (fastQ h m s p d) (fastQ (-l) m s (-p) d)
theorem yhz (l h m s p v w:Rat) (d:Int) {S:Nat} (h1S:1≤S) (hl:SmQ S l) (hh:SmQ S h) (hm:SmQ S m) (hs:SmQ S s) (hp:SmQ S p) (hv:SmQ S v) (hw:SmQ S w) (s0:0<s) (m0:0<m) (d0:0≤d) (d1:d≤16) (hS:S<2^19):
  Ends Id.y1j [.agg (qC l++(qC h++(qC m++qC s))),.agg (qC p),.agg (qC v),.agg (qC w),.one (.int .i64 d)] (.agg (qC (heldQ l h m s p v w d)))∧SmQ (31*S+200) (heldQ l h m s p v w d):=by
 obtain ⟨f1,f2⟩:=yc1 l h m s p d h1S hl hh hm hs hp s0 m0 d0 d1 hS
 obtain ⟨g1,g2⟩:=yc1 (-h) (-l) m s (-p) d h1S hh.neg hl.neg hm hs hp.neg s0 m0 d0 d1 hS
 have hsn:s.num≠0:=fun e=>by have:=Rat.num_eq_zero.1 e;grind
 refine ⟨yph l h m s p v w d _ _ hm hs hv hw f2 g2 hsn (by omega) (by omega) f1 g1, ?_⟩
 unfold heldQ holdQ nextQ
 have hb:=hs.mul hm
 have t1:SmQ (25*S+4*S+150) (v+s*m):=(hv.add hb).mono (by omega)
 have t2:SmQ (25*S+4*S+150) (v-s*m):=(hv.sub hb).mono (by omega)
 have t3:SmQ (25*S+4*S+150) (v+s*w):=(hv.add (hs.mul hw)).mono (by omega)
 have tf:SmQ (25*S+4*S+150) (fastQ h m s p d):=f2.mono (by omega)
 have tg:SmQ (25*S+4*S+150) (-(fastQ (-l) m s (-p) d)):=g2.neg.mono (by omega)
 exact ((((tg.max t2).max ((tf.min t1).min t3)).sub hv).div hsn hs).mono (by omega)
theorem cSafeC (l h m s p v:Rat) (d:Int) {S:Nat} (hl:SmQ S l) (hh:SmQ S h) (hm:SmQ S m) (hs:SmQ S s) (hp:SmQ S p) (hv:SmQ S v) (hS:S<2^20) (e:errR l h m s d=0):
  Calling Id.y3f [.agg (qC l++(qC h++(qC m++qC s))),.agg (qC p),.agg (qC v),.one (.int .i64 d)] (.tup [.one (.bool (safeQ l h m s p v d)),.one (.int .i64 0)]):=by
 have:=(yr4 l h m s p v d hl hh hm hs hp hv hS).call (yap _ _ _ _ _ _ _)
 rwa [e,decide_eq_true rfl,Bool.true_and] at this
theorem cAbs (a:Rat):Calling Id.y31 [.agg (qC a)] (.agg (qC (absQ a))):=
 ⟨2,fun n hn=>by obtain ⟨m,rfl⟩:∃m,n=m+2:=⟨n-2,by omega⟩;exact y02 (ymh a m) (can1 (y1a _))⟩
end Go.Ev
namespace Go.Ev
theorem InD.cast {D E Z Y:Nat} {q:Rat} (h:InD D Z q) (e:D=E) (k:Z≤Y):InD E Y q:=by subst e;exact h.mono k
def Cand (D Z c:Nat) (u:Rat):Prop:=∃F,0<F∧F<2^c∧InD (D*F) (Z+c) u
theorem Cand.mono {D Z c e:Nat} {u:Rat} (h:Cand D Z c u) (k:c≤e):Cand D Z e u:=by
 obtain ⟨F,f1,f2,f3⟩:=h
 exact ⟨F,f1,Nat.lt_of_lt_of_le f2 (Nat.pow_le_pow_right (by decide) k),f3.mono (by omega)⟩
theorem Cand.neg {D Z c:Nat} {u:Rat} (h:Cand D Z c u):Cand D Z c (-u):=by
 obtain ⟨F,f1,f2,f3⟩:=h
 exact ⟨F,f1,f2,f3.neg⟩
theorem Cand.same {D Z:Nat} {u:Rat} (h:InD D Z u):Cand D Z 1 u:=⟨1,by decide,by decide,by rw [Nat.mul_one];exact h.mono (by omega)⟩
theorem Cand.plus {D Z S:Nat} {v a:Rat} {F:Nat} (hv:InD D Z v) (hF:0<F) (hF2:F<2^S) (ha:InD F S a) (hD:D<2^Z):Cand D Z (S+1) (v+a):=by
 refine ⟨F,hF,Nat.lt_of_lt_of_le hF2 (Nat.pow_le_pow_right (by decide) (by omega)), ?_⟩
 have h1:=hv.more hF2
 have h2:InD (D*F) (Z+S) a:=by
  have:=ha.more' hD
  exact this
 exact (h1.add h2).mono (by omega)
theorem InD.prod {S T:Nat} {a b:Rat} (ha:SmQ S a) (hb:SmQ T b):InD (a.den*b.den) (S+T) (a*b)∧0<a.den*b.den∧a.den*b.den<2^(S+T):=
 ⟨(InD.of ha).mul (InD.of hb),Nat.mul_pos a.den_pos b.den_pos,y33 ha.den hb.den⟩
theorem yh7 {h m s p l:Rat} {d:Int} {D Z S:Nat} (hp:InD D Z p) (hD0:0<D) (hD:D<2^Z) (sh:SmQ S h) (sl:SmQ S l) (sm:SmQ S m) (ss:SmQ S s) (s0:0<s) (m0:0<m) (d0:0≤d) (d1:d≤16) (hlp:l≤p):Cand D Z (16*S+20) (fastQ h m s p d):=by
 have hsn:s.num≠0:=fun e=>by have:=Rat.num_eq_zero.1 e;grind
 have hB:0<s*m:=Rat.mul_pos s0 m0
 have hF:=yau (h:=h) (p:=p) s0 m0 d0
 have hroom:InD (D*h.den*s.num.natAbs) (Z+S+1+S) ((h-p) / s):=by
  have h1:InD (D*h.den) (Z+S) p:=hp.more sh.den
  have h2:InD (D*h.den) (Z+S) h:=by have:=(InD.of sh).more' hD;exact this
  have h3:=h2.sub h1
  rw [Rat.div_def]
  exact h3.mul (InD.inv ss hsn)
 have hsa:0<s.num.natAbs:=Int.natAbs_pos.2 hsn
 have hmono:∀a b:Nat,a≤b→2^a≤2^b:=fun a b h=>Nat.pow_le_pow_right (by decide) h
 by_cases hr:(h-p) / s<0
 ·rw [hF.neg hr]
  refine ⟨h.den*s.num.natAbs,Nat.mul_pos h.den_pos hsa,Nat.lt_of_lt_of_le (y33 sh.den ss.num) (hmono _ _ (by omega)), ?_⟩
  exact hroom.cast (by rw [Nat.mul_assoc]) (by omega)
 ·obtain ⟨k,k0,k1,k2,k3⟩:=hF.pos (Rat.not_lt.1 hr)
  obtain ⟨n,rfl⟩:∃n:Nat,k=(n:Int):=⟨k.toNat,by omega⟩
  have hks:n<2^(5*S+2):=by
   have q1:SmQ (S+S+1+S+(S+S)) ((h-l) / s / (s*m)):=((sh.sub sl).div hsn ss).div (fun e=>by have:=Rat.num_eq_zero.1 e;grind) (ss.mul sm)
   have q2:=(y9t q1).num
   have q3:(Rat.ofInt (floorQ ((h-l) / s / (s*m)))).num=floorQ ((h-l) / s / (s*m)):=rfl
   rw [q3] at q2
   have q4:((n:Int):Rat)≤(h-l) / s / (s*m):=by
    have e1:(h-p) / s≤(h-l) / s:=by
     rw [Rat.div_def,Rat.div_def]
     exact Rat.mul_le_mul_of_nonneg_right (by grind) (Rat.le_of_lt (Rat.inv_pos.2 s0))
    have e2:((n:Int):Rat)*(s*m)≤(h-p) / s:=by
     unfold wayQ triQ at k1
     rw [y6a,y6a,show ((1:Int):Rat)=1 from rfl] at k1
     have hD':(0:Rat)≤(d:Rat):=Rat.intCast_nonneg.2 d0
     have hn:(0:Rat)≤((n:Int):Rat):=Rat.intCast_nonneg.2 k0
     have p1:0≤(s*m)*(((n:Int):Rat)*(d:Rat)):=Rat.mul_nonneg (by grind) (Rat.mul_nonneg hn hD')
     have p2:0≤(s*m)*(((n:Int):Rat)*(((n:Int):Rat)-1)):=by
      rcases Nat.eq_zero_or_pos n with e | e
      ·subst e
       rw [show (((0:Nat):Int):Rat)=0 from rfl];grind
      ·have:(1:Rat)≤((n:Int):Rat):=by
        have:((1:Int):Rat)≤((n:Int):Rat):=Rat.intCast_le_intCast.2 (by omega)
        exact this
       exact Rat.mul_nonneg (by grind) (Rat.mul_nonneg hn (by grind))
     generalize ((n:Int):Rat)=x at*
     generalize s*m=B at*
     generalize (d:Rat)=y at*
     grind
    have e3:(h-l) / s / (s*m)*(s*m)=(h-l) / s:=Rat.div_mul_cancel (by grind)
    rw [←y93 hB,e3]
    exact Rat.le_trans e2 e1
   have q5:(n:Int)≤floorQ ((h-l) / s / (s*m)):=by rw [y7a,Rat.le_floor_iff];exact q4
   have q6:2^(S+S+1+S+(S+S)+1)=2^(5*S+2):=by congr 1;omega
   omega
  obtain ⟨e,he⟩:∃e:Nat,(1+d+(n:Int))=(e:Int):=⟨(1+d+(n:Int)).toNat,by omega⟩
  have he0:0<e:=by omega
  have hes:e<2^(5*S+8):=by
   have h2:2^(5*S+8)=64*2^(5*S+2):=by rw [show 5*S+8=5*S+2+6 by omega,Nat.pow_add,Nat.mul_comm]
   have h3:1≤2^(5*S+2):=Nat.one_le_two_pow
   omega
  have het:(1:Rat)+Rat.ofInt d+((n:Int):Rat)=((e:Nat):Rat):=by
   have:((1+d+(n:Int):Int):Rat)=((e:Int):Rat):=by rw [he]
   rw [Rat.intCast_add,Rat.intCast_add] at this
   exact this
  have hne:((e:Nat):Rat)≠0:=fun hz=>by have:=Rat.natCast_pos.2 he0;grind
  rw [het] at k3
  have ef:fastQ h m s p d=((h-p) / s+s*m*triQ ((n:Int):Rat))*((e:Nat):Rat)⁻¹:=by
   rw [←k3,Rat.mul_assoc,Rat.mul_inv_cancel _ hne,Rat.mul_one]
  rw [ef]
  have htri:InD 1 (10*S+5) (triQ ((n:Int):Rat)):=by
   obtain ⟨t,ht⟩:∃t:Nat,n*(n+1)=2*t:=by
    rcases Nat.mod_two_eq_zero_or_one n with h | h
    ·exact ⟨n / 2*(n+1),by rw [←Nat.mul_assoc];congr 1;omega⟩
    ·exact ⟨n*((n+1) / 2),by rw [Nat.mul_left_comm];congr 1;omega⟩
   have e1:triQ ((n:Int):Rat)=((t:Int):Rat):=by
    have h3:((n*(n+1):Nat):Rat)=((2*t:Nat):Rat):=by rw [ht]
    rw [Rat.natCast_mul,Rat.natCast_mul,Rat.natCast_add] at h3
    have a1:((1:Nat):Rat)=1:=rfl
    have a2:((2:Nat):Rat)=2:=rfl
    rw [a1,a2] at h3
    have h2:2*triQ ((n:Nat):Rat)=((n:Nat):Rat)*(((n:Nat):Rat)+1):=y8q ((n:Int):Rat)
    show triQ ((n:Nat):Rat)=((t:Nat):Rat)
    rw [h3] at h2
    grind
   rw [e1]
   refine InD.int ?_
   have h5:n*(n+1)<2^(5*S+2)*2^(5*S+3):=Nat.mul_lt_mul'' hks (by rw [Nat.pow_succ 2 (5*S+2)];omega)
   rw [←Nat.pow_add,show 5*S+2+(5*S+3)=10*S+5 by omega] at h5
   omega
  have hbr:InD (s.den*m.den) (S+S+(10*S+5)) (s*m*triQ ((n:Int):Rat)):=by
   have:=((InD.of ss).mul (InD.of sm)).mul htri
   rw [Nat.mul_one] at this
   exact this
  obtain ⟨F,hFe⟩:∃F,F=h.den*s.num.natAbs*(s.den*m.den):=⟨_,rfl⟩
  have hF0:0<F:=by rw [hFe];exact Nat.mul_pos (Nat.mul_pos h.den_pos hsa) (Nat.mul_pos s.den_pos m.den_pos)
  have hF2:F<2^(S+S+(S+S)):=by rw [hFe];exact y33 (y33 sh.den ss.num) (y33 ss.den sm.den)
  have a1:InD (D*F) (Z+14*S+5) ((h-p) / s):=(hroom.more (y33 ss.den sm.den)).cast (by rw [hFe];simp only [Nat.mul_assoc]) (by omega)
  have a2:InD (D*F) (Z+14*S+5) (s*m*triQ ((n:Int):Rat)):=by
   have x1:D*(h.den*s.num.natAbs)<2^(Z+(S+S)):=y33 hD (y33 sh.den ss.num)
   exact (hbr.more' x1).cast (by rw [hFe];simp only [Nat.mul_assoc]) (by omega)
  have a3:=a1.add a2
  have a4:InD e 1 ((e:Nat):Rat)⁻¹:=⟨1,by show ((e:Nat):Rat)⁻¹*((e:Nat):Rat)=1;rw [Rat.mul_comm];exact Rat.mul_inv_cancel _ hne,by decide⟩
  refine ⟨F*e,Nat.mul_pos hF0 he0,Nat.lt_of_lt_of_le (y33 hF2 hes) (hmono _ _ (by omega)),(a3.mul a4).cast (by rw [Nat.mul_assoc]) (by omega)⟩
theorem yf2 {C:Rat→Prop} {a b:Rat} (ha:C a) (hb:C b):C (minQ a b):=by unfold minQ;split<;>assumption
theorem yfg {C:Rat→Prop} {a b:Rat} (ha:C a) (hb:C b):C (maxQ a b):=by unfold maxQ;split<;>assumption
def PvS (Z:Nat) (p v:Rat):Prop:=∃D,0<D∧D<2^Z∧InD D Z p∧InD D Z v
theorem PvS.sm {Z:Nat} {p v:Rat} (h:PvS Z p v):SmQ Z p∧SmQ Z v:=by
 obtain ⟨D,d0,d1,hp,hv⟩:=h
 exact ⟨hp.sm d0 d1 (Nat.le_refl _),hv.sm d0 d1 (Nat.le_refl _)⟩
theorem PvS.start {p v:Rat} {S:Nat} (hp:SmQ S p) (hv:SmQ S v):PvS (S+S) p v:=by
 refine ⟨p.den*v.den,Nat.mul_pos p.den_pos v.den_pos,y33 hp.den hv.den,(InD.of hp).more hv.den, ?_⟩
 exact (InD.of hv).more' hp.den
theorem PvS.step {l h m s p v w:Rat} {d at_ lng i:Int} {Z S:Nat} (h1S:1≤S) (hs:PvS Z p v) (sl:SmQ S l) (sh:SmQ S h) (sm:SmQ S m) (ss:SmQ S s) (sw:SmQ S w) (s0:0<s) (m0:0<m) (d0:0≤d) (d1:d≤16) (hlp:l≤p) (hph:p≤h):
  PvS (Z+(17*S+22)) (moQ l h m s d at_ lng i p v w).p (moQ l h m s d at_ lng i p v w).v:=by
 obtain ⟨D,D0,D1,hp,hv⟩:=hs
 obtain ⟨b1,b2,b3⟩:=InD.prod ss sm
 obtain ⟨w1,w2,w3⟩:=InD.prod ss sw
 have cv:Cand D Z (16*S+20) v:=(Cand.same hv).mono (by omega)
 have cp:Cand D Z (16*S+20) (v+s*m):=(Cand.plus hv b2 b3 b1 D1).mono (by omega)
 have cm:Cand D Z (16*S+20) (v-s*m):=by
  have:=(Cand.plus hv b2 b3 b1.neg D1).mono (show S+S+1≤16*S+20 by omega)
  rwa [←Rat.sub_eq_add_neg] at this
 have cw:Cand D Z (16*S+20) (v+s*w):=(Cand.plus hv w2 w3 w1 D1).mono (by omega)
 have cf:Cand D Z (16*S+20) (fastQ h m s p d):=yh7 hp D0 D1 sh sl sm ss s0 m0 d0 d1 hlp
 have cg:Cand D Z (16*S+20) (fastQ (-l) m s (-p) d):=yh7 (l:=-h) hp.neg D0 D1 sl.neg sh.neg sm ss s0 m0 d0 d1 (by grind)
 have c0:Cand D Z (16*S+20) 0:=⟨1,by decide,Nat.one_lt_two_pow (by omega),0,by rw [Rat.zero_mul];rfl,by rw [show (0:Int).natAbs=0 from rfl];exact Nat.pow_pos (by decide)⟩
 have hu:Cand D Z (16*S+20) (v+s*accQ l h m s d at_ lng i p v w):=by
  unfold accQ
  split
  ·rw [yg4 s0]
   exact yfg (yfg cg.neg cm) (yf2 (yf2 cf cp) cw)
  ·split
   ·rw [(ybd s0 m0).1]
    unfold brkQ
    split
    ·exact cp
    ·split
     ·exact c0
     ·exact cm
   ·rw [Rat.mul_zero,Rat.add_zero];exact cv
 show PvS (Z+(17*S+22)) (p+s*(v+s*accQ l h m s d at_ lng i p v w)) (v+s*accQ l h m s d at_ lng i p v w)
 generalize v+s*accQ l h m s d at_ lng i p v w=u at hu ⊢
 obtain ⟨F,f1,f2,f3⟩:=hu
 have hsd:=ss.den
 have k1:F*s.den<2^(16*S+20+S):=y33 f2 hsd
 refine ⟨D*(F*s.den),Nat.mul_pos D0 (Nat.mul_pos f1 s.den_pos),Nat.lt_of_lt_of_le (y33 D1 k1) (Nat.pow_le_pow_right (by decide) (by omega)), ?_, ?_⟩
 ·have a1:InD (D*(F*s.den)) (Z+(16*S+20+S)) p:=hp.more k1
  have a2:InD (D*(F*s.den)) (Z+(16*S+20)+S) (s*u):=by
   have:=f3.mul (InD.of ss)
   rw [Rat.mul_comm] at this
   exact this.cast (by rw [Nat.mul_assoc]) (Nat.le_refl _)
  exact (a1.add (a2.mono (by omega))).mono (by omega)
 ·exact (f3.more hsd).cast (by rw [Nat.mul_assoc]) (by omega)
end Go.Ev
namespace Go.Ev
theorem yvb (q:Rat):∃a b c d,rC q=[a,b,c,d]:=⟨_,_,_,_,rC_eq q⟩
theorem y5t (q:Rat):(rC q).length=4:=by obtain ⟨a,b,c,d,e⟩:=yvb q;rw [e];rfl
theorem y8r {X l:List AV} {K:Nat} (h:X.length=K):sub (X++l) 0 K=some X:=by
 subst h
 unfold sub
 have:Nat.ble (0+X.length) (X++l).length=true:=by simp
 rw [this,cond_true,List.drop_zero,List.take_left' rfl]
theorem y6x {X l:List AV} {K:Nat} (h:X.length=K) (k n:Nat):sub (X++l) (k+K) n=sub l k n:=by
 subst h
 unfold sub
 have:Nat.ble (k+X.length+n) (X++l).length=Nat.ble (k+n) l.length:=by
  rw [Bool.eq_iff_iff];simp;omega
 rw [this,show k+X.length=X.length+k by omega,List.drop_append,List.drop_of_length_le (by omega),List.nil_append,Nat.add_sub_cancel_left]
theorem yc3 {X l:List AV} {K:Nat} (h:X.length=K) (k:Nat) (xs:List AV):put (X++l) (k+K) xs=(put l k xs).map (X++·):=by
 subst h
 unfold put
 have:Nat.ble (k+X.length+xs.length) (X++l).length=Nat.ble (k+xs.length) l.length:=by
  rw [Bool.eq_iff_iff];simp;omega
 rw [this]
 cases Nat.ble (k+xs.length) l.length with
 | true=>
  rw [cond_true,cond_true,Option.map_some]
  have e1:(X++l).take (k+X.length)=X++l.take k:=by rw [show k+X.length=X.length+k by omega,List.take_append,List.take_of_length_le (by omega),Nat.add_sub_cancel_left]
  have e2:(X++l).drop (k+X.length+xs.length)=l.drop (k+xs.length):=by rw [show k+X.length+xs.length=X.length+(k+xs.length) by omega,List.drop_append,List.drop_of_length_le (by omega),List.nil_append,Nat.add_sub_cancel_left]
  rw [e1,e2];simp
 | false=>rfl
theorem ygu {X xs:List AV} (h:X.length=xs.length):put X 0 xs=some xs:=by
 unfold put
 have:Nat.ble (0+xs.length) X.length=true:=by simp [h]
 rw [this,cond_true,List.take_zero,List.nil_append,List.drop_of_length_le (by omega),List.append_nil]
theorem yk5 {X l xs:List AV} (h:X.length=xs.length):put (X++l) 0 xs=some (xs++l):=by
 unfold put
 have:Nat.ble (0+xs.length) (X++l).length=true:=by simp [h]
 rw [this,cond_true,List.take_zero,List.nil_append]
 have:(X++l).drop (0+xs.length)=l:=by rw [Nat.zero_add,←h];simp
 rw [this]
theorem yvy (a:Rat):sub (rC a) 0 4=some (rC a):=by have:=y8r (l:=[]) (y5t a);rwa [List.append_nil] at this
theorem ywj (a:Rat) (l:List AV):sub (rC a++l) 0 4=some (rC a):=y8r (y5t a)
theorem yw2 (a:Rat) (l:List AV) (n:Nat):sub (rC a++l) 4 n=sub l 0 n:=y6x (y5t a) 0 n
theorem yxa (a:Rat) (l:List AV) (n:Nat):sub (rC a++l) 8 n=sub l 4 n:=y6x (y5t a) 4 n
theorem yv6 (a:Rat) (l:List AV) (n:Nat):sub (rC a++l) 12 n=sub l 8 n:=y6x (y5t a) 8 n
theorem ygv (a b c d:Rat):(rC a++(rC b++(rC c++rC d))).length=16:=by simp [y5t]
theorem yvi (a b c d:Rat):sub (rC a++(rC b++(rC c++rC d))) 0 16=some (rC a++(rC b++(rC c++rC d))):=by
 have:=y8r (l:=[]) (ygv a b c d);rwa [List.append_nil] at this
theorem put_w (x y z w:AV) (l:List AV) (q:Rat):put (x::y::z::w::l) 0 (rC q)=some (rC q++l):=yk5 (X:=[x,y,z,w]) (y5t q).symm
theorem ywc (x y z w:AV) (q:Rat):put [x,y,z,w] 0 (rC q)=some (rC q):=ygu (y5t q).symm
theorem yx0 (p:Rat) (l xs:List AV):put (rC p++l) 4 xs=(put l 0 xs).map (rC p++·):=yc3 (y5t p) 0 xs
theorem yx7 (p:Rat) (l xs:List AV):put (rC p++l) 8 xs=(put l 4 xs).map (rC p++·):=yc3 (y5t p) 4 xs
theorem yu3 (p:Rat) (l xs:List AV):put (rC p++l) 12 xs=(put l 8 xs).map (rC p++·):=yc3 (y5t p) 8 xs
theorem ywh (p q:Rat):put (rC p) 0 (rC q)=some (rC q):=ygu (by rw [y5t,y5t])
theorem yvu (z1 z2 z3 z4 z5 z6 z7 z8 z9 z10 z11 z12 z13 z14 z15 z16:AV) (a b c d:Rat):put [z1,z2,z3,z4,z5,z6,z7,z8,z9,z10,z11,z12,z13,z14,z15,z16] 0 (rC a++(rC b++(rC c++rC d)))=some (rC a++(rC b++(rC c++rC d))):=ygu (ygv a b c d).symm
theorem ygy (a:Rat):∀x∈rC a,Canon x:=fun x hx=>by
 rw [rC_eq] at hx
 simp only [List.mem_cons,List.not_mem_nil,or_false] at hx
 rcases hx with rfl | rfl | rfl | rfl
 ·exact .bool _
 ·exact .sl _
 ·exact .bool _
 ·exact .sl _
theorem yvh (a:Rat) (ob:Nat→Option AObj) (fz:Nat→Nat):frzS ob fz (.agg (rC a))=some (fz,.agg (rC a)):=(CanS.agg _ (ygy a)).frz ob fz
theorem yu7 (a b c d:Rat):CanS (.agg (rC a++(rC b++(rC c++rC d)))):=.agg _ fun x hx=>by
 simp only [List.mem_append] at hx
 rcases hx with hx | hx | hx | hx<;>exact ygy _ _ hx
theorem ysg (a b c d:Rat) (ob:Nat→Option AObj) (fz:Nat→Nat):frzS ob fz (.agg (rC a++(rC b++(rC c++rC d))))=some (fz,.agg (rC a++(rC b++(rC c++rC d)))):=(yu7 a b c d).frz ob fz
theorem Num.len (x:Num):x.c.length=3:=rfl
theorem yvv (x:Num):sub x.c 0 3=some x.c:=by have:=y8r (l:=[]) x.len;rwa [List.append_nil] at this
theorem yxi (x:Num) (l:List AV):sub (x.c++l) 0 3=some x.c:=y8r x.len
theorem ywx (x:Num) (l:List AV) (n:Nat):sub (x.c++l) 3 n=sub l 0 n:=y6x x.len 0 n
theorem yvs (x:Num) (l:List AV) (n:Nat):sub (x.c++l) 6 n=sub l 3 n:=y6x x.len 3 n
theorem yvw (x:Num) (l:List AV) (n:Nat):sub (x.c++l) 9 n=sub l 6 n:=y6x x.len 6 n
theorem yuh (x:Num) (l:List AV) (n:Nat):sub (x.c++l) 12 n=sub l 9 n:=y6x x.len 9 n
theorem yty (x:Num) (l:List AV) (n:Nat):sub (x.c++l) 15 n=sub l 12 n:=y6x x.len 12 n
theorem yu4 (x:Num) (l:List AV) (n:Nat):sub (x.c++l) 18 n=sub l 15 n:=y6x x.len 15 n
theorem yv1 (x:Num) (l:List AV) (n:Nat):sub (x.c++l) 19 n=sub l 16 n:=y6x x.len 16 n
theorem y66 (x:Num):∀y∈x.c,Canon y:=fun y hy=>by
 unfold Num.c at hy
 simp only [List.mem_cons,List.not_mem_nil,or_false] at hy
 rcases hy with rfl | rfl | rfl<;>exact .int _ _
theorem ysz (x:Num) (ob:Nat→Option AObj) (fz:Nat→Nat):frzS ob fz (.agg x.c)=some (fz,.agg x.c):=(CanS.agg _ (y66 x)).frz ob fz
attribute [go_sem ↓] y5t ygv yvy ywj yw2 yxa yv6 yvi put_w ywc yx0 yx7 yu3 ywh yvu yvh ysg Num.len yvv yxi ywx yvs yvw yuh yty yu4 yv1 ysz
def tup6:Option SV→Option SV→Option SV→Option SV→Option SV→Option SV→Option SV
 | some a,some b,some c,some d,some e,some f=>some (.tup [a,b,c,d,e,f])
 | _,_,_,_,_,_=>none
theorem yp2 (a b c d e f:SV):tup6 (some a) (some b) (some c) (some d) (some e) (some f)=some (.tup [a,b,c,d,e,f]):=Eq.trans rfl rfl
theorem resAll6 (st:St) (a b c d e f:ARes):resAll st [a,b,c,d,e,f]=tup6 (resOf st a) (resOf st b) (resOf st c) (resOf st d) (resOf st e) (resOf st f):=by
 simp only [resAll,List.mapM_cons,List.mapM_nil]
 cases resOf st a<;>cases resOf st b<;>cases resOf st c<;>cases resOf st d<;>cases resOf st e<;>cases resOf st f<;>rfl
attribute [go_sem] resAll6 yp2
theorem cBoth (x:Num):Calling Id.y0d [.agg x.c] (.tup [.agg (qC x.q),.agg (rC x.q)]):=
 (Ends.of _ fun hn=>ysn x hn).call (can1 (.agg _ (y66 x)))
theorem Jt.len (j:Jt):j.c.length=19:=by unfold Jt.c;simp [Num.len]
theorem ym5 (j:Jt):∀y∈j.c,Canon y:=fun y hy=>by
 unfold Jt.c at hy
 simp only [List.mem_append,List.mem_cons,List.not_mem_nil,or_false] at hy
 rcases hy with h | h | h | h | h | h | h
 ·exact y66 _ _ h
 ·exact y66 _ _ h
 ·exact y66 _ _ h
 ·exact y66 _ _ h
 ·exact y66 _ _ h
 ·exact y66 _ _ h
 ·rw [h];exact .int _ _
theorem yn6 (j:Jt):Ends Id.y0z [.agg j.c] (.tup [.agg (qC j.low.q++(qC j.high.q++(qC j.most.q++qC j.step.q))),.agg (qC j.place.q),.agg (qC j.speed.q),.agg (rC j.low.q++(rC j.high.q++(rC j.most.q++rC j.step.q))),.agg (rC j.place.q),.agg (rC j.speed.q)]):=by
 obtain ⟨N1,h1⟩:=cBoth j.low
 obtain ⟨N2,h2⟩:=cBoth j.high
 obtain ⟨N3,h3⟩:=cBoth j.most
 obtain ⟨N4,h4⟩:=cBoth j.step
 obtain ⟨N5,h5⟩:=cBoth j.place
 obtain ⟨N6,h6⟩:=cBoth j.speed
 refine .of (N1+N2+N3+N4+N5+N6) fun {n} hn=> ?_
 have h1:=h1 n (by omega)
 have h2:=h2 n (by omega)
 have h3:=h3 n (by omega)
 have h4:=h4 n (by omega)
 have h5:=h5 n (by omega)
 have h6:=h6 n (by omega)
 rw [y04 y9d]
 unfold Jt.c
 simp only [go_sem,Fn.y0z,h1,h2,h3,h4,h5,h6]
theorem cJoint (j:Jt):Calling Id.y0z [.agg j.c] (.tup [.agg (qC j.low.q++(qC j.high.q++(qC j.most.q++qC j.step.q))),.agg (qC j.place.q),.agg (qC j.speed.q),.agg (rC j.low.q++(rC j.high.q++(rC j.most.q++rC j.step.q))),.agg (rC j.place.q),.agg (rC j.speed.q)]):=
 (yn6 j).call (can1 (.agg _ (ym5 j)))
end Go.Ev
namespace Go.Ev
open Go.Dig
theorem ytz (a b:Nat):(a=a+b)=(b=0):=by rw [eq_iff_iff];omega
theorem yup (a b:Nat):(a+b=a)=(b=0):=by rw [eq_iff_iff];omega
theorem yuj (a b c:Nat):(a+b<a+c)=(b<c):=by rw [eq_iff_iff];omega
attribute [go_sem] ytz yup yuj
def CanL (l:List AV):Prop:=∀x∈l,Canon x
theorem CanL.nil:CanL []:=fun _ h=>by simp at h
theorem CanL.cons {x:AV} {l:List AV} (h:Canon x) (hl:CanL l):CanL (x::l):=fun y hy=>by
 rcases List.mem_cons.1 hy with rfl | e
 ·exact h
 ·exact hl y e
theorem CanL.app {l m:List AV} (h:CanL l) (hm:CanL m):CanL (l++m):=fun y hy=>by
 rcases List.mem_append.1 hy with e | e
 ·exact h y e
 ·exact hm y e
theorem CanL.q (q:Rat):CanL (qC q):=.cons (.bool _) (.cons (.sl _) (.cons (.sl _) .nil))
theorem CanL.r (q:Rat):CanL (rC q):=ygy q
theorem CanL.num (x:Num):CanL x.c:=y66 x
theorem ydq {α:Type} {f:α→List AV} (h:∀a,CanL (f a)) (l:List α):CanonEs (l.map f):=fun e he x hx=>by
 obtain ⟨a,_,rfl⟩:=List.mem_map.1 he
 exact h a x hx
theorem ydw {α:Type} {f:FuncId} {a:α→List SV} {r:α→SV} (h:∀x,Calling f (a x) (r x)):∀(l:List α),∃N,∀n,N≤n→∀x∈l,∀(ob:Nat→Option AObj) (fz:Nat→Nat),callV (evF E n) f (a x) ob fz=some (.fzd fz (r x))
 | []=>⟨0,fun _ _ _ h=>by simp at h⟩
 | x::l=>by
  obtain ⟨N1,h1⟩:=h x
  obtain ⟨N2,h2⟩:=ydw h l
  refine ⟨N1+N2,fun n hn y hy=> ?_⟩
  rcases List.mem_cons.1 hy with rfl | e
  ·exact h1 n (by omega)
  ·exact h2 n (by omega) y e
def OutE (sz:Nat) (ob:Nat→Option AObj) (nx:Nat) (x:AV) (es:List (List AV)):Prop:=
 (es=[]∧x=.nils)∨∃id ver,x=.rsl id ver sz 0 es.length false∧ob id=some (.row sz es ver)∧id<nx
theorem OutE.frzD {sz:Nat} {ob:Nat→Option AObj} {nx:Nat} {x:AV} {es:List (List AV)} (h:OutE sz ob nx x es) (hc:CanonEs es):∃g:(Nat→Nat)→(Nat→Nat),∀fz,frz ob DEPTH fz x=some (g fz,.sl false es):=by
 rcases h with ⟨rfl,rfl⟩ | ⟨id,ver,rfl,hid,_⟩
 ·exact ⟨fun fz=>fz,fun fz=>rfl⟩
 ·refine ⟨fun fz=>raise fz id (0+es.length),fun fz=> ?_⟩
  have hb:Nat.ble (0+es.length) es.length=true:=by simp
  rw [show DEPTH=6+1+1 from rfl,ycu,y5x hid]
  simp only [hb,cond_true,List.drop_zero,List.take_length]
  rw [hc.frz ob 6]
theorem OutE.frz {sz:Nat} {ob:Nat→Option AObj} {nx:Nat} {x:AV} {es:List (List AV)} (h:OutE sz ob nx x es) (hc:CanonEs es):∃g:(Nat→Nat)→(Nat→Nat),∀fz,frzS ob fz (.one x)=some (g fz,.one (.sl false es)):=by
 obtain ⟨g,hg⟩:=h.frzD hc
 exact ⟨g,fun fz=>by simp only [frzS,hg]⟩
def Two (ob:Nat→Option AObj) (nx sz sz' i:Nat) (x y:AV) (es fs:List (List AV)):Prop:=
 es.length=i∧fs.length=i∧((es=[]∧fs=[]∧x=.nils∧y=.nils)∨∃a va b vb,x=.rsl a va sz 0 i false∧y=.rsl b vb sz' 0 i false∧ob a=some (.row sz es va)∧ob b=some (.row sz' fs vb)∧a<nx∧b<nx∧a≠b)
theorem Two.fst {ob:Nat→Option AObj} {nx sz sz' i:Nat} {x y:AV} {es fs:List (List AV)} (h:Two ob nx sz sz' i x y es fs):OutE sz ob nx x es:=by
 obtain ⟨h1,h2,⟨e1,e2,e3,e4⟩ | ⟨a,va,b,vb,e1,e2,e3,e4,e5,e6,e7⟩⟩:=h
 ·exact .inl ⟨e1,e3⟩
 ·exact .inr ⟨a,va,by rw [h1];exact e1,e3,e5⟩
theorem Two.snd {ob:Nat→Option AObj} {nx sz sz' i:Nat} {x y:AV} {es fs:List (List AV)} (h:Two ob nx sz sz' i x y es fs):OutE sz' ob nx y fs:=by
 obtain ⟨h1,h2,⟨e1,e2,e3,e4⟩ | ⟨a,va,b,vb,e1,e2,e3,e4,e5,e6,e7⟩⟩:=h
 ·exact .inl ⟨e2,e4⟩
 ·exact .inr ⟨b,vb,by rw [h2];exact e2,e4,e6⟩
theorem y6o {ob:Nat→Option AObj} {id q ver:Nat} {y:AObj} (h:id≠q):rowAt (upd ob q y) id ver=rowAt ob id ver:=by
 unfold rowAt
 rw [y00 h]
theorem yec {α:Type} {f:α→List AV} {k:Nat} (h:∀a,(f a).length=k) (l:List α):okSz k (l.map f)=true:=by
 cases l with
 | nil=>rfl
 | cons a r=>simp [okSz,h]
section
variable {fz:Nat→Nat}
theorem yno {n:Nat} {ob:Nat→Option AObj} {nx i:Nat} {x y:AV} {es fs:List (List AV)} (l:List (List AV)) (s:Num) (gl:l[i]? =some s.c) (o6:okSz 3 l=true) (hl:l.length<2^20) (hi:i<l.length) (hc:∀ob fz,callV (evF E n) Id.y0d [.agg s.c] ob fz=some (.fzd fz (.tup [.agg (qC s.q),.agg (rC s.q)]))) (h:Two ob nx 3 4 i x y es fs) (X:List (Nat×SV)):
  ∃(ob':Nat→Option AObj) (nx':Nat) (x' y':AV),evC (evF E n) n Fn.y44 ⟨env ((0,.one (.sl false l))::(4,.one x)::(5,.one y)::(6,.one (.int .i64 (i:Int)))::X),ob,fz,nx⟩=
   some (.nrm,⟨env [(0,.one (.sl false l)),(4,.one x'),(5,.one y'),(6,.one (.int .i64 ((i+1:Nat):Int)))],ob',fz,nx'⟩)∧Two ob' nx' 3 4 (i+1) x' y' (es++[qC s.q]) (fs++[rC s.q]):=by
 have h1:(((i:Nat):Int)<((l.length:Nat):Int))=True:=by simp;omega
 have wk:IntKind.i64.wrap ((i+1:Nat):Int)=((i+1:Nat):Int):=wi64 (by omega)
 obtain ⟨l1,l2,h⟩:=h
 have nxa:∀a b:Nat,nx+a+b=nx+(a+b):=fun a b=>Nat.add_assoc nx a b
 obtain ⟨r,hr0⟩:∃r,evC (evF E n) n Fn.y44 ⟨env ((0,.one (.sl false l))::(4,.one x)::(5,.one y)::(6,.one (.int .i64 (i:Int)))::X),ob,fz,nx⟩=r:=⟨_,rfl⟩
 have hr:=hr0
 rcases h with ⟨rfl,rfl,rfl,rfl⟩ | ⟨a,va,b,vb,rfl,rfl,h3,h4,h5,h6,h7⟩
 ·simp only [go_sem,Fn.y44,h1,gl,hc,o6,okSz,ROOM,add1,wk,nxa] at hr
  rw [hr0,←hr]
  refine ⟨_,_,_,_,rfl,by simp [←l1],by simp [←l1],.inr ⟨nx+15,0,nx+20,0, ?_, ?_, ?_,upd_same _ _ _,by omega,by omega,by omega⟩⟩
  ·rw [←l1];rfl
  ·rw [←l1];rfl
  ·rw [y00 (by omega),y00 (by omega)];exact upd_same _ _ _
 ·have k1:∀k ob y ver,rowAt (upd ob (nx+k) y) a ver=rowAt ob a ver:=fun k ob y ver=>y6o (by omega)
  have k2:∀k ob y ver,rowAt (upd ob (nx+k) y) b ver=rowAt ob b ver:=fun k ob y ver=>y6o (by omega)
  have k3:∀k j ob y ver,rowAt (upd ob (nx+k+j) y) a ver=rowAt ob a ver:=fun k j ob y ver=>y6o (by omega)
  have k4:∀k j ob y ver,rowAt (upd ob (nx+k+j) y) b ver=rowAt ob b ver:=fun k j ob y ver=>y6o (by omega)
  have k5:∀ob y ver,rowAt (upd ob a y) b ver=rowAt ob b ver:=fun ob y ver=>y6o h7.symm
  have m1:∀k ob y,upd ob a y (nx+k)=ob (nx+k):=fun k ob y=>y00 (by omega)
  have b1:(i==i)=true:=by simp
  have w1:(i+1)*56≤140737488355328:=by omega
  have w2:(i+1)*64≤140737488355328:=by omega
  have hra:rowAt ob a va=some (3,es):=y5x h3
  have hrb:rowAt ob b vb=some (4,fs):=y5x h4
  simp only [go_sem,Fn.y44,h1,gl,hc,o6,okSz,ROOM,add1,wk,nxa,k1,k2,k3,k4,k5,hra,hrb,l1,l2,m1,b1,w1,w2] at hr
  rw [hr0,←hr]
  refine ⟨_,_,_,_,rfl,by simp [l1],by simp [l2],.inr ⟨a,va+1,b,vb+1,rfl,rfl, ?_,upd_same _ _ _,by omega,by omega,h7⟩⟩
  rw [y00 h7,y00 (by omega)];exact upd_same _ _ _
theorem yht {n:Nat} (l:List Num) (hl:l.length<2^20) (hc:∀s∈l,∀ob fz,callV (evF E n) Id.y0d [.agg s.c] ob fz=some (.fzd fz (.tup [.agg (qC s.q),.agg (rC s.q)]))) (hn:l.length<n):∀(m i:Nat),i+m=l.length→∀(ob:Nat→Option AObj) (nx:Nat) (x y:AV) (X:List (Nat×SV)),Two ob nx 3 4 i x y ((l.take i).map fun s=>qC s.q) ((l.take i).map fun s=>rC s.q)→∀N,m<N→
  ∃(ob':Nat→Option AObj) (nx':Nat) (x' y':AV) (X':List (Nat×SV)),loopN (evC (evF E n) n Fn.y44) N ⟨env ((0,.one (.sl false (l.map Num.c)))::(4,.one x)::(5,.one y)::(6,.one (.int .i64 (i:Int)))::X),ob,fz,nx⟩=
   some (.ext 0,⟨env ((0,.one (.sl false (l.map Num.c)))::(4,.one x')::(5,.one y')::X'),ob',fz,nx'⟩)∧Two ob' nx' 3 4 l.length x' y' (l.map fun s=>qC s.q) (l.map fun s=>rC s.q)
 | 0,i,hi,ob,nx,x,y,X,h,N+1,hN=>by
  have hi':i=l.length:=by omega
  subst hi'
  rw [List.take_length] at h
  refine ⟨ob,nx,x,y,[(6,.one (.int .i64 (l.length:Int))),(12,.one (.bool false))],y0j ?_,h⟩
  have h1:(((l.length:Nat):Int)<((l.length:Nat):Int))=False:=by simp
  simp only [go_sem,Fn.y44,List.length_map,h1]
 | m+1,i,hi,ob,nx,x,y,X,h,N+1,hN=>by
  have hil:i<l.length:=by omega
  have gd:l[i]? =some l[i]:=by simp
  obtain ⟨ob',nx',x',y',hst,h'⟩:=yno (fz:=fz) (n:=n) (l.map Num.c) l[i] (by rw [List.getElem?_map,gd];rfl) (yec (f:=Num.c) (fun a=>rfl) l) (by simpa using hl) (by simpa using hil) (hc _ (by simp)) h X
  rw [y0l hst]
  refine yht l hl hc hn m (i+1) (by omega) ob' nx' x' y' [] ?_ N (by omega)
  have td:l.take (i+1)=l.take i++[l[i]]:=by rw [List.take_add_one,gd];rfl
  rw [td,List.map_append,List.map_append]
  exact h'
end
theorem yoa (l:List Num) (hl:l.length<2^20):Ends Id.y2o [.one (.sl false (l.map Num.c))] (.tup [.one (.sl false (l.map fun s=>qC s.q)),.one (.sl false (l.map fun s=>rC s.q))]):=by
 obtain ⟨N,hN⟩:=ydw cBoth l
 refine .of (N+l.length+1) fun {n} hn=> ?_
 rw [y04 ydc]
 obtain ⟨ob',nx',x',y',X',hlo,h2⟩:=yht (fz:=fz0) (n:=n) l hl (hN n (by omega)) (by omega) l.length 0 (by omega) ob0 0 .nils .nils [] ⟨rfl,rfl,.inl ⟨rfl,rfl,rfl,rfl⟩⟩ n (by omega)
 obtain ⟨g1,h3⟩:=h2.fst.frz (ydq (fun s:Num=>CanL.q s.q) l)
 obtain ⟨g2,h4⟩:=h2.snd.frz (ydq (fun s:Num=>CanL.r s.q) l)
 rw [show ((0:Nat):Int)=0 from rfl] at hlo
 simp only [go_sem,Fn.y2o,hlo,h3,h4]
theorem cList (l:List Num) (hl:l.length<2^20):Calling Id.y2o [.one (.sl false (l.map Num.c))] (.tup [.one (.sl false (l.map fun s=>qC s.q)),.one (.sl false (l.map fun s=>rC s.q))]):=(yoa l hl).call (can1 (.one _ (.sl _)))
end Go.Ev
namespace Go.Ev
theorem yjs (l h m s v:Rat) {S:Nat} (hm:SmQ S m) (hs:SmQ S s) (hv:SmQ S v) (h0:s.num≠0) (hS:S<2^20):
  Ends Id.y17 [.agg (qC l++(qC h++(qC m++qC s))),.agg (qC v)] (.agg (qC (brakingQ m s v))):=by
 have t1:SmQ (2*S) m:=hm.mono (by omega)
 have t2:SmQ (2*S) (-v / s):=(hv.neg.div h0 hs).mono (by omega)
 obtain ⟨N1,h1⟩:=cNeg m
 obtain ⟨N2,h2⟩:=cNeg v
 obtain ⟨N3,h3⟩:=cQuo (-v) s h0 hv.neg hs (by omega)
 obtain ⟨N4,h4⟩:=y7m (ye8 m (-v / s) t1 t2 (by omega))
 obtain ⟨N5,h5⟩:=y7m (yeb (-m) (minQ m (-v / s)) t1.neg (t1.min t2) (by omega))
 refine .of (N1+N2+N3+N4+N5) fun {n} hn=> ?_
 rw [y04 ya0]
 have h1:=h1 n (by omega)
 have h2:=h2 n (by omega)
 have h3:=h3 n (by omega)
 have h4:=h4 n (by omega)
 have h5:=h5 n (by omega)
 unfold brakingQ
 simp only [go_sem,Fn.y17,h1,h2,h3,h4,h5]
theorem cBraking (l h m s v:Rat) {S:Nat} (hm:SmQ S m) (hs:SmQ S s) (hv:SmQ S v) (h0:s.num≠0) (hS:S<2^20):
  Calling Id.y17 [.agg (qC l++(qC h++(qC m++qC s))),.agg (qC v)] (.agg (qC (brakingQ m s v))):=
 (yjs l h m s v hm hs hv h0 hS).call (yjh _ _ _ _ _)
theorem ysy {S:Nat} (h:1≤S):SmQ S 0:=⟨Nat.pow_pos (by decide),Nat.one_lt_two_pow (by omega)⟩
def drvSW:ACode:=match Fn.y1i with | .seq _ (.seq _ (.seq (.block _ (.seq _ (.seq _ (.seq s _)))) _))=>s | _=>.skip
def drvPut (c t:ACode):ACode:=match c with | .seq a (.seq b (.seq (.block k (.seq r1 (.seq r2 (.seq _ q)))) z))=>.seq a (.seq b (.seq (.block k (.seq r1 (.seq r2 (.seq t q)))) z)) | c=>c
theorem yur:Fn.y1i=drvPut Fn.y1i drvSW:=rfl
structure DrvB (ob:Nat→Option AObj) (l h m s p v:Rat) (at_ lng:Int):Prop where
 o0:ob 0=some (.box (qC l++(qC h++(qC m++qC s))))
 o1:ob 1=some (.box (qC p))
 o2:ob 2=some (.box (qC v))
 o3:ob 3=some (.box [.int .i64 at_,.int .i64 lng])
section
variable (l h m s p v w:Rat) (d at_ lng:Int) {S:Nat}
theorem yv0 (h1S:1≤S) (hl:SmQ S l) (hh:SmQ S h) (hm:SmQ S m) (hs:SmQ S s) (hp:SmQ S p) (hv:SmQ S v) (hw:SmQ S w) (s0:0<s) (m0:0<m) (d0:0≤d) (d1:d≤16) (hS:S<2^19) (i:Nat) (hi:i<2^20) (ha:0≤at_) (ha':at_<9223372036854775808):
  ∃N,∀n,N≤n→∀(ob:Nat→Option AObj) (nx iw ia:Nat) (y15 y53 y54 y55:SV),3<iw→iw<ia→DrvB ob l h m s p v at_ lng→ob iw=some (.box (qC w))→ob ia=some (.box [.bool false,.nils,.nils])→
   ∃ob' ac X',evC (evF E n) n drvSW ⟨env [(4,.one (.int .i64 d)),(6,.one (.box 0 0)),(7,.one (.box 1 0)),(8,.one (.box 2 0)),(11,.one (.box 3 0)),(15,y15),(16,.one (.int .i64 (i:Int))),(17,.one (.box iw 0)),(18,.one (.box ia 0)),(53,y53),(54,y54),(55,y55)],ob,fz0,nx⟩=
    some (.nrm,⟨env ((4,.one (.int .i64 d))::(6,.one (.box 0 0))::(7,.one (.box 1 0))::(8,.one (.box 2 0))::(11,.one (.box 3 0))::(15,y15)::(18,.one (.box ia 0))::(53,y53)::(54,y54)::(55,y55)::X'),ob',fz0,nx⟩)∧
    LQ (accQ l h m s d at_ lng (i:Int) p v w) ac∧ob' ia=some (.box ac)∧∀id,id≠ia→ob' id=ob id:=by
 have hsn:s.num≠0:=fun e=>by have:=Rat.num_eq_zero.1 e;grind
 obtain ⟨N1,h1⟩:=(yhz l h m s p v w d h1S hl hh hm hs hp hv hw s0 m0 d0 d1 hS).1.call (yqk _ _ _ _ _ _ _ _)
 obtain ⟨N2,h2⟩:=cBraking l h m s v hm hs hv hsn (by omega)
 refine ⟨N1+N2,fun n hn ob nx iw ia y15 y53 y54 y55 hiw hia B ow oa=> ?_⟩
 have h1:=h1 n (by omega)
 have h2:=h2 n (by omega)
 obtain ⟨o0,o1,o2,o3⟩:=B
 have w1:IntKind.i64.wrap ((i:Int)-at_)=(i:Int)-at_:=wrap_i64 (by omega)
 unfold accQ
 unfold heldQ at h1
 by_cases c1:lng=0
 ·have e1:(lng==0)=true:=by simp [c1]
  rw [if_pos (.inl c1)]
  refine ⟨upd ob ia (.box (qC (holdQ m s v w (fastQ h m s p d) (fastQ (-l) m s (-p) d)))),_,[], ?_,.of _,upd_same _ _ _,fun id hid=>y00 hid⟩
  unfold drvSW Fn.y1i
  simp only [go_sem,o0,o1,o2,o3,ow,oa,w1,e1,h1]
 ·have e1:(lng==0)=false:=by simp [c1]
  by_cases c2:(i:Int)-at_<0
  ·rw [if_pos (.inr c2)]
   have e2:((i:Int)-at_<0)=True:=by simp only [eq_iff_iff,iff_true];exact c2
   refine ⟨upd ob ia (.box (qC (holdQ m s v w (fastQ h m s p d) (fastQ (-l) m s (-p) d)))),_,[], ?_,.of _,upd_same _ _ _,fun id hid=>y00 hid⟩
   unfold drvSW Fn.y1i
   simp only [go_sem,o0,o1,o2,o3,ow,oa,w1,e1,e2,h1]
  ·rw [if_neg (by simp only [not_or];exact ⟨c1,c2⟩)]
   have e2:((i:Int)-at_<0)=False:=by simp only [eq_iff_iff,iff_false];exact c2
   by_cases c3:(i:Int)-at_≥lng
   ·rw [if_pos c3]
    have e3:((i:Int)-at_≥lng)=True:=by simp only [eq_iff_iff,iff_true];exact c3
    refine ⟨upd ob ia (.box (qC (brakingQ m s v))),_,[], ?_,.of _,upd_same _ _ _,fun id hid=>y00 hid⟩
    unfold drvSW Fn.y1i
    simp only [go_sem,o0,o1,o2,o3,oa,w1,e1,e2,e3,h2]
   ·rw [if_neg c3]
    have e3:((i:Int)-at_≥lng)=False:=by simp only [eq_iff_iff,iff_false];exact c3
    refine ⟨ob,_,[(78,.one (.bool false))], ?_,.inr ⟨rfl,rfl⟩,oa,fun id hid=>rfl⟩
    unfold drvSW Fn.y1i
    simp only [go_sem,o3,w1,e1,e2,e3]
end
def Mo.c (o:Mo):List AV:=qC o.a++(qC o.v++qC o.p)
def MoL (o:Mo) (e:List AV):Prop:=∃ac,LQ o.a ac∧e=ac++(qC o.v++qC o.p)
def MoLs:List Mo→List (List AV)→Prop
 | [],[]=>True
 | o::r,e::s=>MoL o e∧MoLs r s
 | _,_=>False
theorem MoLs.len:∀{ms:List Mo} {es:List (List AV)},MoLs ms es→es.length=ms.length
 | [],[],_=>rfl
 | _::r,_::s,h=>by rw [List.length_cons,List.length_cons,MoLs.len h.2]
theorem MoLs.snoc:∀{ms:List Mo} {es:List (List AV)} {o:Mo} {e:List AV},MoLs ms es→MoL o e→MoLs (ms++[o]) (es++[e])
 | [],[],_,_,_,h=>⟨h,trivial⟩
 | _::r,_::s,_,_,h,k=>⟨h.1,MoLs.snoc h.2 k⟩
theorem y8h {α:Type} {g:(Nat→Nat)→α→Option ((Nat→Nat)×α)} {x y:α} {r r':List α} (h:∀fz,g fz x=some (fz,y)) (k:∀fz,mapFz g fz r=some (fz,r')):∀fz,mapFz g fz (x::r)=some (fz,y::r'):=fun fz=>by
 simp only [mapFz,h,k]
theorem yvg (o:Mo):CanL o.c:=.app (.q _) (.app (.q _) (.q _))
theorem MoL.frz {o:Mo} {e:List AV} (h:MoL o e) (ob:Nat→Option AObj) (k:Nat):∀fz,mapFz (Ev.frz ob (k+1)) fz e=some (fz,o.c):=by
 obtain ⟨ac,hq,rfl⟩:=h
 rcases hq with rfl | ⟨h0,rfl⟩
 ·exact fun fz=>y76 _ fun x hx=>(yvg o x hx).frz ob k fz
 ·have e:o.c=.bool false::.sl false []::.sl false []::(qC o.v++qC o.p):=by unfold Mo.c;rw [h0,ymw];rfl
  rw [e]
  have hc:CanL (qC o.v++qC o.p):=.app (.q _) (.q _)
  exact y8h (fun fz=>rfl) (y8h (fun fz=>rfl) (y8h (fun fz=>rfl) fun fz=>y76 _ fun x hx=>(hc x hx).frz ob k fz))
theorem MoLs.frz (ob:Nat→Option AObj) (k:Nat):∀{ms:List Mo} {es:List (List AV)},MoLs ms es→∀fz,mapFz (mapFz (Ev.frz ob (k+1))) fz es=some (fz,ms.map Mo.c)
 | [],[],_=>fun fz=>rfl
 | _::r,_::s,h=>y8h (h.1.frz ob k) (MoLs.frz ob k h.2)
theorem MoL.len {o:Mo} {e:List AV} (h:MoL o e):e.length=9:=by
 obtain ⟨ac,hq,rfl⟩:=h
 rw [List.length_append,hq.len];rfl
theorem MoLs.okSz:∀{ms:List Mo} {es:List (List AV)},MoLs ms es→Ev.okSz 9 es=true
 | [],[],_=>rfl
 | _::r,e::s,h=>by simp [Ev.okSz,h.1.len]
def OutM (ob:Nat→Option AObj) (nx:Nat) (x:AV) (ms:List Mo):Prop:=
 (ms=[]∧x=.nils)∨∃id ver es,x=.rsl id ver 9 0 es.length false∧ob id=some (.row 9 es ver)∧id<nx∧MoLs ms es
theorem OutM.frz {ob:Nat→Option AObj} {nx:Nat} {x:AV} {ms:List Mo} (h:OutM ob nx x ms):∃g:(Nat→Nat)→(Nat→Nat),∀fz,frzS ob fz (.one x)=some (g fz,.one (.sl false (ms.map Mo.c))):=by
 rcases h with ⟨rfl,rfl⟩ | ⟨id,ver,es,rfl,hid,_,hm⟩
 ·exact ⟨fun fz=>fz,fun fz=>rfl⟩
 ·refine ⟨fun fz=>raise fz id (0+es.length),fun fz=> ?_⟩
  have hb:Nat.ble (0+es.length) es.length=true:=by simp
  have h1:Ev.frz ob DEPTH fz (.rsl id ver 9 0 es.length false)=some (raise fz id (0+es.length),.sl false (ms.map Mo.c)):=by
   rw [show DEPTH=6+1+1 from rfl,ycu,y5x hid]
   simp only [hb,cond_true,List.drop_zero,List.take_length]
   rw [hm.frz ob 6]
  simp only [frzS,h1]
section
variable (l h m s p v w:Rat) (d at_ lng:Int) {S:Nat}
def drvS (d:Int) (x:AV) (ws:List (List AV)) (i:Nat) (X:List (Nat×SV)):List (Nat×SV):=
 (4,.one (.int .i64 d))::(6,.one (.box 0 0))::(7,.one (.box 1 0))::(8,.one (.box 2 0))::(11,.one (.box 3 0))::(15,.one x)::(53,.one (.sl false ws))::(54,.one (.int .i64 (ws.length:Int)))::(55,.one (.int .i64 (i:Int)))::X
theorem yqv (h1S:1≤S) (hl:SmQ S l) (hh:SmQ S h) (hm:SmQ S m) (hs:SmQ S s) (hp:SmQ S p) (hv:SmQ S v) (hw:SmQ S w) (s0:0<s) (m0:0<m) (d0:0≤d) (d1:d≤16) (hS:S<2^19) (ha:0≤at_) (ha':at_<9223372036854775808)
  (ws:List (List AV)) (i:Nat) (gw:ws[i]? =some (qC w)) (o3w:okSz 3 ws=true) (hi:i<ws.length) (hlen:ws.length<2^20) (hacc:SmQ (31*S+200) (accQ l h m s d at_ lng (i:Int) p v w)):
  ∃N,∀n,N≤n→∀(ob:Nat→Option AObj) (nx:Nat) (x:AV) (ms:List Mo) (X:List (Nat×SV)),4≤nx→DrvB ob l h m s p v at_ lng→OutM ob nx x ms→ms.length=i→
   ∃ob' nx' x',evC (evF E n) n Fn.y1i ⟨env (drvS d x ws i X),ob,fz0,nx⟩=some (.nrm,⟨env (drvS d x' ws (i+1) []),ob',fz0,nx'⟩)∧nx≤nx'∧
    DrvB ob' l h m s (moQ l h m s d at_ lng (i:Int) p v w).p (moQ l h m s d at_ lng (i:Int) p v w).v at_ lng∧OutM ob' nx' x' (ms++[moQ l h m s d at_ lng (i:Int) p v w]):=by
 obtain ⟨N1,k1⟩:=yv0 l h m s p v w d at_ lng h1S hl hh hm hs hp hv hw s0 m0 d0 d1 hS i (by omega) ha ha'
 unfold moQ
 generalize accQ l h m s d at_ lng (i:Int) p v w=a at k1 hacc ⊢
 obtain ⟨N2,k2⟩:=cMul s a hs hacc (by omega)
 obtain ⟨N3,k3⟩:=cAdd v (s*a) hv (hs.mul hacc) (by omega)
 have hv':SmQ (34*S+210) (v+s*a):=(hv.add (hs.mul hacc)).mono (by omega)
 obtain ⟨N4,k4⟩:=cMul s (v+s*a) hs hv' (by omega)
 obtain ⟨N5,k5⟩:=cAdd p (s*(v+s*a)) hp (hs.mul hv') (by omega)
 refine ⟨N1+N2+N3+N4+N5,fun n hn ob nx x ms X hnx B hO hms=> ?_⟩
 have k3:=k3 n (by omega)
 have k4:=k4 n (by omega)
 have k5:=k5 n (by omega)
 have h1:(((i:Nat):Int)<((ws.length:Nat):Int))=True:=by simp;omega
 have wk:IntKind.i64.wrap ((i+1:Nat):Int)=((i+1:Nat):Int):=wi64 (by omega)
 obtain ⟨q0,q1,q2,q3⟩:=id B
 have nxa:∀a b:Nat,nx+a+b=nx+(a+b):=fun a b=>Nat.add_assoc nx a b
 have neN:∀i k:Nat,i<4→i≠nx+k:=fun i k hi=>by omega
 obtain ⟨ob',ac,X',e1,lq,e3,e4⟩:=k1 n (by omega) (upd (upd (upd ob (nx+3) (.box [.bool false,.nils,.nils])) (nx+3) (.box (qC w))) (nx+6+0) (.box [.bool false,.nils,.nils])) (nx+7) (nx+3) (nx+6) (.one x) (.one (.sl false ws)) (.one (.int .i64 (ws.length:Int))) (.one (.int .i64 (i:Int))) (by omega) (by omega)
  ⟨by rw [y00 (by omega),y00 (by omega),y00 (by omega)];exact q0,by rw [y00 (by omega),y00 (by omega),y00 (by omega)];exact q1,by rw [y00 (by omega),y00 (by omega),y00 (by omega)];exact q2,by rw [y00 (by omega),y00 (by omega),y00 (by omega)];exact q3⟩
  (by rw [y00 (by omega),upd_same]) (by rw [Nat.add_zero,upd_same])
 have old:∀id,id<nx→ob' id=ob id:=fun id hid=>by rw [e4 id (by omega),y00 (by omega),y00 (by omega),y00 (by omega)]
 have r0:=(old 0 (by omega)).trans q0
 have r1:=(old 1 (by omega)).trans q1
 have r2:=(old 2 (by omega)).trans q2
 have r3:=(old 3 (by omega)).trans q3
 have k2:∀ob fz,callV (evF E n) Id.y05 [.agg (qC s),.agg ac] ob fz=some (.fzd fz (.agg (qC (s*a)))):=fun ob fz=>by rw [y83 (.of _) lq];exact k2 n (by omega) ob fz
 have lsub:=lq.sub
 have llen:=lq.len
 rw [ymc] at e1
 have l9:(ac++(qC (v+s*a)++qC (p+s*(v+s*a)))).length=9:=by rw [List.length_append,llen];rfl
 have p0:∀z1 z2 z3:AV,∀r:List AV,put (z1::z2::z3::r) 0 ac=some (ac++r):=fun z1 z2 z3 r=>yk5 (X:=[z1,z2,z3]) (by rw [llen];rfl)
 have p3:∀r xs:List AV,put (ac++r) 3 xs=(put r 0 xs).map (ac++·):=fun r xs=>yc3 llen 0 xs
 have p6:∀r xs:List AV,put (ac++r) 6 xs=(put r 3 xs).map (ac++·):=fun r xs=>yc3 llen 3 xs
 have u6:(nx+6<nx+7)=True:=by simp only [eq_iff_iff,iff_true];omega
 have u0:(0<nx+7)=True:=by simp only [eq_iff_iff,iff_true];omega
 have u1:(1<nx+7)=True:=by simp only [eq_iff_iff,iff_true];omega
 have u2:(2<nx+7)=True:=by simp only [eq_iff_iff,iff_true];omega
 have g6:(nx+6=2)=False:=by simp only [eq_iff_iff,iff_false];omega
 have g6':(nx+6=1)=False:=by simp only [eq_iff_iff,iff_false];omega
 have ow:∀y,upd ob' 2 y (nx+6)=ob' (nx+6):=fun y=>y00 (by omega)
 have oa:∀y z,upd (upd ob' 2 y) 1 z (nx+6)=ob' (nx+6):=fun y z=>by rw [y00 (by omega),y00 (by omega)]
 have t1:∀y,upd ob' 2 y 1=ob' 1:=fun y=>y00 (by decide)
 have t0:∀y,upd ob' 2 y 0=ob' 0:=fun y=>y00 (by decide)
 have t2:∀y z,upd (upd ob' 2 y) 1 z 2=some y:=fun y z=>by rw [y00 (by decide),upd_same]
 obtain ⟨r,hr0⟩:∃r,evC (evF E n) n Fn.y1i ⟨env (drvS d x ws i X),ob,fz0,nx⟩=r:=⟨_,rfl⟩
 have hr:=hr0
 rw [yur] at hr
 generalize drvSW=SW at hr e1
 unfold drvS at hr hr0 ⊢
 have hmo:MoL ⟨a,v+s*a,p+s*(v+s*a)⟩ (ac++(qC (v+s*a)++qC (p+s*(v+s*a)))):=⟨ac,lq,rfl⟩
 have hB':∀ob2,(∀id,id<4→ob2 id=upd (upd ob' 2 (.box (qC (v+s*a)))) 1 (.box (qC (p+s*(v+s*a)))) id)→DrvB ob2 l h m s (p+s*(v+s*a)) (v+s*a) at_ lng:=fun ob2 hk=>
  ⟨by rw [hk 0 (by decide),y00 (by decide),y00 (by decide)];exact r0,by rw [hk 1 (by decide),upd_same],by rw [hk 2 (by decide),y00 (by decide),upd_same],by rw [hk 3 (by decide),y00 (by decide),y00 (by decide)];exact r3⟩
 rcases hO with ⟨rfl,rfl⟩ | ⟨id,ver,es,rfl,hid,hidn,hM⟩
 ·simp only [go_sem,drvPut,Fn.y1i,h1,gw,o3w,ROOM,add1,wk,nxa,e1,r0,r1,r2,r3,e3,↓lsub,llen,l9,↓p0,↓p3,↓p6,u6,u0,u1,u2,g6,g6',ow,oa,t0,t1,t2,k2,k3,k4,k5] at hr
  rw [hr0,←hr]
  refine ⟨_,_,_,rfl,by omega,hB' _ fun id hid=> ?_,.inr ⟨nx+13,0,[ac++(qC (v+s*a)++qC (p+s*(v+s*a)))],rfl,upd_same _ _ _,by omega,⟨hmo,trivial⟩⟩⟩
  rw [y00 (by omega),y00 (by omega)]
 ·have rid:∀y z,rowAt (upd (upd ob' 2 y) 1 z) id ver=some (9,es):=fun y z=>by
   have n1:id≠1:=fun e=>by rw [e,q1] at hid;cases hid
   have n2:id≠2:=fun e=>by rw [e,q2] at hid;cases hid
   rw [y6o n1,y6o n2]
   exact y5x ((old id hidn).trans hid)
  have kr:∀k ob y,rowAt (upd ob (nx+k) y) id ver=rowAt ob id ver:=fun k ob y=>y6o (by omega)
  have b1:(es.length==es.length)=true:=by simp
  have hel:es.length=i:=by rw [hM.len,hms]
  have w9:(es.length+1)*168≤140737488355328:=by omega
  simp only [go_sem,drvPut,Fn.y1i,h1,gw,o3w,ROOM,add1,wk,nxa,e1,r0,r1,r2,r3,e3,↓lsub,llen,l9,↓p0,↓p3,↓p6,u6,u0,u1,u2,g6,g6',ow,oa,t0,t1,t2,k2,k3,k4,k5,rid,kr,b1,w9] at hr
  rw [hr0,←hr]
  refine ⟨_,_,_,rfl,by omega,hB' _ fun c hc=> ?_,.inr ⟨id,ver+1,es++[ac++(qC (v+s*a)++qC (p+s*(v+s*a)))],by rw [List.length_append];rfl,upd_same _ _ _,by omega,hM.snoc hmo⟩⟩
  have n3:c≠id:=fun e=>by
   subst e
   have h4:c=0∨c=1∨c=2∨c=3:=by omega
   rcases h4 with rfl | rfl | rfl | rfl
   ·rw [q0] at hid;cases hid
   ·rw [q1] at hid;cases hid
   ·rw [q2] at hid;cases hid
   ·rw [q3] at hid;cases hid
  rw [y00 n3,y00 (by omega)]
end
set_option maxRecDepth 100000 in
theorem yjx (l h m s:Rat) (d at_ lng:Int) (sl:SmQ 256 l) (sh:SmQ 256 h) (sm:SmQ 256 m) (ss:SmQ 256 s) (s0:0<s) (m0:0<m) (d0:0≤d) (d1:d≤16) (ha:0≤at_) (ha':at_<9223372036854775808) (g0:0≤lng) (g1:lng≤d) (ws:List (List AV)) (o3w:okSz 3 ws=true) (hlen:ws.length≤40):
  ∀(r:List Rat) (i:Nat) (p v:Rat) (Z:Nat),ws.drop i=r.map qC→PvS Z p v→Z+4374*r.length≤200000→safeQ l h m s p v (lookQ d at_ lng (i:Int))=true→(∀w∈r,SmQ 256 w)→i+r.length=ws.length→
   (∀o∈driveQ l h m s d at_ lng (i:Int) p v r,SmQ 6300000 o.a∧SmQ 200000 o.v∧SmQ 200000 o.p)∧
   ∃N,∀n,N≤n→∀(ob:Nat→Option AObj) (nx:Nat) (x:AV) (ms:List Mo) (X:List (Nat×SV)),4≤nx→DrvB ob l h m s p v at_ lng→OutM ob nx x ms→ms.length=i→∀M,r.length<M→
   ∃ob' nx' x' X',loopN (evC (evF E n) n Fn.y1i) M ⟨env (drvS d x ws i X),ob,fz0,nx⟩=some (.ext 1,⟨env (drvS d x' ws ws.length X'),ob',fz0,nx'⟩)∧OutM ob' nx' x' (ms++driveQ l h m s d at_ lng (i:Int) p v r)
 | [],i,p,v,Z,hd,hP,hZ,hsafe,hw,hi=>by
  rw [List.length_nil,Nat.add_zero] at hi
  refine ⟨fun o ho=>(List.not_mem_nil ho).elim,0,fun n hn ob nx x ms X hnx B hO hms M hM=> ?_⟩
  obtain ⟨M,rfl⟩:∃q,M=q+1:=⟨M-1,by omega⟩
  subst hi
  have lt:(((ws.length:Nat):Int)<((ws.length:Nat):Int))=False:=by simp
  refine ⟨ob,nx,x,[(56,.one (.bool false))],y0j ?_,by unfold driveQ;rw [List.append_nil];exact hO⟩
  unfold drvS
  simp only [go_sem,Fn.y1i,lt]
 | w::r,i,p,v,Z,hd,hP,hZ,hsafe,hw,hi=>by
  rw [List.length_cons] at hi hZ
  have gw:ws[i]? =some (qC w):=by
   have:=congrArg (fun l=>l[0]?) hd
   simpa using this
  have hd':ws.drop (i+1)=r.map qC:=by
   have:=congrArg (fun l=>l.drop 1) hd
   simpa using this
  obtain ⟨m1,m2,m3,m4,m5,-,-⟩:=mo_ok (w:=w) s0 m0 d0 g0 g1 hsafe
  have hle:=ym6 s0 m0 (by unfold lookQ;split;omega;split<;>omega) hsafe
  have h5:Z+(17*256+22)≤200000:=by omega
  have sp:=hP.sm
  have hPs:=hP.step (w:=w) (d:=d) (at_:=at_) (lng:=lng) (i:=(i:Int)) (by decide) sl sh sm ss (hw w (by simp)) s0 m0 d0 d1 hle.1 hle.2
  have S2:∀{q:Rat},SmQ 256 q→SmQ 200000 q:=fun h=>h.mono (by decide)
  have sp1:SmQ 200000 p:=sp.1.mono (by omega)
  have sv1:SmQ 200000 v:=sp.2.mono (by omega)
  have hacc:SmQ (31*200000+200) (accQ l h m s d at_ lng (i:Int) p v w):=by
   unfold accQ
   split
   ·exact (yhz l h m s p v w d (by decide) (S2 sl) (S2 sh) (S2 sm) (S2 ss) sp1 sv1 (S2 (hw w (by simp))) s0 m0 d0 d1 (by decide)).2
   ·split
    ·unfold brakingQ
     have hsn:s.num≠0:=fun e=>by have:=Rat.num_eq_zero.1 e;grind
     have t1:SmQ (31*200000+200) m:=sm.mono (by decide)
     have t2:SmQ (31*200000+200) (-v / s):=(sv1.neg.div hsn ss).mono (by decide)
     exact t1.neg.max (t1.min t2)
    ·exact ysy (by decide)
  obtain ⟨N1,k1⟩:=yqv l h m s p v w d at_ lng (by decide) (S2 sl) (S2 sh) (S2 sm) (S2 ss) sp1 sv1 (S2 (hw w (by simp))) s0 m0 d0 d1 (by decide) ha ha' ws i gw o3w (by omega) (by omega) hacc
  have ei:((i:Nat):Int)+1=((i+1:Nat):Int):=rfl
  rw [ei] at m1
  obtain ⟨r1,N2,k2⟩:=yjx l h m s d at_ lng sl sh sm ss s0 m0 d0 d1 ha ha' g0 g1 ws o3w hlen r (i+1) _ _ _ hd' hPs (by omega) m1 (fun x hx=>hw x (by simp [hx])) (by omega)
  refine ⟨fun o ho=> ?_,N1+N2,fun n hn ob nx x ms X hnx B hO hms M hM=> ?_⟩
  ·unfold driveQ at ho
   rw [ei] at ho
   rcases List.mem_cons.1 ho with rfl | ho
   ·have hsm:=hPs.sm
    exact ⟨hacc.mono (by decide),hsm.2.mono h5,hsm.1.mono h5⟩
   ·exact r1 o ho
  ·rw [List.length_cons] at hM
   obtain ⟨M,rfl⟩:∃q,M=q+1:=⟨M-1,by omega⟩
   obtain ⟨ob',nx',x',e1,e2,e3,e4⟩:=k1 n (by omega) ob nx x ms X hnx B hO hms
   obtain ⟨ob2,nx2,x2,X2,f1,f2⟩:=k2 n (by omega) ob' nx' x' _ [] (by omega) e3 e4 (by rw [List.length_append,hms];rfl) M (by omega)
   refine ⟨ob2,nx2,x2,X2,by rw [y0l e1];exact f1, ?_⟩
   unfold driveQ
   rw [ei,List.append_assoc] at*
   exact f2
end Go.Ev
namespace Go.Ev
def CLe (F F':Caller):Prop:=∀c args s r,F c args s=some r→F' c args s=some r
theorem yfv {F F':Caller} (h:CLe F F') {f:FuncId} {args:List SV} {ob:Nat→Option AObj} {fz:Nat→Nat} {e:Eff} (he:callV F f args ob fz=some e):callV F' f args ob fz=some e:=by
 unfold callV at he ⊢
 cases h1:mapFz (frzS ob) fz args with
 | none=>rw [h1] at he;cases he
 | some p=>
  obtain ⟨fz',args'⟩:=p
  rw [h1] at he
  simp only at he ⊢
  cases h2:F (.fn f) args' Sto.empty with
  | none=>rw [h2] at he;cases he
  | some q=>
   rw [h _ _ _ _ h2]
   rw [h2] at he
   exact he
theorem yps {F F':Caller} (h:CLe F F') {d:Bool} {rb id:Nat} {st:St} {o:AOp} {e:Eff} (he:evOp F d rb id st o=some e):evOp F' d rb id st o=some e:=by
 cases o with
 | call byref f args=>
  simp only [evOp] at he ⊢
  cases byref with
  | true=>
   simp only [cond_true] at he ⊢
   cases h2:F (.fn f) (args.map (·.ev st.sl)) ⟨st.ob,st.fz,st.nx⟩ with
   | none=>rw [h2] at he;cases he
   | some q=>rw [h _ _ _ _ h2];rw [h2] at he;exact he
  | false=>exact yfv h he
 | callv x args=>
  simp only [evOp] at he ⊢
  split at he
  ·exact yfv h he
  ·rename_i f first caps hne hx
   cases h2:F (.fn f) (first.map .one++args.map (·.ev st.sl)++caps.map .one) ⟨st.ob,st.fz,st.nx⟩ with
   | none=>rw [h2] at he;cases he
   | some q=>rw [h _ _ _ _ h2];rw [h2] at he;exact he
  ·rename_i l hx
   cases h2:F (.rnd l) (args.map (·.ev st.sl)) ⟨st.ob,st.fz,st.nx⟩ with
   | none=>rw [h2] at he;cases he
   | some q=>rw [h _ _ _ _ h2];rw [h2] at he;exact he
  ·cases he
 | _=>exact he
theorem yah {F F':Caller} (h:CLe F F') {d:Bool} {rb i:Nat} {st st':St} {o:AOper} (he:evO F d rb i o st=some st'):evO F' d rb i o st=some st':=by
 unfold evO at he ⊢
 split at he
 ·cases hl:limOk st.sl o.op o.lim with
  | false=>rw [hl] at he;cases he
  | true=>
   rw [hl] at he
   simp only [cond_true] at he ⊢
   cases h2:evOp F d rb (rb+i) st o.op with
   | none=>rw [h2] at he;cases he
   | some q=>rw [yps h h2];rw [h2] at he;exact he
 ·exact he
 ·cases he
theorem yan {F F':Caller} (h:CLe F F') {d:Bool} {rb:Nat}:∀{ops:List AOper} {i:Nat} {st st':St},evOps F d rb i ops st=some st'→evOps F' d rb i ops st=some st'
 | [],i,st,st',he=>he
 | o::r,i,st,st',he=>by
  unfold evOps at he ⊢
  cases h2:evO F d rb i o st with
  | none=>rw [h2] at he;cases he
  | some q=>rw [yah h h2];rw [h2] at he;exact yan h he
theorem ye7 {F F':Caller} (h:CLe F F') {rb:Nat} {aos:List AOper}:∀{pm:List (Nat×List (Nat×Opd))} {st st':St},evP F rb aos pm st=some st'→evP F' rb aos pm st=some st'
 | [],st,st',he=>he
 |(j,ks)::r,st,st',he=>by
  unfold evP at he ⊢
  cases hj:aos[j]? with
  | none=>rw [hj] at he;cases he
  | some o=>
   rw [hj] at he
   simp only at he ⊢
   cases h2:evO F true rb j o st with
   | none=>rw [h2] at he;cases he
   | some q=>
    rw [yah h h2]
    rw [h2] at he
    simp only at he ⊢
    cases hk:keepOk st q ks with
    | false=>rw [hk] at he;cases he
    | true=>rw [hk] at he;exact ye7 h he
theorem yax {b b':St→Option (Ex×St)} (h:∀st r,b st=some r→b' st=some r):∀{k k':Nat} {st:St} {r:Ex×St},k≤k'→loopN b k st=some r→loopN b' k' st=some r
 | 0,k',st,r,hk,he=>by cases he
 | k+1,0,st,r,hk,he=>by omega
 | k+1,k'+1,st,r,hk,he=>by
  unfold loopN at he ⊢
  cases h2:b st with
  | none=>rw [h2] at he;cases he
  | some q=>
   rw [h _ _ h2]
   rw [h2] at he
   obtain ⟨e,st'⟩:=q
   cases e with
   | nrm=>exact yax h (by omega) he
   | ext id=>exact he
   | ret=>exact he
theorem y4r {F F':Caller} (h:CLe F F') {fuel fuel':Nat} (hf:fuel≤fuel'):∀(a:ACode) {st:St} {r:Ex×St},evC F fuel a st=some r→evC F' fuel' a st=some r
 | .skip,st,r,he=>he
 | .reg d ops na ks,st,r,he=>by
  unfold evC at he ⊢
  cases h2:evOps F d st.nx 0 ops { st with nx:=st.nx+na } with
  | none=>rw [h2] at he;cases he
  | some q=>rw [yan h h2];rw [h2] at he;exact he
 | .regp ops pm na ks,st,r,he=>by
  unfold evC at he ⊢
  cases h2:evP F st.nx ops pm { st with nx:=st.nx+na } with
  | none=>rw [h2] at he;cases he
  | some q=>rw [ye7 h h2];rw [h2] at he;exact he
 | .seq a b,st,r,he=>by
  unfold evC at he ⊢
  cases h2:evC F fuel a st with
  | none=>rw [h2] at he;cases he
  | some q=>
   rw [y4r h hf a h2]
   rw [h2] at he
   obtain ⟨e,st'⟩:=q
   cases e with
   | nrm=>exact y4r h hf b he
   | ext id=>exact he
   | ret=>exact he
 | .cond c a b,st,r,he=>by
  unfold evC at he ⊢
  cases h2:isBool (c.ev st.sl) with
  | none=>rw [h2] at he;cases he
  | some t=>
   rw [h2] at he
   cases t with
   | true=>exact y4r h hf a he
   | false=>exact y4r h hf b he
 | .block id a,st,r,he=>by
  unfold evC at he ⊢
  cases h2:evC F fuel a st with
  | none=>rw [h2] at he;cases he
  | some q=>rw [y4r h hf a h2];rw [h2] at he;exact he
 | .loop a,st,r,he=>by
  unfold evC at he ⊢
  exact yax (fun st r hr=>y4r h hf a hr) hf he
 | .exit id,st,r,he=>he
 | .ret,st,r,he=>he
 | .rangeF g ps asg body,st,r,he=>by
  unfold evC at he ⊢
  split at he
  ·rename_i f first caps hg
   cases h2:F (.fn f) (first.map .one++[.one (.yld (st.nx+1))]++caps.map .one) ⟨upd (upd st.ob st.nx .dfr) (st.nx+1) (.loop ⟨st.sl,ps,asg,body,.ready,none⟩),st.fz,st.nx+2⟩ with
   | none=>rw [h2] at he;cases he
   | some q=>rw [h _ _ _ _ h2];rw [h2] at he;exact he
  ·cases he
theorem ykk (E:Env):∀n,CLe (evF E n) (evF E (n+1))
 | 0=>fun c args s r h=>by cases c<;>cases h
 | n+1=>fun c args s r h=>by
  have ih:=ykk E n
  have hC:∀(a:ACode) (st:St) (r:Ex×St),evC (evF E n) n a st=some r→evC (evF E (n+1)) (n+1) a st=some r:=fun a st r hr=>y4r ih (Nat.le_succ n) a hr
  cases c with
  | fn f=>
   rw [evF] at h ⊢
   cases hE:E f with
   | none=>rw [hE] at h;cases h
   | some fn=>
    rw [hE] at h
    simp only at h ⊢
    cases h2:evC (evF E n) n fn.code { sl:=env (ofArgs 0 args),ob:=s.ob,fz:=s.fz,nx:=s.nx } with
    | none=>rw [h2] at h;cases h
    | some q=>rw [hC _ _ _ h2];rw [h2] at h;exact h
  | rnd l=>
   rw [evF] at h ⊢
   split at h
   ·rename_i lr hl
    cases hb:(Nat.beq args.length lr.ps.length&&naOk lr.asg&&naOk lr.body) with
    | false=>rw [hb] at h;cases h
    | true=>
     rw [hb] at h
     simp only [cond_true] at h ⊢
     cases h2:evC (evF E n) n lr.asg { sl:=setPs lr.ps args lr.sl,ob:=s.ob,fz:=s.fz,nx:=s.nx } with
     | none=>rw [h2] at h;cases h
     | some q=>
      rw [hC _ _ _ h2]
      rw [h2] at h
      obtain ⟨e,st⟩:=q
      cases e with
      | ext id=>cases h
      | ret=>cases h
      | nrm=>
       simp only at h ⊢
       split at h
       ·rename_i r1 hr1
        split at h
        ·rename_i hst
         cases h3:evC (evF E n) n lr.body { st with ob:=upd st.ob l (.loop { r1 with st:=.busy }) } with
         | none=>rw [h3] at h;cases h
         | some q=>rw [hC _ _ _ h3];rw [h3] at h;exact h
        ·cases h
       ·cases h
   ·cases h
theorem y5m (E:Env) {n m:Nat} (h:n≤m):CLe (evF E n) (evF E m):=by
 induction h with
 | refl=>exact fun c args s r h=>h
 | step _ ih=>exact fun c args s r h=>ykk E _ c args s r (ih c args s r h)
theorem ysu {E:Env} {n m:Nat} (h:n≤m) {f:FuncId} {args:List SV} {r:SV} (he:evV E n f args=some r):evV E m f args=some r:=by
 unfold evV at he ⊢
 cases h2:evF E n (.fn f) args Sto.empty with
 | none=>rw [h2] at he;cases he
 | some q=>rw [y5m E h _ _ _ _ h2];rw [h2] at he;exact he
end Go.Ev
