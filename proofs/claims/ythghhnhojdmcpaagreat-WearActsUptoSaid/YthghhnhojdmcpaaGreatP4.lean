import Derived.Test.YthghhnhojdmcpaaGreatP3
set_option linter.all false
namespace Go.Ev
open Go.Dig
def OutR (ob:Nat→Option AObj) (nx:Nat) (x:AV) (o:List Nat):Prop:=
 (o=[]∧x=.nils)∨∃id ver,x=.rsl id ver 1 0 o.length false∧ob id=some (.row 1 (intE o) ver)∧id<nx
theorem ypx {ob:Nat→Option AObj} {nx:Nat} {x:AV} {o:List Nat} (h:OutR ob nx x o) (fz:Nat→Nat):∃fz',frz ob DEPTH fz x=some (fz',.sl false (intE o)):=by
 rcases h with ⟨rfl,rfl⟩ | ⟨id,ver,rfl,hid,_⟩
 ·exact ⟨fz,rfl⟩
 ·have hb:Nat.ble (0+o.length) (intE o).length=true:=by simp [intE]
  refine ⟨raise fz id (0+o.length), ?_⟩
  rw [show DEPTH=6+1+1 from rfl,y7l,y1l hid]
  simp only [hb,cond_true]
  rw [((yio o).sub 0 o.length).frz ob 6]
  simp only [List.drop_zero,yd4,List.take_length]
theorem ymw {ob:Nat→Option AObj} {nx:Nat} {x:AV} {o:List Nat} (h:OutR ob nx x o) (fz:Nat→Nat):∃fz',frzS ob fz (.one x)=some (fz',.one (.sl false (intE o))):=by
 obtain ⟨fz',h⟩:=ypx h fz
 exact ⟨fz',by simp only [frzS,h]⟩
theorem ytn {n:Nat} {ob:Nat→Option AObj} {nx:Nat} {x:AV} {o:List Nat} (h:OutR ob nx x o) (hs:o.length<2^60) (hd:∀d∈o,d<BT) (hn:o.length+2≤n) (fz:Nat→Nat):∃fz',callV (evF E n) Id.y20 [.one x] ob fz=some (.fzd fz' (.one (zD (val BT o)))):=by
 obtain ⟨m,rfl⟩:∃m,n=m+1:=⟨n-1,by omega⟩
 obtain ⟨fz',h⟩:=ymw h fz
 refine ⟨fz', ?_⟩
 rw [y6r]
 simp only [mapFz,h,yl3 o hs hd (show o.length+1≤m by omega),Option.map_some]
theorem y6w (o:List Nat) (d:Nat):intE o++[[AV.int .i64 (d:Int)]]=intE (o++[d]):=yop o [d]
theorem y8b (ob:Nat→Option AObj) (q q2 d nx':Nat) (h:q2<nx') (y:AObj):OutR (upd (upd ob q y) q2 (.row 1 [[AV.int .i64 (d:Int)]] 0)) nx' (.rsl q2 0 1 0 1 false) [d]:=
 .inr ⟨q2,0,rfl,upd_same _ _ _,h⟩
theorem y89 {ob:Nat→Option AObj} {id ver q d nx':Nat} {o:List Nat} (h:id<nx') (y:AObj):OutR (upd (upd ob q y) id (.row 1 (intE (o++[d])) (ver+1))) nx' (.rsl id (ver+1) 1 0 (o.length+1) false) (o++[d]):=
 .inr ⟨id,ver+1,by simp,upd_same _ _ _,h⟩
theorem y6b {ob:Nat→Option AObj} {id ver q:Nat} {es:List (List AV)} (hid:ob id=some (.row 1 es ver)) (hq:id≠q) (y:AObj):rowAt (upd ob q y) id ver=some (1,es):=by
 refine y1l ?_
 rw [y00 hq];exact hid
def zC (z:Int):List AV:=[.bool (decide (z<0)),zD z.natAbs]
def sV (z:Int):SV:=.agg (zC z)
theorem y1s (z:Int):CanS (sV z):=.agg _ fun x hx=>by
 simp only [zC,List.mem_cons,List.not_mem_nil,or_false] at hx
 rcases hx with rfl | rfl
 ·exact .bool _
 ·exact .sl _
theorem ygr (m:Nat):((((digs BT m).length:Nat):Int)>0)=(m≠0):=by
 rw [eq_iff_iff]
 constructor
 ·intro h e
  subst e
  rw [y0s] at h
  simp at h
 ·intro h
  have:=y4u BT2 h
  have:(digs BT m).length≠0:=fun e=>this (List.length_eq_zero_iff.1 e)
  omega
theorem y10j (neg:Bool) (m:Nat):zC (sgn neg m)=[.bool (neg&&decide (m≠0)),zD m]:=by
 unfold zC sgn
 cases neg with
 | false=>simp
 | true=>
  simp only [if_true,Int.natAbs_neg,Int.natAbs_natCast,Bool.true_and]
  have:decide (-(m:Int)<0)=decide (m≠0):=by
   rw [decide_eq_decide]
   omega
  rw [this]
theorem yqr (neg:Bool) (m n:Nat):evV E (n+1) Id.y0w [.one (.bool neg),.one (zD m)]=some (sV (sgn neg m)):=by
 rw [y02 ycw]
 unfold sV
 rw [y10j]
 unfold zD
 cases neg with
 | true=>simp only [go_sem,Fn.y0w,ygr]
 | false=>simp only [go_sem,Fn.y0w,ygr]
theorem y7h (neg:Bool) (m:Nat) (z:Int) (hz:sgn neg m=z) {n:Nat} (hn:1≤n) (ob:Nat→Option AObj) (fz:Nat→Nat):callV (evF E n) Id.y0w [.one (.bool neg),.one (zD m)] ob fz=some (.fzd fz (sV z)):=by
 obtain ⟨k,rfl⟩:∃k,n=k+1:=⟨n-1,by omega⟩
 rw [←hz]
 exact y01 (yqr neg m k) (can2 (yl1 _) (y3n _)) ob fz
section
variable {F:Caller} {fuel:Nat} {fz:Nat→Nat}
theorem yn8 {ob:Nat→Option AObj} {nx:Nat} (ds:List Nat) (fr:Nat) (hl:ds.length≤fr+4) (hs:ds.length<2^60) (hd:∀d∈ds,d<BT):∀(m k:Nat),k=fr+m→k≤ds.length→∀(X:List (Nat×SV)) (N:Nat),m<N→∃X',
  loopN (evC F fuel Fn.y7k) N ⟨env ((0,.one (.sl false (intE ds)))::(1,.one (.int .i64 (fr:Int)))::(5,.one (.int .i64 (val BT (ds.drop k):Int)))::(6,.one (.int .i64 ((k:Int)-1)))::X),ob,fz,nx⟩=
   some (.ext 0,⟨env ((0,.one (.sl false (intE ds)))::(1,.one (.int .i64 (fr:Int)))::(5,.one (.int .i64 (val BT (ds.drop fr):Int)))::X'),ob,fz,nx⟩)
 | 0,k,hk,hkl,X,N+1,hN=>by
  have hk':k=fr:=by omega
  subst hk'
  have h1:(((k:Nat):Int)-1≥((k:Nat):Int))=False:=by simp only [ge_iff_le,eq_iff_iff,iff_false];omega
  refine ⟨[(6,.one (.int .i64 ((k:Int)-1))),(12,.one (.bool false))],y06 ?_⟩
  simp only [go_sem,Fn.y7k,h1]
 | m+1,k,hk,hkl,X,N+1,hN=>by
  obtain ⟨j,rfl⟩:∃j,k=j+1:=⟨k-1,by omega⟩
  have h0:(((j+1:Nat):Int)-1)=(j:Nat):=by omega
  have h1:(((j:Nat):Int)≥((fr:Nat):Int))=True:=by simp only [ge_iff_le,eq_iff_iff,iff_true];omega
  have hjl:j<ds.length:=by omega
  have gd:ds[j]? =some ds[j]:=by simp
  have e:ds.drop j=ds[j]::ds.drop (j+1):=List.drop_eq_getElem_cons hjl
  have hb:val BT (ds.drop j)<10000000000000000:=by
   have h2:=y63 BT2 (ds.drop j) (fun d h=>hd d (List.mem_of_mem_drop h))
   have h3:BT^(ds.drop j).length≤BT^4:=Nat.pow_le_pow_right (by decide) (by simp;omega)
   exact Nat.lt_of_lt_of_le h2 (Nat.le_trans h3 (by decide))
  have hv:val BT (ds.drop j)=ds[j]+10000*val BT (ds.drop (j+1)):=by rw [e];rfl
  rw [hv] at hb
  have wm:IntKind.i64.wrap ((val BT (ds.drop (j+1)):Int)*10000)=((val BT (ds.drop (j+1))*10000:Nat):Int):=by
   rw [show ((val BT (ds.drop (j+1)):Int)*10000)=((val BT (ds.drop (j+1))*10000:Nat):Int) from (Int.natCast_mul _ 10000).symm]
   exact wi64 (by omega)
  have wa:IntKind.i64.wrap (((val BT (ds.drop (j+1))*10000:Nat):Int)+(ds[j]:Int))=(val BT (ds.drop j):Int):=by
   rw [addi64 _ _ (by omega),hv]
   congr 1
   omega
  have wj:IntKind.i64.wrap ((j:Int)-1)=(j:Int)-1:=wrap_i64 (by omega)
  obtain ⟨X',h⟩:=yn8 ds fr hl hs hd m j (by omega) (by omega) [] N (by omega)
  refine ⟨X', ?_⟩
  rw [←h]
  refine y05 ?_
  generalize val BT (ds.drop j)=v1 at wa ⊢
  generalize val BT (ds.drop (j+1))=v0 at wm wa ⊢
  generalize v0*10000=v2 at wm wa
  simp only [go_sem,Fn.y7k,h0,h1,gd,wm,wa,wj]
end
theorem yej (a fr:Nat) (hl:dlen BT a≤fr+4) (hf:fr≤dlen BT a) (hs:dlen BT a<2^60) {n:Nat} (hn:dlen BT a+1≤n):evV E (n+1) Id.y38 [.one (zD a),.one (.int .i64 (fr:Int))]=some (.one (.int .i64 (val BT ((digs BT a).drop fr):Int))):=by
 rw [y02 yg1]
 unfold dlen at hl hf hs hn
 obtain ⟨X',h⟩:=yn8 (F:=evF E n) (fuel:=n) (ob:=ob0) (fz:=fz0) (nx:=0) (digs BT a) fr hl hs (y27 BT2 a) ((digs BT a).length-fr) (digs BT a).length (by omega) (Nat.le_refl _) [] n (by omega)
 rw [List.drop_length,val,show ((0:Nat):Int)=0 from rfl] at h
 have hw:IntKind.i64.wrap (((digs BT a).length:Int)-1)=((digs BT a).length:Int)-1:=wrap_i64 (by omega)
 unfold zD
 generalize val BT ((digs BT a).drop fr)=v at h ⊢
 simp only [go_sem,Fn.y38,hw,h]
theorem yqk (x y b:Nat) (hx:x<10000) (hy:y<10000) (hb:b≤1):∃(d b':Nat),d<10000∧b'≤1∧d+y+b=x+10000*b'∧(b'=0→((x:Int)-b-y)=(d:Int))∧(b'=1→∃z:Int,((x:Int)-b-y)=z∧(z<0)=True∧IntKind.i64.wrap (z+10000)=(d:Int)):=by
 by_cases h:y+b≤x
 ·exact ⟨x-b-y,0,by omega,by omega,by omega,fun _=>by omega,fun h=>by omega⟩
 ·exact ⟨x+10000-b-y,1,by omega,by omega,by omega,fun h=>by omega,fun _=>⟨_,rfl,by simp;omega,by rw [wrap_i64 (by omega)];omega⟩⟩
section
variable {F:Caller} {fuel:Nat} {fz:Nat→Nat}
theorem yok {ob:Nat→Option AObj} {nx:Nat} (ds es:List Nat) (i b:Nat) (hil:i<ds.length) (hs:ds.length<2^40) (hd:∀d∈ds,d<BT) (he:∀d∈es,d<BT) (hb:b≤1) (o:List Nat) (hol:o.length=i) (x:AV) (hO:OutR ob nx x o) (X:List (Nat×SV)):∃(d b':Nat) (x':AV) (ob':Nat→Option AObj),
  evC F fuel Fn.y2l ⟨env ((0,.one (.sl false (intE ds)))::(1,.one (.sl false (intE es)))::(5,.one x)::(6,.one (.int .i64 (b:Int)))::(7,.one (.int .i64 (i:Int)))::X),ob,fz,nx⟩=
   some (.nrm,⟨env [(0,.one (.sl false (intE ds))),(1,.one (.sl false (intE es))),(5,.one x'),(6,.one (.int .i64 (b':Int))),(7,.one (.int .i64 ((i+1:Nat):Int)))],ob',fz,nx+5⟩)∧OutR ob' (nx+5) x' (o++[d])∧d<BT∧b'≤1∧d+es.getD i 0+b=ds[i]+10000*b':=by
 have gd:ds[i]? =some ds[i]:=by simp
 have hx:ds[i]<10000:=hd _ (by simp)
 have hy:es.getD i 0<10000:=by
  rw [List.getD]
  cases h:es[i]? with
  | none=>simp
  | some y=>exact he y (List.mem_of_getElem? h)
 obtain ⟨d,b',h1,h2,h3,h4,h5⟩:=yqk ds[i] (es.getD i 0) b hx hy hb
 have hlt:(((i:Nat):Int)<((ds.length:Nat):Int))=True:=by simp;omega
 have wk:IntKind.i64.wrap ((i+1:Nat):Int)=((i+1:Nat):Int):=wi64 (by omega)
 have hd1:[[AV.int .i64 (d:Int)]]=intE [d]:=rfl
 have dn:(((d:Nat):Int)<0)=False:=by simp
 have hb':b'=0∨b'=1:=by omega
 have z0:((0:Nat):Int)=0:=rfl
 have z1:((1:Nat):Int)=1:=rfl
 generalize ds[i]=xd at*
 by_cases hie:i<es.length
 ·have ge:es[i]? =some es[i]:=by simp
  have hey:es.getD i 0=es[i]:=by rw [List.getD,ge];rfl
  rw [hey] at h3 h4 h5 hy ⊢
  have g2:(((i:Nat):Int)<((es.length:Nat):Int))=True:=by simp;omega
  generalize es[i]=y at*
  have w1:IntKind.i64.wrap ((xd:Int)-(b:Int))=(xd:Int)-(b:Int):=wrap_i64 (by omega)
  have w2:IntKind.i64.wrap ((xd:Int)-(b:Int)-(y:Int))=(xd:Int)-(b:Int)-(y:Int):=wrap_i64 (by omega)
  rcases hb' with rfl | rfl
  ·have w2:=w2.trans (h4 rfl)
   rcases hO with ⟨rfl,rfl⟩ | ⟨id,ver,rfl,hid,hlt'⟩
   ·refine ⟨d,0,_,_, ?_,y8b ob (nx+2) (nx+3) d _ (by omega) (.row 1 [[AV.int .i64 (d:Int)]] 0),h1,by omega,h3⟩
    simp only [go_sem,Fn.y2l,hlt,gd,w1,g2,ge,w2,dn,add1,wk,okSz,ROOM,Nat.reduceBEq,z0]
   ·have hl8:(o.length+1)*8≤140737488355328:=by omega
    have hrow:=y6b hid (show id≠nx+2 by omega) (.row 1 [[AV.int .i64 (d:Int)]] 0)
    refine ⟨d,0,_,_, ?_,y89 (ob:=ob) (id:=id) (ver:=ver) (q:=nx+2) (d:=d) (nx':=nx+5) (by omega) (.row 1 [[AV.int .i64 (d:Int)]] 0),h1,by omega,h3⟩
    simp only [go_sem,Fn.y2l,hlt,gd,w1,g2,ge,w2,dn,add1,wk,okSz,ROOM,Nat.reduceBEq,hrow,hl8,y6w,z0]
  ·obtain ⟨z,e1,e2,e3⟩:=h5 rfl
   have w2:=w2.trans e1
   rcases hO with ⟨rfl,rfl⟩ | ⟨id,ver,rfl,hid,hlt'⟩
   ·refine ⟨d,1,_,_, ?_,y8b ob (nx+2) (nx+3) d _ (by omega) (.row 1 [[AV.int .i64 (d:Int)]] 0),h1,by omega,h3⟩
    simp only [go_sem,Fn.y2l,hlt,gd,w1,g2,ge,w2,e2,e3,add1,wk,okSz,ROOM,Nat.reduceBEq,z1]
   ·have hl8:(o.length+1)*8≤140737488355328:=by omega
    have hrow:=y6b hid (show id≠nx+2 by omega) (.row 1 [[AV.int .i64 (d:Int)]] 0)
    refine ⟨d,1,_,_, ?_,y89 (ob:=ob) (id:=id) (ver:=ver) (q:=nx+2) (d:=d) (nx':=nx+5) (by omega) (.row 1 [[AV.int .i64 (d:Int)]] 0),h1,by omega,h3⟩
    simp only [go_sem,Fn.y2l,hlt,gd,w1,g2,ge,w2,e2,e3,add1,wk,okSz,ROOM,Nat.reduceBEq,hrow,hl8,y6w,z1]
 ·have hey:es.getD i 0=0:=by rw [List.getD,List.getElem?_eq_none (by omega)];rfl
  rw [hey] at h3 h4 h5 hy ⊢
  have g2:(((i:Nat):Int)<((es.length:Nat):Int))=False:=by simp;omega
  have w1:IntKind.i64.wrap ((xd:Int)-(b:Int))=(xd:Int)-(b:Int)-((0:Nat):Int):=by rw [wrap_i64 (by omega)];omega
  rcases hb' with rfl | rfl
  ·have w1:=w1.trans (h4 rfl)
   rcases hO with ⟨rfl,rfl⟩ | ⟨id,ver,rfl,hid,hlt'⟩
   ·refine ⟨d,0,_,_, ?_,y8b ob (nx+2) (nx+3) d _ (by omega) (.row 1 [[AV.int .i64 (d:Int)]] 0),h1,by omega,h3⟩
    simp only [go_sem,Fn.y2l,hlt,gd,w1,g2,dn,add1,wk,okSz,ROOM,Nat.reduceBEq,z0]
   ·have hl8:(o.length+1)*8≤140737488355328:=by omega
    have hrow:=y6b hid (show id≠nx+2 by omega) (.row 1 [[AV.int .i64 (d:Int)]] 0)
    refine ⟨d,0,_,_, ?_,y89 (ob:=ob) (id:=id) (ver:=ver) (q:=nx+2) (d:=d) (nx':=nx+5) (by omega) (.row 1 [[AV.int .i64 (d:Int)]] 0),h1,by omega,h3⟩
    simp only [go_sem,Fn.y2l,hlt,gd,w1,g2,dn,add1,wk,okSz,ROOM,Nat.reduceBEq,hrow,hl8,y6w,z0]
  ·obtain ⟨z,e1,e2,e3⟩:=h5 rfl
   have w1:=w1.trans e1
   rcases hO with ⟨rfl,rfl⟩ | ⟨id,ver,rfl,hid,hlt'⟩
   ·refine ⟨d,1,_,_, ?_,y8b ob (nx+2) (nx+3) d _ (by omega) (.row 1 [[AV.int .i64 (d:Int)]] 0),h1,by omega,h3⟩
    simp only [go_sem,Fn.y2l,hlt,gd,w1,g2,e2,e3,add1,wk,okSz,ROOM,Nat.reduceBEq,z1]
   ·have hl8:(o.length+1)*8≤140737488355328:=by omega
    have hrow:=y6b hid (show id≠nx+2 by omega) (.row 1 [[AV.int .i64 (d:Int)]] 0)
    refine ⟨d,1,_,_, ?_,y89 (ob:=ob) (id:=id) (ver:=ver) (q:=nx+2) (d:=d) (nx':=nx+5) (by omega) (.row 1 [[AV.int .i64 (d:Int)]] 0),h1,by omega,h3⟩
    simp only [go_sem,Fn.y2l,hlt,gd,w1,g2,e2,e3,add1,wk,okSz,ROOM,Nat.reduceBEq,hrow,hl8,y6w,z1]
theorem yhg (ds es:List Nat) (hs:ds.length<2^40) (hd:∀d∈ds,d<BT) (he:∀d∈es,d<BT):∀(m i:Nat),i+m=ds.length→∀(ob:Nat→Option AObj) (nx b:Nat) (o:List Nat) (x:AV) (X:List (Nat×SV)),b≤1→o.length=i→(∀d∈o,d<BT)→OutR ob nx x o→val BT o+val BT (es.take i)=val BT (ds.take i)+BT^i*b→∀N,m<N→
  ∃(o':List Nat) (x':AV) (ob':Nat→Option AObj) (nx' b':Nat) (X':List (Nat×SV)),loopN (evC F fuel Fn.y2l) N ⟨env ((0,.one (.sl false (intE ds)))::(1,.one (.sl false (intE es)))::(5,.one x)::(6,.one (.int .i64 (b:Int)))::(7,.one (.int .i64 (i:Int)))::X),ob,fz,nx⟩=
   some (.ext 0,⟨env ((0,.one (.sl false (intE ds)))::(1,.one (.sl false (intE es)))::(5,.one x')::X'),ob',fz,nx'⟩)∧OutR ob' nx' x' o'∧(∀d∈o',d<BT)∧o'.length=ds.length∧b'≤1∧val BT o'+val BT (es.take ds.length)=val BT ds+BT^ds.length*b'
 | 0,i,hi,ob,nx,b,o,x,X,hb,hol,hod,hO,hinv,N+1,hN=>by
  have hi':i=ds.length:=by omega
  subst hi'
  rw [List.take_length] at hinv
  refine ⟨o,x,ob,nx,b,[(6,.one (.int .i64 (b:Int))),(7,.one (.int .i64 (ds.length:Int))),(12,.one (.bool false))],y06 ?_,hO,hod,hol,hb,hinv⟩
  have h1:(((ds.length:Nat):Int)<((ds.length:Nat):Int))=False:=by simp
  simp only [go_sem,Fn.y2l,h1]
 | m+1,i,hi,ob,nx,b,o,x,X,hb,hol,hod,hO,hinv,N+1,hN=>by
  have hil:i<ds.length:=by omega
  obtain ⟨d,b',x',ob',hst,hO',hdl,hb',hdig⟩:=yok (F:=F) (fuel:=fuel) (fz:=fz) ds es i b hil hs hd he hb o hol x hO X
  rw [y05 hst]
  refine yhg ds es hs hd he m (i+1) (by omega) ob' (nx+5) b' (o++[d]) x' [] hb' (by simp [hol]) ?_ hO' ?_ N (by omega)
  ·intro z hz
   rcases List.mem_append.1 hz with h | h
   ·exact hod z h
   ·simp only [List.mem_cons,List.not_mem_nil,or_false] at h;rw [h];exact hdl
  ·have gd:ds[i]? =some ds[i]:=by simp
   have td:ds.take (i+1)=ds.take i++[ds[i]]:=by rw [List.take_add_one,gd];rfl
   have te:val BT (es.take (i+1))=val BT (es.take i)+BT^i*es.getD i 0:=by
    rw [List.take_add_one,List.getD]
    cases h:es[i]? with
    | none=>
     simp only [Option.toList_none,List.append_nil,Option.getD_none,Nat.mul_zero,Nat.add_zero]
    | some y=>
     have hl:i<es.length:=(List.getElem?_eq_some_iff.1 h).1
     rw [Option.toList_some,y0k,List.length_take,Nat.min_eq_left (by omega)]
     rfl
   rw [td,te,y0k,y0k,hol,List.length_take,Nat.min_eq_left (by omega),Nat.pow_succ]
   have e1:BT^i*d+BT^i*es.getD i 0+BT^i*b=BT^i*ds[i]+BT^i*BT*b':=by
    rw [Nat.mul_assoc (BT^i) BT,←Nat.mul_add,←Nat.mul_add,←Nat.mul_add,hdig]
    rfl
   omega
end
theorem y9z (a b:Nat) (hab:b≤a) (ha:dlen BT a<2^40) {n:Nat} (hn:dlen BT a+4≤n):evV E (n+1) Id.y2a [.one (zD a),.one (zD b)]=some (.one (zD (a-b))):=by
 rw [y02 ydw]
 have hlen:dlen BT b≤dlen BT a:=y5r BT2 hab
 unfold dlen at ha hn hlen
 obtain ⟨o',x',ob',nx',b',X',hloop,h1,h2,h3,h4,h5⟩:=yhg (F:=evF E n) (fuel:=n) (fz:=fz0) (digs BT a) (digs BT b) ha (y27 BT2 a) (y27 BT2 b) (digs BT a).length 0 (by omega) ob0 0 0 [] .nils [] (by omega) rfl (fun _ h=>by simp at h) (.inl ⟨rfl,rfl⟩) (by simp [val]) n (by omega)
 rw [List.take_of_length_le hlen,y1k BT2,y1k BT2] at h5
 have hlt:=y63 BT2 o' h2
 rw [h3] at hlt
 have hb0:b'=0:=by
  rcases Nat.lt_or_ge b' 1 with h | h
  ·omega
  ·have:BT^(digs BT a).length*1≤BT^(digs BT a).length*b':=Nat.mul_le_mul_left _ h
   omega
 subst hb0
 have hv:val BT o'=a-b:=by rw [Nat.mul_zero] at h5;omega
 obtain ⟨fz',htrim⟩:=ytn (n:=n) h1 (by omega) h2 (by omega) fz0
 rw [hv] at htrim
 rw [show ((0:Nat):Int)=0 from rfl] at hloop
 unfold zD at htrim ⊢
 simp only [go_sem,Fn.y2a,hloop,htrim]
end Go.Ev
namespace Go.Ev
open Go.Dig
theorem yt3 {ob:Nat→Option AObj} {nx:Nat} {x:AV} {o:List Nat} (h:OutR ob nx x o) (neg:Bool) (fz:Nat→Nat):∃fz',frzS ob fz (.agg [.bool neg,x])=some (fz',.agg [.bool neg,.sl false (intE o)]):=by
 obtain ⟨fz',h⟩:=ypx h fz
 refine ⟨fz', ?_⟩
 simp only [frzS,mapFz,h,show frz ob DEPTH fz (.bool neg)=some (fz,.bool neg) from rfl]
theorem yuk (z:Int) (h1:-9223372036854775808≤z) (h2:z<9223372036854775808):∃(k z':Int) (d:Nat),z.tmod 10000=k∧((k<0)=(k<0))∧(if k<0 then IntKind.i64.wrap (0-k) else k)=(d:Int)∧IntKind.i64.wrap (z.tdiv 10000)=z'∧d=z.natAbs%10000∧z'.natAbs=z.natAbs / 10000∧-9223372036854775808≤z'∧z'<9223372036854775808:=by
 obtain ⟨m,hm⟩:∃m:Nat,m=z.natAbs:=⟨_,rfl⟩
 by_cases hz:z<0
 ·have e:z=-((m:Nat):Int):=by omega
  have t1:z.tmod 10000=-((m%10000:Nat):Int):=by rw [e,Int.neg_tmod,show ((10000:Int))=((10000:Nat):Int) from rfl,←Int.ofNat_tmod]
  have t2:z.tdiv 10000=-((m / 10000:Nat):Int):=by rw [e,Int.neg_tdiv,show ((10000:Int))=((10000:Nat):Int) from rfl,←Int.ofNat_tdiv]
  have w2:IntKind.i64.wrap (z.tdiv 10000)=-((m / 10000:Nat):Int):=by rw [t2];exact wrap_i64 (by omega)
  refine ⟨_,_,m%10000,t1,rfl, ?_,w2,by rw [hm],by rw [hm];omega,by omega,by omega⟩
  split
  ·rw [wrap_i64 (by omega)];omega
  ·omega
 ·have e:z=((m:Nat):Int):=by omega
  have t1:z.tmod 10000=((m%10000:Nat):Int):=by rw [e,show ((10000:Int))=((10000:Nat):Int) from rfl,←Int.ofNat_tmod]
  have t2:z.tdiv 10000=((m / 10000:Nat):Int):=by rw [e,show ((10000:Int))=((10000:Nat):Int) from rfl,←Int.ofNat_tdiv]
  have w2:IntKind.i64.wrap (z.tdiv 10000)=((m / 10000:Nat):Int):=by rw [t2];exact wrap_i64 (by omega)
  refine ⟨_,_,m%10000,t1,rfl, ?_,w2,by rw [hm],by rw [hm];omega,by omega,by omega⟩
  rw [if_neg (by omega)]
section
variable {F:Caller} {fuel:Nat} {fz:Nat→Nat}
theorem yr9 {ob:Nat→Option AObj} {nx:Nat} (hnx:2≤nx) (z:Int) (hz:z≠0) (h1:-9223372036854775808≤z) (h2:z<9223372036854775808) (neg:Bool) (o:List Nat) (hol:o.length<2^40) (x:AV) (hO:OutR ob nx x o) (hb:ob 1=some (.box [.bool neg,x])) (hb0:ob 0=some (.box [.bool false,.nils])) (X:List (Nat×SV)):∃(z':Int) (x':AV) (ob':Nat→Option AObj),
  evC F fuel Fn.y4n ⟨env ((0,.one (.int .i64 z))::(2,.one (.box 0 0))::(3,.one (.box 1 0))::X),ob,fz,nx⟩=
   some (.nrm,⟨env [(0,.one (.int .i64 z')),(2,.one (.box 0 0)),(3,.one (.box 1 0))],ob',fz,nx+7⟩)∧OutR ob' (nx+7) x' (o++[z.natAbs%10000])∧ob' 1=some (.box [.bool neg,x'])∧ob' 0=some (.box [.bool false,.nils])∧z'.natAbs=z.natAbs / 10000∧-9223372036854775808≤z'∧z'<9223372036854775808:=by
 obtain ⟨k,z',d,e1,_,e3,e4,e5,e6,e7,e8⟩:=yuk z h1 h2
 rw [←e5]
 have hne:(z !=0)=true:=by simp only [bne_iff_ne,ne_eq];exact hz
 have t0:((10000:Int)=0)=False:=by simp
 have p14:(1=nx+4)=False:=by simp only [eq_iff_iff,iff_false];omega
 have p13:(1=nx+3)=False:=by simp only [eq_iff_iff,iff_false];omega
 rcases hO with ⟨rfl,rfl⟩ | ⟨id,ver,rfl,hid,hlt'⟩
 ·have fin:OutR (upd (upd (upd ob (nx+3) (.row 1 [[AV.int .i64 (d:Int)]] 0)) (nx+4) (.row 1 [[AV.int .i64 (d:Int)]] 0)) 1 (.box [.bool neg,.rsl (nx+4) 0 1 0 1 false])) (nx+7) (.rsl (nx+4) 0 1 0 1 false) ([]++[d]):=by
   refine .inr ⟨nx+4,0,rfl, ?_,by omega⟩
   rw [y00 (by omega),upd_same]
   rfl
  refine ⟨z',_,_, ?_,fin,upd_same _ _ _,by rw [y00 (by omega),y00 (by omega),y00 (by omega)];exact hb0,e6,e7,e8⟩
  by_cases hk:k<0
  ·have g:(k<0)=True:=by simp [hk]
   rw [if_pos hk] at e3
   simp only [go_sem,Fn.y4n,hne,t0,e1,g,e3,e4,hb,p14,p13,okSz,ROOM,Nat.reduceBEq]
  ·have g:(k<0)=False:=by simp [hk]
   rw [if_neg hk] at e3
   subst e3
   simp only [go_sem,Fn.y4n,hne,t0,e1,g,e4,hb,p14,p13,okSz,ROOM,Nat.reduceBEq]
 ·have hid1:id≠1:=fun e=>by rw [e,hb] at hid;cases hid
  have hid0:id≠0:=fun e=>by rw [e,hb0] at hid;cases hid
  have p1d:(1=id)=False:=by simp only [eq_iff_iff,iff_false];omega
  have hl8:(o.length+1)*8≤140737488355328:=by omega
  have hrow:=y6b hid (show id≠nx+3 by omega) (.row 1 [[AV.int .i64 (d:Int)]] 0)
  have fin:OutR (upd (upd (upd ob (nx+3) (.row 1 [[AV.int .i64 (d:Int)]] 0)) id (.row 1 (intE (o++[d])) (ver+1))) 1 (.box [.bool neg,.rsl id (ver+1) 1 0 (o.length+1) false])) (nx+7) (.rsl id (ver+1) 1 0 (o.length+1) false) (o++[d]):=by
   refine .inr ⟨id,ver+1,by simp, ?_,by omega⟩
   rw [y00 hid1,upd_same]
  refine ⟨z',_,_, ?_,fin,upd_same _ _ _,by rw [y00 (by omega),y00 (Ne.symm hid0),y00 (by omega)];exact hb0,e6,e7,e8⟩
  by_cases hk:k<0
  ·have g:(k<0)=True:=by simp [hk]
   rw [if_pos hk] at e3
   simp only [go_sem,Fn.y4n,hne,t0,e1,g,e3,e4,hb,p1d,p13,okSz,ROOM,Nat.reduceBEq,hrow,hl8,y6w]
  ·have g:(k<0)=False:=by simp [hk]
   rw [if_neg hk] at e3
   subst e3
   simp only [go_sem,Fn.y4n,hne,t0,e1,g,e4,hb,p1d,p13,okSz,ROOM,Nat.reduceBEq,hrow,hl8,y6w]
theorem yu3 (neg:Bool):∀(m:Nat) (z:Int) (ob:Nat→Option AObj) (nx:Nat) (o:List Nat) (x:AV) (X:List (Nat×SV)),z.natAbs<BT^m→2≤nx→-9223372036854775808≤z→z<9223372036854775808→o.length+m<2^40→OutR ob nx x o→ob 1=some (.box [.bool neg,x])→ob 0=some (.box [.bool false,.nils])→∀N,m<N→
  ∃(x':AV) (ob':Nat→Option AObj) (nx':Nat) (X':List (Nat×SV)),loopN (evC F fuel Fn.y4n) N ⟨env ((0,.one (.int .i64 z))::(2,.one (.box 0 0))::(3,.one (.box 1 0))::X),ob,fz,nx⟩=
   some (.ext 0,⟨env ((2,.one (.box 0 0))::(3,.one (.box 1 0))::X'),ob',fz,nx'⟩)∧OutR ob' nx' x' (o++digs BT z.natAbs)∧ob' 1=some (.box [.bool neg,x'])∧ob' 0=some (.box [.bool false,.nils]):=by
 intro m
 induction m with
 | zero=>
  intro z ob nx o x X hm hnx h1 h2 hol hO hb hb0 N hN
  have hz:z=0:=by rw [Nat.pow_zero] at hm;omega
  subst hz
  obtain ⟨M,rfl⟩:∃M,N=M+1:=⟨N-1,by omega⟩
  refine ⟨x,ob,nx,[(0,.one (.int .i64 0)),(9,.one (.bool false))], ?_,by rw [show (0:Int).natAbs=0 from rfl,y0s,List.append_nil];exact hO,hb,hb0⟩
  have e:env ((2,SV.one (.box 0 0))::(3,.one (.box 1 0))::[(0,.one (.int .i64 0)),(9,.one (.bool false))])=env [(0,.one (.int .i64 0)),(2,.one (.box 0 0)),(3,.one (.box 1 0)),(9,.one (.bool false))]:=by
   funext j
   simp only [yms]
   by_cases h0:0=j
   ·subst h0;rfl
   ·by_cases h2:2=j
    ·subst h2;rfl
    ·by_cases h3:3=j
     ·subst h3;rfl
     ·simp only [h0,h2,h3,if_false]
  rw [e]
  refine y06 ?_
  have hne:((0:Int) !=0)=false:=rfl
  simp only [go_sem,Fn.y4n,hne]
 | succ m ih=>
  intro z ob nx o x X hm hnx h1 h2 hol hO hb hb0 N hN
  obtain ⟨M,rfl⟩:∃M,N=M+1:=⟨N-1,by omega⟩
  by_cases hz:z=0
  ·exact ih z ob nx o x X (by rw [hz];exact Nat.pow_pos (by decide)) hnx h1 h2 (by omega) hO hb hb0 (M+1) (by omega)
  ·obtain ⟨z',x',ob',hst,a1,a2,a3,a4,a5,a6⟩:=yr9 (F:=F) (fuel:=fuel) (fz:=fz) hnx z hz h1 h2 neg o (by omega) x hO hb hb0 X
   have hz':z'.natAbs<BT^m:=by
    rw [a4]
    rw [Nat.pow_succ] at hm
    exact Nat.div_lt_of_lt_mul (by rw [Nat.mul_comm];exact hm)
   obtain ⟨x2,ob2,nx2,X2,hl,b1,b2,b3⟩:=ih z' ob' (nx+7) (o++[z.natAbs%10000]) x' [] hz' (by omega) a5 a6 (by simp;omega) a1 a2 a3 M (by omega)
   refine ⟨x2,ob2,nx2,X2,by rw [y05 hst];exact hl, ?_,b2,b3⟩
   rw [y71 BT2 (show z.natAbs≠0 by omega)]
   rw [a4,List.append_assoc] at b1
   exact b1
end
theorem y8m (z:Int) (h1:-9223372036854775808≤z) (h2:z<9223372036854775808) {n:Nat} (hn:8≤n):evV E (n+1) Id.y1o [.one (.int .i64 z)]=some (sV z):=by
 rw [y02 yf0]
 have hm:z.natAbs<BT^5:=by
  have:(10000000000000000000:Nat)≤BT^5:=by decide
  omega
 obtain ⟨x',ob',nx',X',hloop,b1,b2,b3⟩:=yu3 (F:=evF E n) (fuel:=n) (fz:=fz0) (decide (z<0)) 5 z (upd (upd ob0 0 (.box [.bool false,.nils])) 1 (.box [.bool (decide (z<0)),.nils])) 2 [] .nils [] hm (by omega) h1 h2 (by decide) (.inl ⟨rfl,rfl⟩) rfl rfl n (by omega)
 rw [List.nil_append] at b1
 have b1':OutR (upd ob' 0 (.box [.bool (decide (z<0)),x'])) nx' x' (digs BT z.natAbs):=by
  rcases b1 with ⟨e1,e2⟩ | ⟨id,ver,e1,e2,e3⟩
  ·exact .inl ⟨e1,e2⟩
  ·refine .inr ⟨id,ver,e1, ?_,e3⟩
   rw [y00 (fun e=>by rw [e,b3] at e2;cases e2)]
   exact e2
 obtain ⟨fz',hfr⟩:=yt3 b1' (decide (z<0)) fz0
 unfold sV zC zD
 simp only [go_sem,Fn.y1o,hloop,b2,b3,hfr]
end Go.Ev
namespace Go.Ev
open Go.Dig
theorem tmodT (x:Nat):((x:Int)).tmod 10000=((x%10000:Nat):Int):=by
 rw [show ((10000:Int))=((10000:Nat):Int) from rfl,←Int.ofNat_tmod]
theorem tdivT (x:Nat) (h:x<9223372036854775808):IntKind.i64.wrap ((x:Int).tdiv 10000)=((x / 10000:Nat):Int):=by
 rw [show ((10000:Int))=((10000:Nat):Int) from rfl,←Int.ofNat_tdiv]
 exact wi64 (by omega)
theorem yri (u c x y:Nat) (hu:u<10000) (hc:c<10000) (hx:x<10000) (hy:y<10000):∃s p t r q:Nat,IntKind.i64.wrap ((u:Int)+(c:Int))=(s:Int)∧IntKind.i64.wrap ((x:Int)*(y:Int))=(p:Int)∧IntKind.i64.wrap ((s:Int)+(p:Int))=(t:Int)∧((t:Int)).tmod 10000=(r:Int)∧IntKind.i64.wrap ((t:Int).tdiv 10000)=(q:Int)∧
  r<10000∧q<10000∧r+10000*q=u+c+x*y:=by
 have hp:x*y≤9999*9999:=Nat.mul_le_mul (by omega) (by omega)
 refine ⟨u+c,x*y,u+c+x*y,(u+c+x*y)%10000,(u+c+x*y) / 10000,addi64 _ _ (by omega), ?_,addi64 _ _ (by omega),tmodT _,tdivT _ (by omega),Nat.mod_lt _ (by decide),by omega,by omega⟩
 rw [←Int.natCast_mul]
 exact wi64 (by omega)
section
variable {F:Caller} {fuel:Nat} {ob:Nat→Option AObj} {fz:Nat→Nat} {nx:Nat}
theorem yd1 {id T i x:Nat} (hfz:fz id=0) (ds es:List Nat) (hxi:ds[i]? =some x) (hT:T<2^60) (hx:x<BT) (he:∀d∈es,d<BT) (hi:i+es.length<T) (V:Nat):∀(m k:Nat),k+m=es.length→∀(o:List Nat) (c:Nat) (X:List (Nat×SV)),o.length=T→(∀d∈o,d<BT)→c<BT→o[i+es.length]? =some 0→
  val BT o+BT^(i+k)*c=V+BT^i*(x*val BT (es.take k))→∀N,m+1<N→∃(o':List Nat) (X':List (Nat×SV)),
  loopN (evC F fuel Fn.y4h) N ⟨env ((0,.one (.sl false (intE ds)))::(1,.one (.sl false (intE es)))::(5,.one (.rsl id 0 1 0 T false))::(6,.one (.int .i64 (i:Int)))::(7,.one (.int .i64 (c:Int)))::(8,.one (.int .i64 (k:Int)))::X),upd ob id (.row 1 (intE o) 0),fz,nx⟩=
   some (.ext 2,⟨env ((0,.one (.sl false (intE ds)))::(1,.one (.sl false (intE es)))::(5,.one (.rsl id 0 1 0 T false))::(6,.one (.int .i64 (i:Int)))::X'),upd ob id (.row 1 (intE o') 0),fz,nx⟩)∧
   o'.length=T∧(∀d∈o',d<BT)∧val BT o'=V+BT^i*(x*val BT es)∧∀j,i+es.length<j→o'[j]? =o[j]?
 | 0,k,hk,o,c,X,ho,hod,hc,hz,hinv,N,hN=>by
  have hk':k=es.length:=by omega
  subst hk'
  rw [List.take_length] at hinv
  obtain ⟨M,rfl⟩:∃M,N=M+2:=⟨N-2,by omega⟩
  have h1:(((es.length:Nat):Int)<((es.length:Nat):Int))=False:=by simp
  have h1':(((es.length+1:Nat):Int)<((es.length:Nat):Int))=False:=by simp only [eq_iff_iff,iff_false];omega
  by_cases hc0:c=0
  ·subst hc0
   have g:(((0:Nat):Int)>0)=False:=by simp
   refine ⟨o,[(7,.one (.int .i64 ((0:Nat):Int))),(8,.one (.int .i64 (es.length:Int))),(29,.one (.bool false))],y06 ?_,ho,hod,by rw [Nat.mul_zero,Nat.add_zero] at hinv;exact hinv,fun _ _=>rfl⟩
   simp only [go_sem,Fn.y4h,h1,g]
  ·have g:(((c:Nat):Int)>0)=True:=by simp;omega
   have g0:(((0:Nat):Int)>0)=False:=by simp
   have t0:((10000:Int)=0)=False:=by simp
   have wi:IntKind.i64.wrap ((i:Int)+(es.length:Int))=((i+es.length:Nat):Int):=addi64 _ _ (by omega)
   have ws:IntKind.i64.wrap (((0:Nat):Int)+(c:Int))=(c:Int):=by rw [addi64 _ _ (by unfold BT at hc;omega),Nat.zero_add]
   have wr:((c:Int)).tmod 10000=(c:Int):=by rw [tmodT,Nat.mod_eq_of_lt (show c<10000 from hc)]
   have wq:IntKind.i64.wrap ((c:Int).tdiv 10000)=((0:Nat):Int):=by rw [tdivT _ (by unfold BT at hc;omega),Nat.div_eq_of_lt (show c<10000 from hc)]
   have wk:IntKind.i64.wrap ((es.length+1:Nat):Int)=((es.length+1:Nat):Int):=wi64 (by omega)
   have hst:evC F fuel Fn.y4h ⟨env ((0,.one (.sl false (intE ds)))::(1,.one (.sl false (intE es)))::(5,.one (.rsl id 0 1 0 T false))::(6,.one (.int .i64 (i:Int)))::(7,.one (.int .i64 (c:Int)))::(8,.one (.int .i64 (es.length:Int)))::X),upd ob id (.row 1 (intE o) 0),fz,nx⟩=
     some (.nrm,⟨env [(0,.one (.sl false (intE ds))),(1,.one (.sl false (intE es))),(5,.one (.rsl id 0 1 0 T false)),(6,.one (.int .i64 (i:Int))),(7,.one (.int .i64 ((0:Nat):Int))),(8,.one (.int .i64 ((es.length+1:Nat):Int)))],upd ob id (.row 1 (intE (o.set (i+es.length) c)) 0),fz,nx⟩):=by
    simp only [go_sem,Fn.y4h,h1,g,wi,hi,hz,ws,wr,wq,t0,hfz,add1,wk]
   refine ⟨o.set (i+es.length) c,[(7,.one (.int .i64 ((0:Nat):Int))),(8,.one (.int .i64 ((es.length+1:Nat):Int))),(29,.one (.bool false))], ?_,by simp [ho], ?_, ?_, ?_⟩
   ·rw [y05 hst]
    refine y06 ?_
    simp only [go_sem,Fn.y4h,h1',g0]
   ·intro d hd
    rcases List.mem_or_eq_of_mem_set hd with h | h
    ·exact hod d h
    ·rw [h];exact hc
   ·have hset:=ya9 BT o (i+es.length) c 0 hz
    rw [Nat.mul_zero,Nat.add_zero] at hset
    rw [hset,hinv]
   ·intro j hj
    rw [List.getElem?_set_ne (by omega)]
 | m+1,k,hk,o,c,X,ho,hod,hc,hz,hinv,N,hN=>by
  obtain ⟨M,rfl⟩:∃M,N=M+1:=⟨N-1,by omega⟩
  have hke:k<es.length:=by omega
  have hio:i+k<o.length:=by omega
  have hikT:i+k<T:=by omega
  have ge:es[k]? =some es[k]:=by simp
  have go':o[i+k]? =some o[i+k]:=by simp
  obtain ⟨s,p,t,r,q,s1,s2,s3,s4,s5,s6,s7,s8⟩:=yri o[i+k] c x es[k] (hod _ (by simp)) hc hx (he _ (by simp))
  have h1:(((k:Nat):Int)<((es.length:Nat):Int))=True:=by simp;omega
  have t0:((10000:Int)=0)=False:=by simp
  have wi:IntKind.i64.wrap ((i:Int)+(k:Int))=((i+k:Nat):Int):=addi64 _ _ (by omega)
  have wk:IntKind.i64.wrap ((k+1:Nat):Int)=((k+1:Nat):Int):=wi64 (by omega)
  have hst:evC F fuel Fn.y4h ⟨env ((0,.one (.sl false (intE ds)))::(1,.one (.sl false (intE es)))::(5,.one (.rsl id 0 1 0 T false))::(6,.one (.int .i64 (i:Int)))::(7,.one (.int .i64 (c:Int)))::(8,.one (.int .i64 (k:Int)))::X),upd ob id (.row 1 (intE o) 0),fz,nx⟩=
    some (.nrm,⟨env [(0,.one (.sl false (intE ds))),(1,.one (.sl false (intE es))),(5,.one (.rsl id 0 1 0 T false)),(6,.one (.int .i64 (i:Int))),(7,.one (.int .i64 (q:Int))),(8,.one (.int .i64 ((k+1:Nat):Int)))],upd ob id (.row 1 (intE (o.set (i+k) r)) 0),fz,nx⟩):=by
   simp only [go_sem,Fn.y4h,h1,wi,hikT,go',s1,hxi,ge,s2,s3,s4,s5,t0,hfz,add1,wk]
  have hset:=ya9 BT o (i+k) r o[i+k] go'
  obtain ⟨o',X',hl,a1,a2,a3,a4⟩:=yd1 hfz ds es hxi hT hx he hi V m (k+1) (by omega) (o.set (i+k) r) q [] (by simp [ho]) (by
   intro d hd
   rcases List.mem_or_eq_of_mem_set hd with h | h
   ·exact hod d h
   ·rw [h];exact s6) s7 (by rw [List.getElem?_set_ne (by omega)];exact hz) (by
   have te:es.take (k+1)=es.take k++[es[k]]:=by rw [List.take_add_one,ge];rfl
   rw [te,y0k,List.length_take,Nat.min_eq_left (by omega),←Nat.add_assoc,Nat.pow_succ,Nat.mul_add,Nat.mul_add]
   have e1:BT^(i+k)*r+BT^(i+k)*BT*q=BT^(i+k)*o[i+k]+BT^(i+k)*c+BT^(i+k)*(x*es[k]):=by
    rw [Nat.mul_assoc (BT^(i+k)) BT,←Nat.mul_add,←Nat.mul_add,←Nat.mul_add,show BT*q=10000*q from rfl,s8]
   have e2:BT^i*(x*(BT^k*es[k]))=BT^(i+k)*(x*es[k]):=by
    rw [Nat.pow_add,Nat.mul_left_comm x,←Nat.mul_assoc]
   rw [e2]
   omega) M (by omega)
  refine ⟨o',X',by rw [y05 hst];exact hl,a1,a2,a3,fun j hj=> ?_⟩
  rw [a4 j hj,List.getElem?_set_ne (by omega)]
theorem ydn {id T:Nat} (hfz:fz id=0) (ds es:List Nat) (hTe:T=ds.length+es.length) (hT:T<2^60) (hd:∀d∈ds,d<BT) (he:∀d∈es,d<BT) (hfuel:es.length+1<fuel):∀(m i:Nat),i+m=ds.length→∀(o:List Nat) (X:List (Nat×SV)),o.length=T→(∀d∈o,d<BT)→
  val BT o=val BT (ds.take i)*val BT es→(∀j,i+es.length≤j→j<T→o[j]? =some 0)→∀N,m<N→∃(o':List Nat) (X':List (Nat×SV)),
  loopN (evC F fuel Fn.y67) N ⟨env ((0,.one (.sl false (intE ds)))::(1,.one (.sl false (intE es)))::(5,.one (.rsl id 0 1 0 T false))::(6,.one (.int .i64 (i:Int)))::X),upd ob id (.row 1 (intE o) 0),fz,nx⟩=
   some (.ext 0,⟨env ((0,.one (.sl false (intE ds)))::(1,.one (.sl false (intE es)))::(5,.one (.rsl id 0 1 0 T false))::X'),upd ob id (.row 1 (intE o') 0),fz,nx⟩)∧o'.length=T∧(∀d∈o',d<BT)∧val BT o'=val BT ds*val BT es
 | 0,i,hi,o,X,ho,hod,hinv,hz,N+1,hN=>by
  have hi':i=ds.length:=by omega
  subst hi'
  rw [List.take_length] at hinv
  refine ⟨o,[(6,.one (.int .i64 (ds.length:Int))),(19,.one (.bool false))],y06 ?_,ho,hod,hinv⟩
  have h1:(((ds.length:Nat):Int)<((ds.length:Nat):Int))=False:=by simp
  simp only [go_sem,Fn.y67,h1]
 | m+1,i,hi,o,X,ho,hod,hinv,hz,N+1,hN=>by
  have hil:i<ds.length:=by omega
  have gd:ds[i]? =some ds[i]:=by simp
  obtain ⟨o1,X1,a1,a2,a3,a4,a5⟩:=yd1 (F:=F) (fuel:=fuel) (ob:=ob) (nx:=nx) (id:=id) (T:=T) (i:=i) (x:=ds[i]) hfz ds es gd hT (hd _ (by simp)) he (by omega) (val BT o) es.length 0 (by omega) o 0 [] ho hod (by decide) (hz _ (Nat.le_refl _) (by omega)) (by simp [val]) fuel hfuel
  rw [show ((0:Nat):Int)=0 from rfl] at a1
  have h1:(((i:Nat):Int)<((ds.length:Nat):Int))=True:=by simp;omega
  have wk:IntKind.i64.wrap ((i+1:Nat):Int)=((i+1:Nat):Int):=wi64 (by omega)
  have hst:evC F fuel Fn.y67 ⟨env ((0,.one (.sl false (intE ds)))::(1,.one (.sl false (intE es)))::(5,.one (.rsl id 0 1 0 T false))::(6,.one (.int .i64 (i:Int)))::X),upd ob id (.row 1 (intE o) 0),fz,nx⟩=
    some (.nrm,⟨env [(0,.one (.sl false (intE ds))),(1,.one (.sl false (intE es))),(5,.one (.rsl id 0 1 0 T false)),(6,.one (.int .i64 ((i+1:Nat):Int)))],upd ob id (.row 1 (intE o1) 0),fz,nx⟩):=by
   simp only [go_sem,Fn.y67,h1,a1,add1,wk]
  rw [y05 hst]
  refine ydn hfz ds es hTe hT hd he hfuel m (i+1) (by omega) o1 [] a2 a3 ?_ ?_ N (by omega)
  ·have td:ds.take (i+1)=ds.take i++[ds[i]]:=by rw [List.take_add_one,gd];rfl
   rw [td,y0k,List.length_take,Nat.min_eq_left (by omega),Nat.add_mul,←hinv,Nat.mul_assoc,a4]
  ·intro j hj hjT
   rw [a5 j (by omega)]
   exact hz j (by omega) hjT
end
theorem yig (a b:Nat) (ha:dlen BT a<2^40) (hb:dlen BT b<2^40) {n:Nat} (hn:dlen BT a+dlen BT b+6≤n):evV E (n+1) Id.y37 [.one (zD a),.one (zD b)]=some (.one (zD (a*b))):=by
 rw [y02 ydg]
 unfold dlen at ha hb hn
 have zrep:∀k,val BT (List.replicate k 0)=0:=by
  intro k
  induction k with
  | zero=>rfl
  | succ k ih=>rw [List.replicate_succ,val,ih,Nat.mul_zero]
 obtain ⟨o',X',hloop,h2,h3,h4⟩:=ydn (F:=evF E n) (fuel:=n) (ob:=ob0) (fz:=fz0) (nx:=7) (id:=5) (T:=(digs BT a).length+(digs BT b).length) rfl (digs BT a) (digs BT b) rfl (by omega) (y27 BT2 a) (y27 BT2 b) (by omega)
  (digs BT a).length 0 (by omega) (List.replicate ((digs BT a).length+(digs BT b).length) 0) [] (by simp) (fun d hd=>by rw [(List.mem_replicate.1 hd).2];decide) (by rw [zrep,List.take_zero,val,Nat.zero_mul]) (fun j _ hj=>by simp [hj]) n (by omega)
 rw [y1k BT2,y1k BT2] at h4
 rw [show ((0:Nat):Int)=0 from rfl] at hloop
 have hnr:=yec (n:=n) (id:=5) (ver:=0) (full:=false) (ob:=upd ob0 5 (.row 1 (intE o') 0)) (fz:=fz0) o' (by rw [h2];omega) h3 (by rw [h2];omega) y3d
 rw [h4,h2] at hnr
 unfold zD at hnr
 have wl:IntKind.i64.wrap (((digs BT a).length+(digs BT b).length:Nat):Int)=(((digs BT a).length+(digs BT b).length:Nat):Int):=wi64 (by omega)
 have l2:(digs BT a).length+(digs BT b).length≤9223372036854775807:=by omega
 have l3:8*((digs BT a).length+(digs BT b).length)≤281474976710656:=by omega
 unfold zD
 simp only [go_sem,Fn.y37,←Int.natCast_add,wl,l2,l3,yc0,hloop,hnr]
end Go.Ev
namespace Go.Ev
open Go.Dig
theorem ywo {B:Nat} (hB:2≤B) (x fr:Nat) (hf:fr≤dlen B x):val B ((digs B x).drop fr)=x / B^fr:=by
 have h:=yaz B (digs B x) fr hf
 rw [y1k hB] at h
 have hl:=y63 hB ((digs B x).take fr) (fun d hd=>y27 hB x d (List.mem_of_mem_take hd))
 rw [List.length_take,Nat.min_eq_left (show fr≤(digs B x).length from hf)] at hl
 have hp:0<B^fr:=Nat.pow_pos (by omega)
 conv=>rhs;rw [h]
 rw [Nat.add_mul_div_left _ _ hp,Nat.div_eq_of_lt hl,Nat.zero_add]
theorem guess_le (R b w:Nat) (hb:0<b) (hw:0<w):R / w / (b / w+1)≤R / b:=by
 rw [Nat.le_div_iff_mul_le hb]
 have h1:b<(b / w+1)*w:=by
  have:=Nat.div_add_mod b w
  have h2:=Nat.mod_lt b hw
  rw [Nat.add_mul,Nat.one_mul,Nat.mul_comm]
  omega
 calc R / w / (b / w+1)*b≤R / w / (b / w+1)*((b / w+1)*w):=Nat.mul_le_mul_left _ (Nat.le_of_lt h1)
  _=R / w / (b / w+1)*(b / w+1)*w:=(Nat.mul_assoc _ _ _).symm
  _≤R / w*w:=Nat.mul_le_mul_right _ (Nat.div_mul_le_self _ _)
  _≤R:=Nat.div_mul_le_self _ _
section
variable {ob:Nat→Option AObj} {fz:Nat→Nat} {nx:Nat}
theorem yr1 {n:Nat} (b:Nat) (hb:0<b) (x0 x7 x8:SV):∀(r k:Nat) (X:List (Nat×SV)),dlen BT r<2^40→dlen BT r+6≤n→k+r / b<100000→∀N,r / b<N→∃X',
  loopN (evC (evF E (n+1)) (n+1) Fn.y5q) N ⟨env ((0,x0)::(1,.one (zD b))::(6,.one (zD r))::(7,x7)::(8,x8)::(9,.one (.int .i64 (k:Int)))::X),ob,fz,nx⟩=
   some (.ext 2,⟨env ((0,x0)::(1,.one (zD b))::(6,.one (zD (r%b)))::(7,x7)::(8,x8)::(9,.one (.int .i64 ((k+r / b:Nat):Int)))::X'),ob,fz,nx⟩):=by
 intro r
 induction r using Nat.strongRecOn with
 | _ r ih=>
  intro k X hd hn hk N hN
  obtain ⟨M,rfl⟩:∃M,N=M+1:=⟨N-1,(Nat.sub_add_cancel (Nat.lt_of_le_of_lt (Nat.zero_le _) hN)).symm⟩
  have habs:=y01 (ycl r b (by omega) (n:=n) (by omega)) (can2 (y3n _) (y3n _)) ob fz
  by_cases hlt:r<b
  ·have hc:(cmpI r b≥0)=False:=by
    simp only [cmpI,if_pos hlt,eq_iff_iff,iff_false];decide
   refine ⟨[(63,.one (.bool false))],y06 ?_⟩
   rw [Nat.mod_eq_of_lt hlt,Nat.div_eq_of_lt hlt,Nat.add_zero]
   simp only [go_sem,Fn.y5q,habs,hc]
  ·have hle:b≤r:=by omega
   have hc:(cmpI r b≥0)=True:=by
    simp only [cmpI,if_neg hlt,eq_iff_iff,iff_true]
    split<;>decide
   have hmin:=y01 (y9z r b hle hd (n:=n) (by omega)) (can2 (y3n _) (y3n _)) ob fz
   have e1:r / b=(r-b) / b+1:=Nat.div_eq_sub_div hb hle
   have e2:r%b=(r-b)%b:=Nat.mod_eq_sub_mod hle
   obtain ⟨q,hq⟩:∃q,q=(r-b) / b:=⟨_,rfl⟩
   rw [e1,←hq] at hk hN
   have wk:IntKind.i64.wrap ((k+1:Nat):Int)=((k+1:Nat):Int):=wi64 (by omega)
   have hst:evC (evF E (n+1)) (n+1) Fn.y5q ⟨env ((0,x0)::(1,.one (zD b))::(6,.one (zD r))::(7,x7)::(8,x8)::(9,.one (.int .i64 (k:Int)))::X),ob,fz,nx⟩=
     some (.nrm,⟨env [(0,x0),(1,.one (zD b)),(6,.one (zD (r-b))),(7,x7),(8,x8),(9,.one (.int .i64 ((k+1:Nat):Int)))],ob,fz,nx⟩):=by
    simp only [go_sem,Fn.y5q,habs,hc,hmin,add1,wk]
   have hdl:dlen BT (r-b)≤dlen BT r:=y5r BT2 (Nat.sub_le _ _)
   obtain ⟨X',h⟩:=ih (r-b) (by omega) (k+1) [] (by omega) (by omega) (by rw [←hq];omega) M (by rw [←hq];omega)
   refine ⟨X', ?_⟩
   rw [y05 hst,h,e1,e2,←hq,show k+1+q=k+(q+1) by omega]
end
def oA:ACode:=match Fn.y0r with | .seq a _=>a | _=>.skip
def oB:ACode:=match Fn.y0r with | .seq _ (.seq (.block _ (.seq b _)) _)=>b | _=>.skip
def oC:ACode:=match Fn.y0r with | .seq _ (.seq (.block _ (.seq _ (.seq c _))) _)=>c | _=>.skip
def oG:ACode:=match Fn.y0r with | .seq _ (.seq (.block _ (.seq _ (.seq _ (.seq g _)))) _)=>g | _=>.skip
def oM:ACode:=match Fn.y0r with | .seq _ (.seq (.block _ (.seq _ (.seq _ (.seq _ (.seq m _))))) _)=>m | _=>.skip
def oS:ACode:=match Fn.y0r with | .seq _ (.seq (.block _ (.seq _ (.seq _ (.seq _ (.seq _ (.seq _ s)))))) _)=>s | _=>.skip
def oI:ACode:=match Fn.y0r with | .seq _ (.seq _ i)=>i | _=>.skip
theorem yid:Fn.y0r=.seq oA (.seq (.block 1 (.seq oB (.seq oC (.seq oG (.seq oM (.seq (.block 2 (.loop Fn.y5q)) oS)))))) oI):=rfl
theorem yqx (n R b:Nat) (hb:0<b) (hRq:R / b<BT) (hRl:dlen BT R≤dlen BT b+1) (hbl:dlen BT b<2^39) (hn:2*dlen BT b+200000≤n):∃k:Nat,k≤R / b∧∀(ob:Nat→Option AObj) (fz:Nat→Nat) (nx:Nat) (X:List (Nat×SV)) (x0 x7 x8:SV),∃X2,evC (evF E (n+1)) (n+1) oG
  ⟨env ((0,x0)::(1,.one (zD b))::(6,.one (zD R))::(7,x7)::(8,x8)::(9,.one (.int .i64 0))::X),ob,fz,nx⟩=some (.nrm,⟨env ((0,x0)::(1,.one (zD b))::(6,.one (zD R))::(7,x7)::(8,x8)::(9,.one (.int .i64 (k:Int)))::X2),ob,fz,nx⟩):=by
 unfold oG Fn.y0r
 by_cases h3:dlen BT b≤3
 ·refine ⟨R / b,Nat.le_refl _,fun ob fz nx X x0 x7 x8=>⟨[], ?_⟩⟩
  have t1:=y01 (yej R 0 (by omega) (Nat.zero_le _) (by omega) (n:=n) (by omega)) (can2 (y3n _) (y2j _ _)) ob fz
  have t2:=y01 (yej b 0 (by omega) (Nat.zero_le _) (by omega) (n:=n) (by omega)) (can2 (y3n _) (y2j _ _)) ob fz
  rw [List.drop_zero,y1k BT2,show ((0:Nat):Int)=0 from rfl] at t1 t2
  have hb4:(((digs BT b).length:Int)≤3)=True:=by simp only [eq_iff_iff,iff_true];unfold dlen at h3;omega
  have hb0:(((b:Nat):Int)=0)=False:=by simp only [eq_iff_iff,iff_false];omega
  have wq:IntKind.i64.wrap (((R:Nat):Int).tdiv (b:Int))=((R / b:Nat):Int):=by
   rw [←Int.ofNat_tdiv];exact wi64 (by unfold BT at hRq;omega)
  unfold zD at t1 t2 ⊢
  simp only [go_sem,hb4,t1,t2,hb0,wq]
 ·have hb4:(((digs BT b).length:Int)≤3)=False:=by simp only [eq_iff_iff,iff_false];unfold dlen at h3;omega
  by_cases hge:dlen BT b≤dlen BT R
  ·obtain ⟨w,hw⟩:∃w,w=BT^(dlen BT b-3):=⟨_,rfl⟩
   have hwp:0<w:=by rw [hw];exact Nat.pow_pos (by decide)
   refine ⟨R / w / (b / w+1),guess_le R b w hb hwp,fun ob fz nx X x0 x7 x8=>⟨[], ?_⟩⟩
   have t1:=y01 (yej R (dlen BT b-3) (by omega) (by omega) (by omega) (n:=n) (by omega)) (can2 (y3n _) (y2j _ _)) ob fz
   have t2:=y01 (yej b (dlen BT b-3) (by omega) (by omega) (by omega) (n:=n) (by omega)) (can2 (y3n _) (y2j _ _)) ob fz
   rw [ywo BT2 _ _ (by omega),←hw] at t1 t2
   have hbw:b / w<1000000000000:=by
    have h1:=y6x BT2 b
    refine Nat.div_lt_of_lt_mul (Nat.lt_of_lt_of_le h1 ?_)
    rw [hw,show dlen BT b=dlen BT b-3+3 by omega,Nat.pow_add,show dlen BT b-3+3-3=dlen BT b-3 by omega]
    exact Nat.mul_le_mul_left _ (by decide)
   have hgl:(((digs BT R).length:Int)≥((digs BT b).length:Int))=True:=by simp only [ge_iff_le,eq_iff_iff,iff_true];unfold dlen at hge;omega
   have w3:IntKind.i64.wrap (((digs BT b).length:Int)-3)=((dlen BT b-3:Nat):Int):=by rw [wrap_i64 (by unfold dlen at hbl;omega)];unfold dlen at h3 ⊢;omega
   have w4:IntKind.i64.wrap ((b / w+1:Nat):Int)=((b / w+1:Nat):Int):=wi64 (Nat.lt_of_le_of_lt (Nat.succ_le_of_lt hbw) (by decide))
   have hb0:(((b / w+1:Nat):Int)=0)=False:=by simp only [eq_iff_iff,iff_false];exact Int.natCast_ne_zero.2 (Nat.succ_ne_zero _)
   have hgk:=guess_le R b w hb hwp
   have wq:IntKind.i64.wrap (((R / w:Nat):Int).tdiv ((b / w+1:Nat):Int))=((R / w / (b / w+1):Nat):Int):=by
    rw [←Int.ofNat_tdiv];exact wi64 (Nat.lt_of_le_of_lt hgk (Nat.lt_trans hRq (by decide)))
   generalize dlen BT b-3=fr at t1 t2 w3
   generalize R / w / (b / w+1)=kk at wq ⊢
   generalize R / w=rw' at t1 wq
   generalize b / w=bw at t2 w4 hb0 wq
   unfold zD at t1 t2 ⊢
   simp only [go_sem,hb4,hgl,w3,t1,t2,add1,w4,hb0,wq]
  ·refine ⟨0,Nat.zero_le _,fun ob fz nx X x0 x7 x8=>⟨[(40,.one (.bool false))], ?_⟩⟩
   have hgl:(((digs BT R).length:Int)≥((digs BT b).length:Int))=False:=by simp only [ge_iff_le,eq_iff_iff,iff_false];unfold dlen at hge;omega
   have z0:((0:Nat):Int)=0:=rfl
   unfold zD
   simp only [go_sem,hb4,hgl,z0]
def RestIs (x:SV) (r:Nat):Prop:=x=.one (zD r)∨(r=0∧x=.one .nils)
section
variable {ob:Nat→Option AObj} {fz:Nat→Nat} {nx:Nat}
theorem ywy {n:Nat} {i:Nat} (us:List Nat) (b rest d R:Nat) (hR:R=d+BT*rest) (hd:d<BT) (x1 x7 xr:SV) (hxr:RestIs xr rest) (gu:us[i]? =some d) (hrl:dlen BT rest<2^39) (hn:dlen BT rest+10≤n) (X:List (Nat×SV)):
  ∃(ob':Nat→Option AObj) (fz':Nat→Nat),(∀id,id<nx→ob' id=ob id)∧(∀id,id<nx→fz' id=fz id)∧evC (evF E (n+1)) (n+1) oB ⟨env ((0,.one (.sl false (intE us)))::(1,x1)::(6,xr)::(7,x7)::(8,.one (.int .i64 (i:Int)))::X),ob,fz,nx⟩=
   some (.nrm,⟨env [(0,.one (.sl false (intE us))),(1,x1),(6,.one (zD R)),(7,x7),(8,.one (.int .i64 (i:Int)))],ob',fz',nx+9⟩):=by
 have hcd:∀x∈d::digs BT rest,x<BT:=by
  intro x hx
  rcases List.mem_cons.1 hx with rfl | h
  ·exact hd
  ·exact y27 BT2 rest x h
 have hkp:(((i:Nat):Int)≥0)=True:=by simp
 have hob:∀(y:AObj) id,id<nx→upd ob (nx+4) y id=ob id:=fun y id h=>y00 (by omega)
 have hfz:∀m id,id<nx→raise fz (nx+4) m id=fz id:=fun m id h=>yag (by omega)
 have hval:val BT ([d]++digs BT rest)=R:=by rw [hR];show d+BT*val BT (digs BT rest)=_;rw [y1k BT2]
 have ht:=fun ob fz v h=>yec (n:=n+1) (id:=nx+4) (ver:=v) (full:=false) (ob:=ob) (fz:=fz) ([d]++digs BT rest) (by unfold dlen at hrl;simp;omega) hcd (by unfold dlen at hn;simp;omega) h
 rw [hval] at ht
 have key:∃v x,(xr=.one x∧x=v)∧(v=.nils∧digs BT rest=[]∨v=.sl false (intE (digs BT rest))):=by
  rcases hxr with rfl | ⟨rfl,rfl⟩
  ·exact ⟨_,_,⟨rfl,rfl⟩,.inr rfl⟩
  ·exact ⟨_,_,⟨rfl,rfl⟩,.inl ⟨rfl,y0s _⟩⟩
 obtain ⟨v,_,⟨rfl,rfl⟩,hv⟩:=key
 unfold oB Fn.y0r
 unfold dlen at hrl hn
 generalize digs BT rest=ds at*
 have e1:[[AV.int .i64 (d:Int)]]=intE [d]:=rfl
 rcases ds with _ | ⟨e,es⟩
 ·have e2:intE []=[]:=rfl
  have ht:=fun ob fz h=>ht ob fz 0 h
  simp only [List.append_nil] at ht
  rcases hv with ⟨rfl,_⟩ | rfl
  ·refine ⟨upd ob (nx+4) (.row 1 [[AV.int .i64 (d:Int)]] 0),raise fz (nx+4) 1,hob _,hfz _, ?_⟩
   have ht:=ht (upd ob (nx+4) (.row 1 [[AV.int .i64 (d:Int)]] 0)) fz y3d
   simp only [List.length_cons,List.length_nil,Nat.zero_add] at ht
   simp only [go_sem,gu,hkp,ht]
  ·refine ⟨upd ob (nx+4) (.row 1 [[AV.int .i64 (d:Int)]] 0),raise fz (nx+4) 1,hob _,hfz _, ?_⟩
   have ht:=ht (upd ob (nx+4) (.row 1 [[AV.int .i64 (d:Int)]] 0)) fz y3d
   simp only [List.length_cons,List.length_nil,Nat.zero_add] at ht
   simp only [go_sem,gu,hkp,e2,show okSz 1 ([]:List (List AV))=true from rfl,ht]
 ·rcases hv with ⟨_,h⟩ | rfl
  ·exact absurd h (by simp)
  ·have e2:intE (e::es)=[AV.int .i64 (e:Int)]::intE es:=rfl
   have hl8:(1+(es.length+1))*8≤140737488355328:=by simp only [List.length_cons] at hrl;omega
   refine ⟨upd ob (nx+4) (.row 1 ([AV.int .i64 (d:Int)]::[AV.int .i64 (e:Int)]::intE es) 1),raise fz (nx+4) (1+(es.length+1)),hob _,hfz _, ?_⟩
   have ht:=ht (upd ob (nx+4) (.row 1 ([AV.int .i64 (d:Int)]::[AV.int .i64 (e:Int)]::intE es) 1)) fz 1 y3d
   rw [show ([d]++e::es).length=1+(es.length+1) by simp;omega] at ht
   simp only [go_sem,gu,hkp,e2,show okSz 1 ([AV.int .i64 (e:Int)]::intE es)=true from rfl,hl8,ROOM,ht]
theorem yw7 {n:Nat} (b R k:Nat) (hk:k≤R / b) (hb:0<b) (hkl:R / b<BT) (hbl:dlen BT b<2^39) (hRl:dlen BT R≤dlen BT b+1) (hn:2*dlen BT b+200000≤n) (x0 x7 x8:SV) (X:List (Nat×SV)):∃X',
  evC (evF E (n+1)) (n+1) oM ⟨env ((0,x0)::(1,.one (zD b))::(6,.one (zD R))::(7,x7)::(8,x8)::(9,.one (.int .i64 (k:Int)))::X),ob,fz,nx⟩=
   some (.nrm,⟨env ((0,x0)::(1,.one (zD b))::(6,.one (zD (R-b*k)))::(7,x7)::(8,x8)::(9,.one (.int .i64 (k:Int)))::X'),ob,fz,nx⟩):=by
 have hkB:k<BT:=Nat.lt_of_le_of_lt hk hkl
 have hz:=y01 (y8m (k:Int) (by omega) (by unfold BT at hkB;omega) (n:=n) (by omega)) (can1 (y2j _ _)) ob fz
 have hbk:b*k≤R:=by
  have:=Nat.mul_div_le R b
  exact Nat.le_trans (Nat.mul_le_mul_left _ hk) this
 have hkd:dlen BT k≤1:=y5j BT2 (by rw [Nat.pow_one];exact hkB)
 have ht:=y01 (yig b k (by omega) (by omega) (n:=n) (by omega)) (can2 (y3n _) (y3n _)) ob fz
 have hm:=y01 (y9z R (b*k) hbk (by omega) (n:=n) (by omega)) (can2 (y3n _) (y3n _)) ob fz
 refine ⟨[], ?_⟩
 unfold oM Fn.y0r
 have e:sV (k:Int)=.agg [.bool false,zD k]:=by
  have h0:decide ((k:Int)<0)=false:=by simp
  simp only [sV,zC,h0,Int.natAbs_natCast]
 rw [e] at hz
 simp only [go_sem,hz,ht,hm]
end
end Go.Ev
namespace Go.Ev
open Go.Dig
section
variable {ob:Nat→Option AObj} {fz:Nat→Nat} {nx:Nat}
theorem yqm {n:Nat} {idq i:Nat} (us qs:List Nat) (b rest d:Nat) (hb:0<b) (hrest:rest<b) (xr:SV) (hxr:RestIs xr rest) (hi:i<us.length) (hqs:qs.length=us.length) (hs:us.length<2^39) (gu:us[i]? =some d) (hd:d<BT) (hbl:dlen BT b<2^38) (hidq:idq<nx) (hfq:fz idq=0) (hq:ob idq=some (.row 1 (intE qs) 0)) (hn:2*dlen BT b+200000≤n) (X:List (Nat×SV)):
  ∃(ob':Nat→Option AObj) (fz':Nat→Nat) (X':List (Nat×SV)),evC (evF E (n+1)) (n+1) Fn.y0r ⟨env ((0,.one (.sl false (intE us)))::(1,.one (zD b))::(6,xr)::(7,.one (.rsl idq 0 1 0 us.length false))::(8,.one (.int .i64 (i:Int)))::X),ob,fz,nx⟩=
   some (.nrm,⟨env ((0,.one (.sl false (intE us)))::(1,.one (zD b))::(6,.one (zD ((d+BT*rest)%b)))::(7,.one (.rsl idq 0 1 0 us.length false))::(8,.one (.int .i64 ((i:Int)-1)))::X'),ob',fz',nx+9⟩)∧fz' idq=0∧ob' idq=some (.row 1 (intE (qs.set i ((d+BT*rest) / b))) 0)∧(d+BT*rest) / b<BT:=by
 obtain ⟨R,hR⟩:∃R,R=d+BT*rest:=⟨_,rfl⟩
 rw [←hR]
 have hRb:R<BT*b:=by
  have:BT*rest+BT≤BT*b:=by rw [←Nat.mul_succ];exact Nat.mul_le_mul_left _ hrest
  omega
 have hRq:R / b<BT:=Nat.div_lt_of_lt_mul (by rw [Nat.mul_comm];exact hRb)
 have hRl:dlen BT R≤dlen BT b+1:=by
  refine y5j BT2 (Nat.lt_of_lt_of_le hRb ?_)
  rw [Nat.pow_succ,Nat.mul_comm]
  exact Nat.mul_le_mul_right _ (Nat.le_of_lt (y6x BT2 b))
 have hrl:dlen BT rest≤dlen BT b:=y5r BT2 (Nat.le_of_lt hrest)
 have hkp:(((i:Nat):Int)≥0)=True:=by simp
 have wi:IntKind.i64.wrap ((i:Int)-1)=(i:Int)-1:=wrap_i64 (by omega)
 obtain ⟨k,hk,hG⟩:=yqx n R b hb hRq hRl (by omega) hn
 obtain ⟨ob',fz',hob,hfz,hB⟩:=ywy (ob:=ob) (fz:=fz) (nx:=nx) (n:=n) (i:=i) us b rest d R hR hd (.one (zD b)) (.one (.rsl idq 0 1 0 us.length false)) xr hxr gu (by omega) (by omega) [(17,.one (.bool true))]
 obtain ⟨X2,hG⟩:=hG ob' fz' (nx+9) [] (.one (.sl false (intE us))) (.one (.rsl idq 0 1 0 us.length false)) (.one (.int .i64 (i:Int)))
 obtain ⟨X3,hM⟩:=yw7 (ob:=ob') (fz:=fz') (nx:=nx+9) b R k hk hb hRq (by omega) hRl hn (.one (.sl false (intE us))) (.one (.rsl idq 0 1 0 us.length false)) (.one (.int .i64 (i:Int))) X2
 have hbk:b*k≤R:=Nat.le_trans (Nat.mul_le_mul_left _ hk) (Nat.mul_div_le R b)
 have hdm:R=b*k+(R-b*k):=by omega
 have hq1:k+(R-b*k) / b=R / b:=by
  have h1:(R-b*k) / b=R / b-k:=Nat.sub_mul_div R b k
  rw [h1];exact Nat.add_sub_cancel' hk
 have hr1:(R-b*k)%b=R%b:=by
  have h1:(b*k+(R-b*k))%b=(R-b*k)%b:=Nat.mul_add_mod _ _ _
  rw [←hdm] at h1;exact h1.symm
 have hk2:k+(R-b*k) / b<100000:=by rw [hq1];exact Nat.lt_trans hRq (by decide)
 obtain ⟨X4,hL⟩:=yr1 (ob:=ob') (fz:=fz') (nx:=nx+9) (n:=n) b hb (.one (.sl false (intE us))) (.one (.rsl idq 0 1 0 us.length false)) (.one (.int .i64 (i:Int))) (R-b*k) k X3 (Nat.lt_of_le_of_lt (y5r BT2 (Nat.sub_le _ _)) (by omega)) (Nat.le_trans (Nat.add_le_add_right (y5r BT2 (Nat.sub_le R (b*k))) _) (by omega)) hk2 (n+1) (Nat.lt_of_le_of_lt (Nat.le_trans (Nat.le_add_left _ k) (Nat.le_of_lt hk2)) (by omega))
 rw [hq1,hr1] at hL
 have hq':ob' idq=some (.row 1 (intE qs) 0):=by rw [hob _ hidq];exact hq
 have hf':fz' idq=0:=by rw [hfz _ hidq];exact hfq
 have hrw:rowAt ob' idq 0=some (1,intE qs):=y1l hq'
 refine ⟨upd ob' idq (.row 1 (intE (qs.set i (R / b))) 0),fz',[], ?_,hf',upd_same _ _ _,hRq⟩
 rw [yid]
 have hA:evC (evF E (n+1)) (n+1) oA ⟨env ((0,.one (.sl false (intE us)))::(1,.one (zD b))::(6,xr)::(7,.one (.rsl idq 0 1 0 us.length false))::(8,.one (.int .i64 (i:Int)))::X),ob,fz,nx⟩=
   some (.nrm,⟨env [(0,.one (.sl false (intE us))),(1,.one (zD b)),(6,xr),(7,.one (.rsl idq 0 1 0 us.length false)),(8,.one (.int .i64 (i:Int))),(17,.one (.bool true))],ob,fz,nx⟩):=by
  unfold oA Fn.y0r
  simp only [go_sem,hkp]
 have hC:evC (evF E (n+1)) (n+1) oC ⟨env [(0,.one (.sl false (intE us))),(1,.one (zD b)),(6,.one (zD R)),(7,.one (.rsl idq 0 1 0 us.length false)),(8,.one (.int .i64 (i:Int)))],ob',fz',nx+9⟩=
   some (.nrm,⟨env [(0,.one (.sl false (intE us))),(1,.one (zD b)),(6,.one (zD R)),(7,.one (.rsl idq 0 1 0 us.length false)),(8,.one (.int .i64 (i:Int))),(9,.one (.int .i64 0))],ob',fz',nx+9⟩):=by
  unfold oC Fn.y0r
  simp only [go_sem]
 have hS:evC (evF E (n+1)) (n+1) oS ⟨env ((0,.one (.sl false (intE us)))::(1,.one (zD b))::(6,.one (zD (R%b)))::(7,.one (.rsl idq 0 1 0 us.length false))::(8,.one (.int .i64 (i:Int)))::(9,.one (.int .i64 ((R / b:Nat):Int)))::X4),ob',fz',nx+9⟩=
   some (.nrm,⟨env [(0,.one (.sl false (intE us))),(1,.one (zD b)),(6,.one (zD (R%b))),(7,.one (.rsl idq 0 1 0 us.length false)),(8,.one (.int .i64 (i:Int)))],upd ob' idq (.row 1 (intE (qs.set i (R / b))) 0),fz',nx+9⟩):=by
  unfold oS Fn.y0r
  have hiq:i<qs.length:=by omega
  have gq:qs[i]? =some qs[i]:=by simp
  generalize qs[i]=qi at gq
  simp only [go_sem,hi,hrw,hq',hf',gq]
 have hI:evC (evF E (n+1)) (n+1) oI ⟨env [(0,.one (.sl false (intE us))),(1,.one (zD b)),(6,.one (zD (R%b))),(7,.one (.rsl idq 0 1 0 us.length false)),(8,.one (.int .i64 (i:Int)))],upd ob' idq (.row 1 (intE (qs.set i (R / b))) 0),fz',nx+9⟩=
   some (.nrm,⟨env [(0,.one (.sl false (intE us))),(1,.one (zD b)),(6,.one (zD (R%b))),(7,.one (.rsl idq 0 1 0 us.length false)),(8,.one (.int .i64 ((i:Int)-1)))],upd ob' idq (.row 1 (intE (qs.set i (R / b))) 0),fz',nx+9⟩):=by
  unfold oI Fn.y0r
  simp only [go_sem,wi]
 simp only [x_seq,hA,yeb,yiv,hB,hC,hG,hM,yv2,hL,yn2,ygm,hS,hI,go_sem]
theorem yjo {n:Nat} {idq:Nat} (us:List Nat) (b:Nat) (hb:0<b) (hs:us.length<2^39) (hus:∀d∈us,d<BT) (hbl:dlen BT b<2^38) (hn:2*dlen BT b+200000≤n):∀(m:Nat),m≤us.length→∀(ob:Nat→Option AObj) (fz:Nat→Nat) (nx:Nat) (qs:List Nat) (rest:Nat) (xr:SV) (X:List (Nat×SV)),idq<nx→fz idq=0→ob idq=some (.row 1 (intE qs) 0)→qs.length=us.length→(∀d∈qs,d<BT)→rest<b→RestIs xr rest→val BT (qs.drop m)*b+rest=val BT (us.drop m)→∀N,m<N→
  ∃(ob':Nat→Option AObj) (fz':Nat→Nat) (nx':Nat) (qs':List Nat) (rest':Nat) (xr':SV) (X':List (Nat×SV)),loopN (evC (evF E (n+1)) (n+1) Fn.y0r) N ⟨env ((0,.one (.sl false (intE us)))::(1,.one (zD b))::(6,xr)::(7,.one (.rsl idq 0 1 0 us.length false))::(8,.one (.int .i64 ((m:Int)-1)))::X),ob,fz,nx⟩=
   some (.ext 0,⟨env ((0,.one (.sl false (intE us)))::(1,.one (zD b))::(6,xr')::(7,.one (.rsl idq 0 1 0 us.length false))::X'),ob',fz',nx'⟩)∧fz' idq=0∧ob' idq=some (.row 1 (intE qs') 0)∧qs'.length=us.length∧(∀d∈qs',d<BT)∧rest'<b∧RestIs xr' rest'∧val BT qs'*b+rest'=val BT us
 | 0,_,ob,fz,nx,qs,rest,xr,X,h1,h2,h3,h4,h5,h6,h7,h8,N+1,_=>by
  refine ⟨ob,fz,nx,qs,rest,xr,[(8,.one (.int .i64 (-1))),(17,.one (.bool false))],y06 ?_,h2,h3,h4,h5,h6,h7,by simpa using h8⟩
  have e:(((0:Nat):Int)-1)=-1:=rfl
  have g:((-1:Int)≥0)=False:=by simp
  rw [yid]
  unfold oA Fn.y0r
  simp only [go_sem,e,g]
 | m+1,hm,ob,fz,nx,qs,rest,xr,X,h1,h2,h3,h4,h5,h6,h7,h8,N+1,hN=>by
  have gu:us[m]? =some us[m]:=by simp
  have hd:us[m]<BT:=hus _ (by simp)
  have e:((m+1:Nat):Int)-1=(m:Int):=by omega
  obtain ⟨ob',fz',X',hr,a1,a2,a3⟩:=yqm (n:=n) us qs b rest us[m] hb h6 xr h7 (by omega) h4 hs gu hd hbl h1 h2 h3 hn X
  rw [e,y05 hr]
  refine yjo us b hb hs hus hbl hn m (by omega) ob' fz' (nx+9) _ _ _ X' (by omega) a1 a2 (by simp [h4]) ?_ (Nat.mod_lt _ hb) (.inl rfl) ?_ N (by omega)
  ·intro d hd
   rcases List.mem_or_eq_of_mem_set hd with h | h
   ·exact h5 d h
   ·rw [h];exact a3
  ·have hmq:m<(qs.set m ((us[m]+BT*rest) / b)).length:=by simp;omega
   rw [List.drop_eq_getElem_cons hmq,List.drop_eq_getElem_cons (show m<us.length by omega)]
   have e1:(qs.set m ((us[m]+BT*rest) / b))[m]=(us[m]+BT*rest) / b:=by simp
   rw [e1,List.drop_set_of_lt (by omega),val,val,←h8]
   have hdm:=Nat.div_add_mod (us[m]+BT*rest) b
   generalize (us[m]+BT*rest) / b=q at*
   generalize (us[m]+BT*rest)%b=r at*
   rw [Nat.add_mul,Nat.mul_add,Nat.mul_assoc,Nat.mul_comm q b]
   omega
end
theorem yea (a b:Nat) (hb:0<b) (ha:dlen BT a<2^38) (hbl:dlen BT b<2^38) {n:Nat} (hn:dlen BT a+2*dlen BT b+200001≤n):evV E (n+1) Id.y2w [.one (zD a),.one (zD b)]=some (.tup [.one (zD (a / b)),.one (zD (a%b))]):=by
 obtain ⟨n,rfl⟩:∃k,n=k+1:=⟨n-1,by omega⟩
 rw [y02 yew]
 have hal:(digs BT a).length=dlen BT a:=rfl
 obtain ⟨ob',fz',nx',qs',rest',xr',X',hloop,h2,h3,h4,h5,h6,h7,h8⟩:=yjo (n:=n) (idq:=2) (digs BT a) b hb (by omega) (y27 BT2 a) hbl (by omega) (digs BT a).length (Nat.le_refl _) (upd ob0 2 (.row 1 (intE (List.replicate (digs BT a).length 0)) 0)) fz0 4 (List.replicate (digs BT a).length 0) 0 (.one .nils) [] (by omega) rfl (upd_same _ _ _) (by simp) (fun d hd=>by rw [(List.mem_replicate.1 hd).2];decide) hb (.inr ⟨rfl,rfl⟩) (by simp [val]) (n+1) (by omega)
 rw [y1k BT2] at h8
 have hq:val BT qs'=a / b:=by
  rw [←h8,Nat.mul_comm,Nat.mul_add_div hb,Nat.div_eq_of_lt h6,Nat.add_zero]
 have hr:rest'=a%b:=by
  rw [←h8,Nat.mul_comm,Nat.mul_add_mod,Nat.mod_eq_of_lt h6]
 have hnr:=yec (n:=n+1) (id:=2) (ver:=0) (full:=false) (ob:=ob') (fz:=fz') qs' (by rw [h4];omega) h5 (by rw [h4];omega) (y1l h3)
 rw [h4,hq] at hnr
 have wl:IntKind.i64.wrap (((digs BT a).length:Int)-1)=((digs BT a).length:Int)-1:=wrap_i64 (by omega)
 have l2:(digs BT a).length≤9223372036854775807:=by omega
 have l3:8*(digs BT a).length≤281474976710656:=by omega
 unfold zD at hnr hloop ⊢
 rcases h7 with rfl | ⟨rfl,rfl⟩
 ·rw [hr] at hloop
  unfold zD at hloop
  simp only [go_sem,Fn.y2w,wl,l2,l3,yc0,hloop,hnr]
 ·rw [←hr,y0s]
  have e0:intE []=[]:=rfl
  simp only [go_sem,Fn.y2w,wl,l2,l3,yc0,hloop,hnr,e0]
end Go.Ev
namespace Go.Ev
open Go.Dig
section
variable {F:Caller} {fuel:Nat} {fz:Nat→Nat} {ob:Nat→Option AObj} {nx:Nat}
theorem yfi {id:Nat} {sg:AV} (ds:List Nat) (hl:ds.length≤4) (hd:∀d∈ds,d<BT) (hob:ob id=some (.box [sg,.sl false (intE ds)])):∀(k:Nat),k≤ds.length→∀(X:List (Nat×SV)) (N:Nat),k<N→∃X',
  loopN (evC F fuel Fn.y79) N ⟨env ((1,.one (.box id 0))::(4,.one (.int .i64 (val BT (ds.drop k):Int)))::(5,.one (.int .i64 ((k:Int)-1)))::X),ob,fz,nx⟩=
   some (.ext 0,⟨env ((1,.one (.box id 0))::(4,.one (.int .i64 (val BT ds:Int)))::X'),ob,fz,nx⟩)
 | 0,hk,X,N+1,hN=>by
  have h1:((-1:Int)≥0)=False:=by simp
  have e:(((0:Nat):Int)-1)=-1:=rfl
  refine ⟨[(5,.one (.int .i64 (-1))),(15,.one (.bool false))],y06 ?_⟩
  rw [List.drop_zero,e]
  simp only [go_sem,Fn.y79,h1]
 | j+1,hk,X,N+1,hN=>by
  have h0:(((j+1:Nat):Int)-1)=(j:Nat):=by omega
  have h1:(((j:Nat):Int)≥0)=True:=by simp
  have hjl:j<ds.length:=by omega
  have gd:ds[j]? =some ds[j]:=by simp
  have e:ds.drop j=ds[j]::ds.drop (j+1):=List.drop_eq_getElem_cons hjl
  have hb:val BT (ds.drop j)<10000000000000000:=by
   have h2:=y63 BT2 (ds.drop j) (fun d h=>hd d (List.mem_of_mem_drop h))
   have h3:BT^(ds.drop j).length≤BT^4:=Nat.pow_le_pow_right (by decide) (by simp;omega)
   exact Nat.lt_of_lt_of_le h2 (Nat.le_trans h3 (by decide))
  have hv:val BT (ds.drop j)=ds[j]+10000*val BT (ds.drop (j+1)):=by rw [e];rfl
  rw [hv] at hb
  have wm:IntKind.i64.wrap ((val BT (ds.drop (j+1)):Int)*10000)=((val BT (ds.drop (j+1))*10000:Nat):Int):=by
   rw [show ((val BT (ds.drop (j+1)):Int)*10000)=((val BT (ds.drop (j+1))*10000:Nat):Int) from (Int.natCast_mul _ 10000).symm]
   exact wi64 (by omega)
  have wa:IntKind.i64.wrap (((val BT (ds.drop (j+1))*10000:Nat):Int)+(ds[j]:Int))=(val BT (ds.drop j):Int):=by
   rw [addi64 _ _ (by omega),hv]
   congr 1
   omega
  have wj:IntKind.i64.wrap ((j:Int)-1)=(j:Int)-1:=wrap_i64 (by omega)
  obtain ⟨X',h⟩:=yfi ds hl hd hob j (by omega) [] N (by omega)
  refine ⟨X', ?_⟩
  rw [←h]
  refine y05 ?_
  generalize val BT (ds.drop j)=v1 at wa ⊢
  generalize val BT (ds.drop (j+1))=v0 at wm wa ⊢
  generalize v0*10000=v2 at wm wa
  simp only [go_sem,Fn.y79,h0,h1,hob,gd,wm,wa,wj]
end
def smallR (x:Nat):SV:=if dlen BT x≤4 then .tup [.one (.int .i64 (x:Int)),.one (.bool true)] else .tup [.one (.int .i64 0),.one (.bool false)]
theorem yih (x:Nat) (sg:Bool) (hx:dlen BT x<2^60) {n:Nat} (hn:6≤n):evV E (n+1) Id.y2r [.agg [.bool sg,zD x]]=some (smallR x):=by
 rw [y02 ydk]
 unfold smallR
 by_cases h:dlen BT x≤4
 ·rw [if_pos h]
  unfold dlen at h
  have hg:(((digs BT x).length:Int)>4)=False:=by simp only [eq_iff_iff,iff_false];omega
  have hw:IntKind.i64.wrap (((digs BT x).length:Int)-1)=((digs BT x).length:Int)-1:=wrap_i64 (by omega)
  obtain ⟨X',hl⟩:=yfi (F:=evF E n) (fuel:=n) (fz:=fz0) (nx:=3) (id:=0) (sg:=.bool sg) (ob:=upd ob0 0 (.box [.bool sg,.sl false (intE (digs BT x))])) (digs BT x) h (y27 BT2 x) (upd_same _ _ _) (digs BT x).length (Nat.le_refl _) [] n (by omega)
  rw [List.drop_length,y1k BT2,val,show ((0:Nat):Int)=0 from rfl] at hl
  unfold zD
  simp only [go_sem,Fn.y2r,hg,hw,hl]
 ·rw [if_neg h]
  unfold dlen at h
  have hg:(((digs BT x).length:Int)>4)=True:=by simp only [eq_iff_iff,iff_true];omega
  unfold zD
  simp only [go_sem,Fn.y2r,hg]
section
variable {F:Caller} {fuel:Nat} {fz:Nat→Nat} {ob:Nat→Option AObj} {nx:Nat}
theorem yqp (x4:SV):∀(y x:Nat) (X:List (Nat×SV)) (N:Nat),y<N→∃X',
  loopN (evC F fuel Fn.y55) N ⟨env ((4,x4)::(7,.one (.int .i64 (x:Int)))::(9,.one (.int .i64 (y:Int)))::X),ob,fz,nx⟩=
   some (.ext 2,⟨env ((4,x4)::(7,.one (.int .i64 (Nat.gcd x y:Int)))::X'),ob,fz,nx⟩):=by
 intro y
 induction y using Nat.strongRecOn with
 | _ y ih=>
  intro x X N hN
  obtain ⟨M,rfl⟩:∃M,N=M+1:=⟨N-1,by omega⟩
  by_cases hy:y=0
  ·subst hy
   have h1:(((0:Nat):Int) !=0)=false:=rfl
   refine ⟨[(9,.one (.int .i64 ((0:Nat):Int))),(37,.one (.bool false))],y06 ?_⟩
   rw [Nat.gcd_zero_right]
   simp only [go_sem,Fn.y55,h1]
  ·have h1:(((y:Nat):Int) !=0)=true:=by simp;omega
   have h0:(((y:Nat):Int)=0)=False:=by simp only [eq_iff_iff,iff_false];omega
   have hr:((x:Int)).tmod (y:Int)=((x%y:Nat):Int):=(Int.ofNat_tmod x y).symm
   have hst:evC F fuel Fn.y55 ⟨env ((4,x4)::(7,.one (.int .i64 (x:Int)))::(9,.one (.int .i64 (y:Int)))::X),ob,fz,nx⟩=some (.nrm,⟨env [(4,x4),(7,.one (.int .i64 (y:Int))),(9,.one (.int .i64 ((x%y:Nat):Int)))],ob,fz,nx⟩):=by
    simp only [go_sem,Fn.y55,h1,h0,hr]
   rw [y05 hst]
   have hlt:x%y<y:=Nat.mod_lt _ (by omega)
   have:Nat.gcd y (x%y)=Nat.gcd x y:=by rw [Nat.gcd_comm y (x%y),←Nat.gcd_rec,Nat.gcd_comm]
   rw [←this]
   exact ih (x%y) hlt y [] M (by omega)
def KR (S:Nat):Nat:=2^S+6*S+20000000000000000
theorem y12 {x S:Nat} (h:x<2^S):dlen BT x≤S:=by
 refine y5j BT2 (Nat.lt_of_lt_of_le h ?_)
 exact Nat.pow_le_pow_left (by decide) S
theorem yl9 {x:Nat} (h:dlen BT x≤4):x<10000000000000000:=by
 have h1:=y6x BT2 x
 exact Nat.lt_of_lt_of_le h1 (Nat.le_trans (Nat.pow_le_pow_right (by decide) h) (by decide))
theorem ytg {n id S:Nat} (hS:S<2^37) (hn:KR S≤n) (hob:∃cs,ob id=some (.box cs)∧cs.length=2):∀(y x:Nat) (X:List (Nat×SV)) (N:Nat),x<2^S→y<2^S→y<N→ 
  (∃X',loopN (evC (evF E (n+1)) (n+1) Fn.y4c) N ⟨env ((4,.one (.box id 0))::(5,.one (zD x))::(6,.one (zD y))::X),ob,fz,nx⟩=
   some (.ext 0,⟨env ((4,.one (.box id 0))::(5,.one (zD (Nat.gcd x y)))::X'),ob,fz,nx⟩))∨
  (∃X',loopN (evC (evF E (n+1)) (n+1) Fn.y4c) N ⟨env ((4,.one (.box id 0))::(5,.one (zD x))::(6,.one (zD y))::X),ob,fz,nx⟩=
   some (.ret,⟨env ((4,.one (.box id 0))::X'),upd ob id (.box (zC (Nat.gcd x y:Nat))),fz,nx⟩)):=by
 intro y
 induction y using Nat.strongRecOn with
 | _ y ih=>
  intro x X N hx hy hN
  obtain ⟨M,rfl⟩:∃M,N=M+1:=⟨N-1,by omega⟩
  have hyl:=ygr y
  have hK:6*S+20000000000000000≤n:=Nat.le_trans (Nat.add_le_add_right (Nat.le_add_left _ _) _) hn
  have dx:=y12 hx
  have dy:=y12 hy
  by_cases hy0:y=0
  ·subst hy0
   left
   refine ⟨[(6,.one (zD 0)),(19,.one (.bool false))],y06 ?_⟩
   rw [Nat.gcd_zero_right]
   have e:(0≠0)=False:=by simp
   rw [e] at hyl
   unfold zD
   simp only [go_sem,Fn.y4c,hyl]
  ·have e:(y≠0)=True:=by simp [hy0]
   rw [e] at hyl
   have s1:=y01 (yih x false (by omega) (n:=n) (by omega)) (can1 (.agg _ fun v hv=>by
    simp only [List.mem_cons,List.not_mem_nil,or_false] at hv
    rcases hv with rfl | rfl
    ·exact .bool _
    ·exact .sl _)) ob fz
   have s2:=y01 (yih y false (by omega) (n:=n) (by omega)) (can1 (.agg _ fun v hv=>by
    simp only [List.mem_cons,List.not_mem_nil,or_false] at hv
    rcases hv with rfl | rfl
    ·exact .bool _
    ·exact .sl _)) ob fz
   by_cases hsm:dlen BT x≤4∧dlen BT y≤4
   ·right
    obtain ⟨h4,h5⟩:=hsm
    unfold smallR at s1 s2
    rw [if_pos h4] at s1
    rw [if_pos h5] at s2
    have hy5:=yl9 h5
    have hlt5:x%y<y:=Nat.mod_lt _ (by omega)
    obtain ⟨X',hin⟩:=yqp (F:=evF E (n+1)) (fuel:=n+1) (fz:=fz) (ob:=ob) (nx:=nx) (.one (.box id 0)) (x%y) y [] n (by omega)
    have hge:Nat.gcd y (x%y)=Nat.gcd x y:=by rw [Nat.gcd_comm y (x%y),←Nat.gcd_rec,Nat.gcd_comm]
    rw [hge] at hin
    have h1:(((y:Nat):Int) !=0)=true:=by simp;omega
    have h0:(((y:Nat):Int)=0)=False:=by simp only [eq_iff_iff,iff_false];omega
    have hr:((x:Int)).tmod (y:Int)=((x%y:Nat):Int):=(Int.ofNat_tmod x y).symm
    have hst:evC (evF E (n+1)) (n+1) Fn.y55 ⟨env [(4,.one (.box id 0)),(5,.one (zD x)),(6,.one (zD y)),(7,.one (.int .i64 (x:Int))),(9,.one (.int .i64 (y:Int))),(35,.one (.bool true))],ob,fz,nx⟩=some (.nrm,⟨env [(4,.one (.box id 0)),(7,.one (.int .i64 (y:Int))),(9,.one (.int .i64 ((x%y:Nat):Int)))],ob,fz,nx⟩):=by
     simp only [go_sem,Fn.y55,h1,h0,hr]
    have hin:=(y05 (N:=n) hst).trans hin
    have hx4:=yl9 h4
    have hg:Nat.gcd x y<10000000000000000:=Nat.lt_of_le_of_lt (Nat.gcd_le_right x (by omega)) hy5
    have hz:=y01 (y8m (Nat.gcd x y:Int) (by omega) (by omega) (n:=n) (by omega)) (can1 (y2j _ _)) ob fz
    obtain ⟨cs,hb1,hb2⟩:=hob
    refine ⟨[],y34 ?_⟩
    unfold sV at hz
    obtain ⟨c1,c2,rfl⟩:∃c1 c2,cs=[c1,c2]:=by
     rcases cs with _ | ⟨c1,_ | ⟨c2,_ | ⟨c3,r⟩⟩⟩
     ·simp at hb2
     ·simp at hb2
     ·exact ⟨c1,c2,rfl⟩
     ·simp at hb2
    unfold zC at hz ⊢
    unfold zD at s1 s2 hz hin ⊢
    simp only [go_sem,Fn.y4c,hyl,s1,s2,hin,hz,hb1]
   ·have hov:=y01 (yea x y (by omega) (by omega) (by omega) (n:=n) (by omega)) (can2 (y3n _) (y3n _)) ob fz
    have hst:∃X1,evC (evF E (n+1)) (n+1) Fn.y4c ⟨env ((4,.one (.box id 0))::(5,.one (zD x))::(6,.one (zD y))::X),ob,fz,nx⟩=some (.nrm,⟨env ((4,.one (.box id 0))::(5,.one (zD y))::(6,.one (zD (x%y)))::X1),ob,fz,nx⟩):=by
     refine ⟨[], ?_⟩
     unfold smallR at s1 s2
     by_cases h4:dlen BT x≤4
     ·have h5:¬dlen BT y≤4:=fun h=>hsm ⟨h4,h⟩
      rw [if_pos h4] at s1
      rw [if_neg h5] at s2
      unfold zD at s1 s2 hov ⊢
      simp only [go_sem,Fn.y4c,hyl,s1,s2,hov]
     ·rw [if_neg h4] at s1
      by_cases h5:dlen BT y≤4
      ·rw [if_pos h5] at s2
       unfold zD at s1 s2 hov ⊢
       simp only [go_sem,Fn.y4c,hyl,s1,s2,hov]
      ·rw [if_neg h5] at s2
       unfold zD at s1 s2 hov ⊢
       simp only [go_sem,Fn.y4c,hyl,s1,s2,hov]
    obtain ⟨X1,hst⟩:=hst
    rw [y05 hst]
    have hlt:x%y<y:=Nat.mod_lt _ (by omega)
    have hge:Nat.gcd y (x%y)=Nat.gcd x y:=by rw [Nat.gcd_comm y (x%y),←Nat.gcd_rec,Nat.gcd_comm]
    rw [←hge]
    exact ih (x%y) hlt y X1 M hy (by omega) (by omega)
end
theorem yvb (a b:Int) {S:Nat} (ha:a.natAbs<2^S) (hb:b.natAbs<2^S) (hS:S<2^37) {n:Nat} (hn:KR S+1≤n):evV E (n+1) Id.y3i [sV a,sV b]=some (sV (Nat.gcd a.natAbs b.natAbs:Nat)):=by
 obtain ⟨n,rfl⟩:∃k,n=k+1:=⟨n-1,by omega⟩
 rw [y02 yev]
 have hK:b.natAbs<n+1:=by unfold KR at hn;omega
 have h:=ytg (n:=n) (id:=2) (S:=S) (fz:=fz0) (nx:=3) (ob:=upd (upd (upd ob0 0 (.box (zC a))) 1 (.box (zC b))) 2 (.box [.bool false,.nils])) hS (by omega) ⟨_,upd_same _ _ _,rfl⟩ b.natAbs a.natAbs [] (n+1) ha hb hK
 unfold sV zC at*
 rcases h with ⟨X',h⟩ | ⟨X',h⟩
 ·unfold zD at h ⊢
  have e0:decide (((Nat.gcd a.natAbs b.natAbs:Nat):Int)<0)=false:=by simp
  rw [Int.natAbs_natCast,e0]
  simp only [go_sem,Fn.y3i,h]
 ·unfold zD at h ⊢
  simp only [go_sem,Fn.y3i,h]
end Go.Ev
namespace Go.Ev
open Go.Dig
def aggS:Option ((Nat→Nat)×List AV)→Option ((Nat→Nat)×SV)
 | some p=>some (p.1,.agg p.2)
 | none=>none
theorem ydy (p:(Nat→Nat)×List AV):aggS (some p)=some (p.1,.agg p.2):=Eq.trans rfl rfl
theorem yd5 (ob:Nat→Option AObj) (fz:Nat→Nat) (cs:List AV):frzS ob fz (.agg cs)=aggS (mapFz (frz ob DEPTH) fz cs):=by
 simp only [frzS]
 cases mapFz (frz ob DEPTH) fz cs<;>rfl
theorem yl8 (ob:Nat→Option AObj) (fz:Nat→Nat) (b:Bool):frz ob DEPTH fz (.bool b)=some (fz,.bool b):=Eq.trans rfl rfl
theorem yn1 (ob:Nat→Option AObj) (fz:Nat→Nat) (k:IntKind) (b:Int):frz ob DEPTH fz (.int k b)=some (fz,.int k b):=Eq.trans rfl rfl
theorem ywv (ob:Nat→Option AObj) (fz:Nat→Nat) (b:ByteArray):frz ob DEPTH fz (.str b)=some (fz,.str b):=Eq.trans rfl rfl
theorem yyp (ob:Nat→Option AObj) (fz:Nat→Nat) (f:Bool) (es:List (List AV)):frz ob DEPTH fz (.sl f es)=some (fz,.sl false es):=Eq.trans rfl rfl
theorem ylb (ob:Nat→Option AObj) (fz:Nat→Nat):frz ob DEPTH fz .nils=some (fz,.sl false []):=Eq.trans rfl rfl
attribute [go_sem] ydy yd5 yl8 yn1 ywv yyp ylb
theorem yqf (z:Int):sgn (!decide (z<0)) z.natAbs=-z:=by
 unfold sgn
 by_cases h:z<0
 ·rw [decide_eq_true h,Bool.not_true,if_neg (by simp)];omega
 ·rw [decide_eq_false h,Bool.not_false,if_pos rfl];omega
theorem ygs (z:Int) {n:Nat} (hn:1≤n):evV E (n+1) Id.y31 [sV z]=some (sV (-z)):=by
 rw [y02 yf2]
 have hs:=y7h (!decide (z<0)) z.natAbs (-z) (yqf z) hn
 unfold sV zC zD at hs ⊢
 simp only [go_sem,Fn.y31,hs]
theorem yx9 (a b:Bool):(!(a==b))=(a !=b):=rfl
theorem y6f (a b:Int) (ha:dlen BT a.natAbs<2^40) (hb:dlen BT b.natAbs<2^40) {n:Nat} (hn:dlen BT a.natAbs+dlen BT b.natAbs+7≤n):evV E (n+1) Id.y1a [sV a,sV b]=some (sV (a*b)):=by
 rw [y02 yet]
 obtain ⟨n,rfl⟩:∃k,n=k+1:=⟨n-1,by omega⟩
 have ht:=y01 (yig a.natAbs b.natAbs ha hb (n:=n) (by omega)) (can2 (y3n _) (y3n _))
 have hs:=y7h (decide (a<0) !=decide (b<0)) (a.natAbs*b.natAbs) (a*b) (yq2 a b) (n:=n+1) (by omega)
 generalize a*b=c at hs ⊢
 generalize a.natAbs*b.natAbs=m at ht hs
 unfold sV zC zD at hs ⊢
 unfold zD at ht
 simp only [go_sem,Fn.y1a,ht,yem,yx9,hs]
def rC (q:Rat):List AV:=zC q.num++zC (q.den:Int)
def rV (q:Rat):SV:=.agg (rC q)
theorem y8y (q:Rat):CanS (rV q):=.agg _ fun x hx=>by
 simp only [rC,zC,List.mem_append,List.mem_cons,List.not_mem_nil,or_false] at hx
 rcases hx with (rfl | rfl) | (rfl | rfl)
 ·exact .bool _
 ·exact .sl _
 ·exact .bool _
 ·exact .sl _
theorem rC_eq (q:Rat):rC q=[.bool (decide (q.num<0)),zD q.num.natAbs,.bool (decide ((q.den:Int)<0)),zD q.den]:=by
 unfold rC zC
 rw [Int.natAbs_natCast]
 rfl
theorem ygg (q:Rat) (hd:dlen BT q.den<2^60) {n:Nat} (hn:1≤n):evV E (n+1) Id.y0i [rV q]=some (sV (q.den:Int)):=by
 rw [y02 y9h]
 have h0:((((digs BT q.den).length:Nat):Int)==0)=false:=by
  have:=y4u BT2 (Nat.pos_iff_ne_zero.1 q.den_pos)
  have:(digs BT q.den).length≠0:=fun e=>this (List.length_eq_zero_iff.1 e)
  simp only [beq_eq_false_iff_ne,ne_eq];omega
 unfold rV sV
 rw [rC_eq]
 unfold zC zD
 rw [Int.natAbs_natCast]
 simp only [go_sem,Fn.y0i,h0]
theorem ypz {z w:Int} (hw:w≠0) (h:w<0):ofQ z w hw=Rat.normalize (-z) (-w).natAbs (by omega):=by
 unfold ofQ
 have e:(decide (z<0) !=decide (w<0))= !decide (z<0):=by rw [decide_eq_true h];cases decide (z<0)<;>rfl
 have e2:=yqf z
 congr 1
 ·rw [e,e2]
 ·omega
theorem yqc {z w:Int} (hw:w≠0) (h:¬w<0):ofQ z w hw=Rat.normalize z w.natAbs (by omega):=by
 unfold ofQ
 have e:(decide (z<0) !=decide (w<0))=decide (z<0):=by rw [decide_eq_false h];cases decide (z<0)<;>rfl
 congr 1
 rw [e,y7c z]
theorem yah (S:Nat):6*S+20000000000000000≤KR S:=Nat.add_le_add_right (Nat.le_add_left _ _) _
theorem yaf (z w:Int) (hw:0<w) {S:Nat} (hz:z.natAbs<2^S) (hws:w.natAbs<2^S) (hS:S<2^37) {n:Nat} (hn:KR S+3≤n) (neg:Bool) (a b:Int) (hab:(neg=false∧a=z∧b=w)∨(neg=true∧-a=z∧-b=w)):evV E (n+1) Id.y1e [sV a,sV b]=some (rV (Rat.normalize z w.natAbs (by omega))):=by
 rw [y02 ygh]
 have hK:=yah S
 obtain ⟨n,rfl⟩:∃k,n=k+1:=⟨n-1,by omega⟩
 have dz:=y12 hz
 have dw:=y12 hws
 have hgc:=y01 (yvb z w hz hws hS (n:=n) (by omega)) (can2 (y1s _) (y1s _))
 obtain ⟨e1,e2⟩:=yg6 z w.natAbs (by omega)
 generalize Rat.normalize z w.natAbs _=q at e1 e2
 obtain ⟨g,hg⟩:∃g,g=z.natAbs.gcd w.natAbs:=⟨_,rfl⟩
 rw [←hg] at hgc e1 e2
 have hgp:0<g:=by rw [hg];exact Nat.gcd_pos_of_pos_right _ (by omega)
 have hgl:g≤w.natAbs:=by rw [hg];exact Nat.gcd_le_right _ (by omega)
 have dg:dlen BT g≤S:=Nat.le_trans (y5r BT2 hgl) dw
 have n1:=y01 (ygs a (n:=n) (by omega)) (can1 (y1s _))
 have n2:=y01 (ygs b (n:=n) (by omega)) (can1 (y1s _))
 have hb:decide (b<0)=neg:=by
  rcases hab with ⟨rfl,rfl,rfl⟩ | ⟨rfl,rfl,rfl⟩
  ·simp;omega
  ·simp;omega
 have hw0:decide (w<0)=false:=by simp;omega
 have hq0:decide ((q.den:Int)<0)=false:=by simp
 have hg0:decide ((g:Int)<0)=false:=by simp
 unfold rV
 rw [rC_eq,hq0]
 by_cases hg1:g=1
 ·subst hg1
  have hdig:digs BT 1=[1]:=by
   rw [y71 BT2 (by decide)]
   rw [show (1:Nat) / BT=0 from rfl,y0s]
   rfl
  rw [Nat.div_one] at e1 e2
  rw [y7c] at e1
  have e3:intE [1]=[[AV.int .i64 1]]:=rfl
  have e4:(((1:Nat):Int)==1)=true:=rfl
  have e5:((1:Int)==1)=true:=rfl
  have n0:natOf 0=some 0:=rfl
  rw [e1,e2]
  rcases hab with ⟨rfl,rfl,rfl⟩ | ⟨rfl,h1,h2⟩
  ·unfold sV zC at hgc ⊢
   rw [Int.natAbs_natCast,hg0,hw0] at hgc
   unfold zD at hgc ⊢
   rw [hdig,e3] at hgc
   simp only [go_sem,Fn.y1e,hb,hgc,e4,e5,n0]
  ·rw [h1] at n1
   rw [h2] at n2
   unfold sV zC at hgc n1 n2 ⊢
   rw [Int.natAbs_natCast,hg0,hw0] at hgc
   rw [hw0] at n2
   rw [hb] at n2
   unfold zD at hgc n1 n2 ⊢
   rw [hdig,e3] at hgc
   simp only [go_sem,Fn.y1e,hb,n1,n2,hgc,e4,e5,n0]
 ·have hz2:=y01 (yea z.natAbs g hgp (by omega) (by omega) (n:=n) (by omega)) (can2 (y3n _) (y3n _))
  have hw2:=y01 (yea w.natAbs g hgp (by omega) (by omega) (n:=n) (by omega)) (can2 (y3n _) (y3n _))
  have s1:=y7h (decide (z<0)) (z.natAbs / g) q.num e1.symm (n:=n+1) (by omega)
  have s2:=y7h false (w.natAbs / g) (q.den:Int) (by rw [e2];rfl) (n:=n+1) (by omega)
  generalize z.natAbs / g=zg at hz2 s1
  generalize w.natAbs / g=wg at hw2 s2
  generalize z.natAbs%g=zr at hz2
  generalize w.natAbs%g=wr at hw2
  have n0:natOf 0=some 0:=rfl
  unfold sV zC at s1 s2
  rw [Int.natAbs_natCast,hq0] at s2
  unfold zD at hz2 hw2 s1 s2
  by_cases hl:(digs BT g).length=1
  ·obtain ⟨x,hx⟩:=List.length_eq_one_iff.1 hl
   have hv:=y1k BT2 g
   rw [hx] at hv hz2 hw2
   have hxg:x=g:=by simpa [val] using hv
   have e3:intE [x]=[[AV.int .i64 (x:Int)]]:=rfl
   have e4:(((1:Nat):Int)==1)=true:=rfl
   have e5:(((x:Nat):Int)==1)=false:=by rw [hxg];simp only [beq_eq_false_iff_ne,ne_eq];omega
   rw [e3] at hz2 hw2
   rcases hab with ⟨rfl,rfl,rfl⟩ | ⟨rfl,h1,h2⟩
   ·unfold sV zC at hgc ⊢
    rw [Int.natAbs_natCast,hg0,hw0] at hgc
    unfold zD at hgc ⊢
    rw [hx,e3] at hgc
    simp only [go_sem,Fn.y1e,hb,hgc,e4,e5,n0,hz2,hw2,s1,s2]
   ·rw [h1] at n1
    rw [h2] at n2
    unfold sV zC at hgc n1 n2 ⊢
    rw [Int.natAbs_natCast,hg0,hw0] at hgc
    rw [hw0] at n2
    rw [hb] at n2
    unfold zD at hgc n1 n2 ⊢
    rw [hx,e3] at hgc
    simp only [go_sem,Fn.y1e,hb,n1,n2,hgc,e4,e5,n0,hz2,hw2,s1,s2]
  ·have e4:((((digs BT g).length:Nat):Int)==1)=false:=by simp only [beq_eq_false_iff_ne,ne_eq];omega
   rcases hab with ⟨rfl,rfl,rfl⟩ | ⟨rfl,h1,h2⟩
   ·unfold sV zC at hgc ⊢
    rw [Int.natAbs_natCast,hg0,hw0] at hgc
    unfold zD at hgc ⊢
    simp only [go_sem,Fn.y1e,hb,hgc,e4,n0,hz2,hw2,s1,s2]
   ·rw [h1] at n1
    rw [h2] at n2
    unfold sV zC at hgc n1 n2 ⊢
    rw [Int.natAbs_natCast,hg0,hw0] at hgc
    rw [hw0] at n2
    rw [hb] at n2
    unfold zD at hgc n1 n2 ⊢
    simp only [go_sem,Fn.y1e,hb,n1,n2,hgc,e4,n0,hz2,hw2,s1,s2]
theorem ymo (z w:Int) (hw:w≠0) {S:Nat} (hz:z.natAbs<2^S) (hws:w.natAbs<2^S) (hS:S<2^37) {n:Nat} (hn:KR S+3≤n):evV E (n+1) Id.y1e [sV z,sV w]=some (rV (ofQ z w hw)):=by
 by_cases h:w<0
 ·rw [ypz hw h]
  exact yaf (-z) (-w) (by omega) (by omega) (by omega) hS hn true z w (.inr ⟨rfl,rfl,rfl⟩)
 ·rw [yqc hw h]
  exact yaf z w (by omega) hz hws hS hn false z w (.inl ⟨rfl,rfl,rfl⟩)
theorem yzp (z d:Int) (hd:d≠0) (h1:-9223372036854775808≤z) (h2:z<9223372036854775808) (h3:-9223372036854775808≤d) (h4:d<9223372036854775808) {n:Nat} (hn:KR 64+4≤n):evV E (n+1) Id.y4k [.one (.int .i64 z),.one (.int .i64 d)]=some (rV (ofQ z d hd)):=by
 rw [y02 yhn]
 have hK:=yah 64
 have e:(2:Nat)^64=18446744073709551616:=rfl
 obtain ⟨n,rfl⟩:∃k,n=k+1:=⟨n-1,by omega⟩
 have z1:=y01 (y8m z h1 h2 (n:=n) (by omega)) (can1 (y2j _ _))
 have z2:=y01 (y8m d h3 h4 (n:=n) (by omega)) (can1 (y2j _ _))
 have hq:=y01 (ymo z d hd (S:=64) (by rw [e];omega) (by rw [e];omega) (by decide) (n:=n) (by omega)) (can2 (y1s _) (y1s _))
 generalize ofQ z d hd=q at hq ⊢
 unfold rV at hq ⊢
 rw [rC_eq] at hq ⊢
 unfold sV zC zD at z1 z2 hq
 unfold zD
 simp only [go_sem,Fn.y4k,z1,z2,hq]
theorem yws (a b:Rat) {S T:Nat} (ha:SmQ S a) (hb:SmQ T b) (hS:S+T<2^36) {n:Nat} (hn:KR (S+T)+4≤n):evV E (n+1) Id.y0y [rV a,rV b]=some (rV (a*b)):=by
 rw [y02 yaq,Rat.mul_def]
 have hK:=yah (S+T)
 obtain ⟨n,rfl⟩:∃k,n=k+1:=⟨n-1,by omega⟩
 have da:=y12 ha.den
 have db:=y12 hb.den
 have na:=y12 ha.num
 have nb:=y12 hb.num
 have d1:=y01 (ygg a (by omega) (n:=n) (by omega)) (can1 (y8y _))
 have d2:=y01 (ygg b (by omega) (n:=n) (by omega)) (can1 (y8y _))
 have m1:=y01 (y6f a.num b.num (by omega) (by omega) (n:=n) (by omega)) (can2 (y1s _) (y1s _))
 have m2:=y01 (y6f (a.den:Int) (b.den:Int) (by rw [Int.natAbs_natCast];omega) (by rw [Int.natAbs_natCast];omega) (n:=n) (by rw [Int.natAbs_natCast,Int.natAbs_natCast];omega)) (can2 (y1s _) (y1s _))
 have h1:(a.num*b.num).natAbs<2^(S+T):=by rw [Int.natAbs_mul];exact y4p ha.num hb.num
 have h2:((a.den:Int)*(b.den:Int)).natAbs<2^(S+T):=by
  rw [Int.natAbs_mul,Int.natAbs_natCast,Int.natAbs_natCast];exact y4p ha.den hb.den
 have hp:(0:Int)<(a.den:Int)*(b.den:Int):=Int.mul_pos (by have:=a.den_pos;omega) (by have:=b.den_pos;omega)
 have hq:=y01 (yaf (a.num*b.num) ((a.den:Int)*(b.den:Int)) hp h1 h2 (by omega) (n:=n) (by omega) false _ _ (.inl ⟨rfl,rfl,rfl⟩)) (can2 (y1s _) (y1s _))
 have en:Rat.normalize (a.num*b.num) ((a.den:Int)*(b.den:Int)).natAbs (by omega)=Rat.normalize (a.num*b.num) (a.den*b.den) (Nat.mul_ne_zero a.den_nz b.den_nz):=by
  congr 1
 rw [en] at hq
 generalize Rat.normalize (a.num*b.num) (a.den*b.den) _=q at hq ⊢
 generalize a.num*b.num=p at m1 hq
 generalize (a.den:Int)*(b.den:Int)=r at m2 hq
 unfold rV at d1 d2 hq ⊢
 rw [rC_eq] at d1 d2 hq
 rw [rC_eq a,rC_eq b,rC_eq q]
 unfold sV zC at d1 d2 m1 m2 hq
 rw [Int.natAbs_natCast] at d1 d2
 rw [Int.natAbs_natCast,Int.natAbs_natCast] at m2
 unfold zD at d1 d2 m1 m2 hq ⊢
 simp only [go_sem,Fn.y0y,d1,d2,m1,m2,hq]
end Go.Ev
namespace Go.Ev
open Go.Dig
def Ends (f:FuncId) (args:List SV) (r:SV):Prop:=∃N,∀n,N≤n→evV E n f args=some r
theorem Ends.of {f:FuncId} {args:List SV} {r:SV} (N:Nat) (h:∀{n},N≤n→evV E (n+1) f args=some r):Ends f args r:=
 ⟨N+1,fun n hn=>by obtain ⟨m,rfl⟩:∃m,n=m+1:=⟨n-1,by omega⟩;exact h (by omega)⟩
def Calling (f:FuncId) (args:List SV) (r:SV):Prop:=∃N,∀n,N≤n→∀(ob:Nat→Option AObj) (fz:Nat→Nat),callV (evF E n) f args ob fz=some (.fzd fz r)
theorem Ends.call {f:FuncId} {args:List SV} {r:SV} (h:Ends f args r) (hc:∀x∈args,CanS x):Calling f args r:=by
 obtain ⟨N,h⟩:=h
 exact ⟨N,fun n hn=>y01 (h n hn) hc⟩
structure Num where
 n:Int
 d:Int
 p:Nat
 n1:-9223372036854775808≤n
 n2:n<9223372036854775808
 d1:-9223372036854775808≤d
 d2:d<9223372036854775808
 p2:p<256
def Num.c (x:Num):List AV:=[.int .i64 x.n,.int .i64 x.d,.int .u8 (x.p:Int)]
def Num.den (x:Num):Int:=if x.d=0 then 1 else x.d
theorem Num.den0 (x:Num):x.den≠0:=by unfold Num.den;split<;>omega
theorem Num.denR (x:Num):-9223372036854775808≤x.den∧x.den<9223372036854775808:=by
 have h1:=x.d1
 have h2:=x.d2
 unfold Num.den;split<;>omega
def Num.base (x:Num):Rat:=ofQ x.n x.den x.den0
def Num.q (x:Num):Rat:=x.base^(x.p%4+1)
theorem Num.baseS (x:Num):SmQ 64 x.base:=SmQ.ofQ x.den0 x.n1 x.n2 x.denR.1 x.denR.2
theorem powS {a:Rat} (h:SmQ 64 a):∀k,SmQ (64*(k+1)) (a^(k+1))
 | 0=>by rw [Rat.pow_succ,Rat.pow_zero,Rat.one_mul];exact h
 | k+1=>by
  rw [Rat.pow_succ]
  exact SmQ.mono (SmQ.mul (powS h k) h) (by omega)
theorem Num.qS (x:Num):SmQ 256 x.q:=SmQ.mono (powS x.baseS (x.p%4)) (by omega)
theorem yjs {n i1 i4 i6 i7 i8:Nat} {fz:Nat→Nat} {nx:Nat} (a:Rat) (ha:SmQ 64 a) (x2 x3:SV) (c1 c2:AV) (p:Nat) (h14:i7≠i1∧i7≠i4∧i7≠i6∧i8≠i1∧i8≠i4∧i8≠i6∧i8≠i7) (hn:KR 320≤n) (hn':K 320≤n):∀(m k:Nat),k+m=p%4→∀(ob:Nat→Option AObj) (X:List (Nat×SV)),ob i1=some (.box [c1,c2,.int .u8 (p:Int)])→ob i4=some (.box (qC a))→ob i6=some (.box (rC a))→ob i7=some (.box (qC (a^(k+1))))→ob i8=some (.box (rC (a^(k+1))))→∀N,m<N→
  ∃(ob':Nat→Option AObj) (X':List (Nat×SV)),loopN (evC (evF E (n+6)) (n+6) Fn.y6h) N ⟨env ((1,.one (.box i1 0))::(2,x2)::(3,x3)::(4,.one (.box i4 0))::(6,.one (.box i6 0))::(7,.one (.box i7 0))::(8,.one (.box i8 0))::(9,.one (.int .u8 (k:Int)))::X),ob,fz,nx⟩=
   some (.ext 0,⟨env ((1,.one (.box i1 0))::(2,x2)::(3,x3)::(4,.one (.box i4 0))::(6,.one (.box i6 0))::(7,.one (.box i7 0))::(8,.one (.box i8 0))::X'),ob',fz,nx⟩)∧ob' i7=some (.box (qC (a^(p%4+1))))∧ob' i8=some (.box (rC (a^(p%4+1))))∧∀i,i≠i7→i≠i8→ob' i=ob i
 | 0,k,hk,ob,X,o1,o4,o6,o7,o8,N+1,hN=>by
  have hk':k=p%4:=by omega
  subst hk'
  refine ⟨ob,[(9,.one (.int .u8 ((p%4:Nat):Int))),(33,.one (.bool false))],y06 ?_,o7,o8,fun _ _ _=>rfl⟩
  have t4:((4:Int)=0)=False:=by simp
  have hr:((p:Int)).tmod 4=((p%4:Nat):Int):=(Int.ofNat_tmod p 4).symm
  have hl:(((p%4:Nat):Int)<((p%4:Nat):Int))=False:=by simp
  simp only [go_sem,Fn.y6h,o1,t4,hr,hl]
 | m+1,k,hk,ob,X,o1,o4,o6,o7,o8,N+1,hN=>by
  have t4:((4:Int)=0)=False:=by simp
  have hr:((p:Int)).tmod 4=((p%4:Nat):Int):=(Int.ofNat_tmod p 4).symm
  have hl:(((k:Nat):Int)<((p%4:Nat):Int))=True:=by simp;omega
  have hw:IntKind.u8.wrap ((k+1:Nat):Int)=((k+1:Nat):Int):=by rw [IntKind.wrap_u8];omega
  have hs:SmQ 256 (a^(k+1)):=SmQ.mono (powS ha k) (by omega)
  have m1:=y01 (yj6 (a^(k+1)) a hs ha (by decide) (n:=n+5) (by show K 320+_≤_;omega)) (can2 (y1b _) (y1b _)) ob fz
  have m2:=fun ob=>y01 (yws (a^(k+1)) a hs ha (by decide) (n:=n+5) (by show KR 320+_≤_;omega)) (can2 (y8y _) (y8y _)) ob fz
  rw [←Rat.pow_succ] at m1 m2
  obtain ⟨g1,g2,g3,g4,g5,g6,g7⟩:=h14
  obtain ⟨ob',X',h1,h2,h3,h4⟩:=yjs (fz:=fz) (nx:=nx) a ha x2 x3 c1 c2 p ⟨g1,g2,g3,g4,g5,g6,g7⟩ hn hn' m (k+1) (by omega) (upd (upd ob i7 (.box (qC (a^(k+1+1))))) i8 (.box (rC (a^(k+1+1))))) []
   (by rw [y00 g4.symm,y00 g1.symm];exact o1) (by rw [y00 g5.symm,y00 g2.symm];exact o4) (by rw [y00 g6.symm,y00 g3.symm];exact o6) (by rw [y00 g7.symm];exact upd_same _ _ _) (upd_same _ _ _) N (by omega)
  refine ⟨ob',X', ?_,h2,h3,fun i e7 e8=>by rw [h4 i e7 e8,y00 e8,y00 e7]⟩
  rw [←h1]
  refine y05 ?_
  have u6:∀y,upd ob i7 y i6=ob i6:=fun y=>y00 g3.symm
  have u8:∀y,upd ob i7 y i8=ob i8:=fun y=>y00 g7
  generalize a^(k+1)=b at*
  generalize a^(k+1+1)=c at*
  unfold qV at m1
  unfold rV at m2
  rw [rC_eq] at o6 o8
  rw [rC_eq b,rC_eq a,rC_eq c] at m2
  rw [rC_eq c]
  unfold qC natV at m1 o4 o7 ⊢
  unfold zD at m2 o6 o8 ⊢
  simp only [go_sem,Fn.y6h,o1,t4,hr,hl,o4,o6,o7,o8,u6,u8,m1,m2,add1,hw]
theorem nbeq (a b:Nat):Nat.beq a b=(a==b):=by
 rw [Bool.eq_iff_iff,Nat.beq_eq,beq_iff_eq]
attribute [go_sem] List.all_cons List.all_nil nbeq Nat.reduceBEq
theorem rV_eq (q:Rat):rV q=.agg [.bool (decide (q.num<0)),zD q.num.natAbs,.bool (decide ((q.den:Int)<0)),zD q.den]:=by unfold rV;rw [rC_eq]
def bothT:ACode:=match Fn.y0t.code with | .seq _ (.seq _ (.seq _ (.seq _ (.seq _ (.seq _ t)))))=>t | _=>.skip
theorem yy6 (x:Num) {n:Nat} (hn:K 320+KR 320+20≤n):evV E (n+1) Id.y0t [.agg x.c]=some (.tup [qV x.q,rV x.q]):=by
 rw [y02 yeu]
 have hK:K 64≤K 320:=y108 (by decide)
 have hR:KR 64≤KR 320:=by unfold KR;have:=Nat.pow_le_pow_right (show 0<2 by decide) (show 64≤320 by decide);omega
 obtain ⟨n,rfl⟩:∃k,n=k+6:=⟨n-6,by omega⟩
 have h1:=y01 (y10b x.n x.den x.den0 x.n1 x.n2 x.denR.1 x.denR.2 (n:=n+5) (by omega)) (can2 (y2j _ _) (y2j _ _))
 have h2:=y01 (yzp x.n x.den x.den0 x.n1 x.n2 x.denR.1 x.denR.2 (n:=n+5) (by omega)) (can2 (y2j _ _) (y2j _ _))
 have hb:=x.baseS
 rw [show ofQ x.n x.den x.den0=x.base from rfl] at h1 h2
 have hq:x.q=x.base^(x.p%4+1):=rfl
 have hc:x.c=[.int .i64 x.n,.int .i64 x.d,.int .u8 (x.p:Int)]:=rfl
 have hden:x.den=if x.d=0 then 1 else x.d:=rfl
 rw [hq,hc]
 generalize x.den=den at*
 generalize x.base=a at*
 have hlo:=fun i1 i4 i6 i7 i8 nx c1 c2 x2 x3 hne ob=>yjs (n:=n) (i1:=i1) (i4:=i4) (i6:=i6) (i7:=i7) (i8:=i8) (fz:=fz0) (nx:=nx) a hb x2 x3 c1 c2 x.p hne (by omega) (by omega) (x.p%4) 0 (by omega) ob []
 have ga:a^(0+1)=a:=by rw [Rat.pow_succ,Rat.pow_zero,Rat.one_mul]
 generalize a^(x.p%4+1)=b at*
 have key:∀(c1 c2:AV) (ob:Nat→Option AObj),ob 0=some (.box [c1,c2,.int .u8 (x.p:Int)])→ob 1=some (.box [.bool false,.nils,.nils])→ob 2=some (.box [.bool false,.nils,.bool false,.nils])→ob 11=some (.box (qC a))→ob 19=some (.box (rC a))→ob 23=some (.box (qC a))→ob 24=some (.box (rC a))→
   finV Fn.y0t.res (thenC (evF E (n+6)) (n+6) bothT (blkC 0 (loopN (evC (evF E (n+6)) (n+6) Fn.y6h) (n+6) ⟨env [(1,.one (.box 0 0)),(2,.one (.box 1 0)),(3,.one (.box 2 0)),(4,.one (.box 11 0)),(6,.one (.box 19 0)),(7,.one (.box 23 0)),(8,.one (.box 24 0)),(9,.one (.int .u8 0))],ob,fz0,27⟩)))=some (.tup [qV b,rV b]):=by
  intro c1 c2 ob o0 o1 o2 o11 o19 o23 o24
  obtain ⟨ob',X',hl,p7,p8,pr⟩:=hlo 0 11 19 23 24 27 c1 c2 (.one (.box 1 0)) (.one (.box 2 0)) (by decide) ob o0 o11 o19 (by rw [ga];exact o23) (by rw [ga];exact o24) (n+6) (by omega)
  rw [show ((0:Nat):Int)=0 from rfl] at hl
  have q1:ob' 1=_:=(pr 1 (by decide) (by decide)).trans o1
  have q2:ob' 2=_:=(pr 2 (by decide) (by decide)).trans o2
  have u2:∀y,upd ob' 1 y 2=ob' 2:=fun y=>y00 (by decide)
  rw [rC_eq] at p8
  rw [rV_eq]
  unfold qC natV at p7
  unfold zD at p8
  unfold qV qC natV zD
  unfold bothT Fn.y0t
  simp only [go_sem,hl,p7,p8,q1,q2,u2]
 rw [rV_eq] at h2
 unfold qV qC natV at h1
 unfold zD at h2
 by_cases hd:x.d=0
 ·rw [if_pos hd] at hden
  have e0:(x.d==0)=true:=by simp [hd]
  rw [hden] at h1 h2
  unfold Fn.y0t
  simp only [go_sem,e0,h1,h2]
  exact key _ _ _ rfl rfl rfl rfl rfl rfl rfl
 ·rw [if_neg hd] at hden
  have e0:(x.d==0)=false:=by simp [hd]
  rw [hden] at h1 h2
  unfold Fn.y0t
  simp only [go_sem,e0,h1,h2]
  exact key _ _ _ rfl rfl rfl rfl rfl rfl rfl
end Go.Ev
namespace Go.Ev
open Go.Dig
def Fz (x:AV):Prop:=∀(ob:Nat→Option AObj) (fz:Nat→Nat),frz ob DEPTH fz x=some (fz,x)
theorem Canon.fz {x:AV} (h:Canon x):Fz x:=fun ob fz=>h.frz ob 7 fz
def CanL (l:List AV):Prop:=∀x∈l,Canon x
theorem CanL.nil:CanL []:=fun _ h=>by simp at h
theorem CanL.cons {x:AV} {l:List AV} (h:Canon x) (hl:CanL l):CanL (x::l):=fun y hy=>by
 rcases List.mem_cons.1 hy with rfl | e
 ·exact h
 ·exact hl y e
theorem CanL.app {l m:List AV} (h:CanL l) (hm:CanL m):CanL (l++m):=fun y hy=>by
 rcases List.mem_append.1 hy with e | e
 ·exact h y e
 ·exact hm y e
theorem CanL.q (q:Rat):CanL (qC q):=.cons (.bool _) (.cons (.sl _) (.cons (.sl _) .nil))
theorem CanL.r (q:Rat):CanL (rC q):=by
 rw [rC_eq]
 exact .cons (.bool _) (.cons (.sl _) (.cons (.bool _) (.cons (.sl _) .nil)))
theorem CanL.num (x:Num):CanL x.c:=.cons (.int _ _) (.cons (.int _ _) (.cons (.int _ _) .nil))
theorem CanL.agg {l:List AV} (h:CanL l):CanS (.agg l):=.agg _ h
theorem can1' {l:List AV} (h:CanL l):∀x∈[SV.agg l],CanS x:=can1 h.agg
theorem y08 (q:Rat):∃a b c,qC q=[a,b,c]∧Fz a∧Fz b∧Fz c:=⟨_,_,_,rfl,(Canon.bool _).fz,(Canon.sl _).fz,(Canon.sl _).fz⟩
theorem y6q (q:Rat):∃a b c d,rC q=[a,b,c,d]∧Fz a∧Fz b∧Fz c∧Fz d:=⟨_,_,_,_,rfl,(Canon.bool _).fz,(Canon.sl _).fz,(Canon.bool _).fz,(Canon.sl _).fz⟩
theorem yum (x:Num):Ends Id.y0t [.agg x.c] (.tup [.agg (qC x.q),.agg (rC x.q)]):=.of _ fun hn=>yy6 x hn
theorem y8v (x:Num):Calling Id.y0t [.agg x.c] (.tup [.agg (qC x.q),.agg (rC x.q)]):=(yum x).call (can1' (.num x))
theorem yp0 (x z:Num):Ends Id.y0g [.agg (x.c++z.c)] (.tup [.agg (qC x.q++qC z.q),.agg (rC x.q++rC z.q)]):=by
 obtain ⟨N1,h1⟩:=y8v x
 obtain ⟨N2,h2⟩:=y8v z
 refine .of (N1+N2) fun {n} hn=> ?_
 have h1:=h1 n (by omega)
 have h2:=h2 n (by omega)
 rw [y02 yav]
 obtain ⟨a,b,c,e1,f1,f2,f3⟩:=y08 x.q
 obtain ⟨a',b',c',e2,f1',f2',f3'⟩:=y08 z.q
 obtain ⟨p,q,r,s,e3,g1,g2,g3,g4⟩:=y6q x.q
 obtain ⟨p',q',r',s',e4,g1',g2',g3',g4'⟩:=y6q z.q
 rw [e1,e3] at h1
 rw [e2,e4] at h2
 rw [e1,e2,e3,e4]
 unfold Fz at*
 unfold Num.c at*
 simp only [go_sem,Fn.y0g,h1,h2,f1,f2,f3,f1',f2',f3',g1,g2,g3,g4,g1',g2',g3',g4']
theorem ypb (x z:Num):Calling Id.y0g [.agg (x.c++z.c)] (.tup [.agg (qC x.q++qC z.q),.agg (rC x.q++rC z.q)]):=(yp0 x z).call (can1' (.app (.num x) (.num z)))
structure Beat where
 load:Num
 angle:Num
 speed:Num
def Beat.c (b:Beat):List AV:=b.load.c++b.angle.c++b.speed.c
structure Samp where
 load:Rat
 angle:Rat
 speed:Rat
def Samp.c (s:Samp):List AV:=qC s.load++qC s.angle++qC s.speed
def Samp.r (s:Samp):List AV:=rC s.load++rC s.angle++rC s.speed
def Beat.s (b:Beat):Samp:=⟨b.load.q,b.angle.q,b.speed.q⟩
theorem CanL.beat (b:Beat):CanL b.c:=.app (.app (.num _) (.num _)) (.num _)
theorem CanL.samp (b:Samp):CanL b.c:=.app (.app (.q _) (.q _)) (.q _)
theorem CanL.sampr (b:Samp):CanL b.r:=.app (.app (.r _) (.r _)) (.r _)
theorem ys1 (b:Beat):Ends Id.y0v [.agg b.c] (.tup [.agg b.s.c,.agg b.s.r]):=by
 obtain ⟨x,z,w⟩:=b
 obtain ⟨N1,h1⟩:=y8v x
 obtain ⟨N2,h2⟩:=y8v z
 obtain ⟨N3,h3⟩:=y8v w
 refine .of (N1+N2+N3) fun {n} hn=> ?_
 have h1:=h1 n (by omega)
 have h2:=h2 n (by omega)
 have h3:=h3 n (by omega)
 rw [y02 ybi]
 unfold Beat.c Beat.s Samp.c Samp.r
 obtain ⟨a,b,c,e1,f1,f2,f3⟩:=y08 x.q
 obtain ⟨a',b',c',e2,f1',f2',f3'⟩:=y08 z.q
 obtain ⟨a'',b'',c'',e5,f1'',f2'',f3''⟩:=y08 w.q
 obtain ⟨p,q,r,s,e3,g1,g2,g3,g4⟩:=y6q x.q
 obtain ⟨p',q',r',s',e4,g1',g2',g3',g4'⟩:=y6q z.q
 obtain ⟨p'',q'',r'',s'',e6,g1'',g2'',g3'',g4''⟩:=y6q w.q
 rw [e1,e3] at h1
 rw [e2,e4] at h2
 rw [e5,e6] at h3
 simp only [e1,e2,e3,e4,e5,e6]
 unfold Fz at*
 unfold Num.c at*
 simp only [go_sem,Fn.y0v,h1,h2,h3,f1,f2,f3,f1',f2',f3',g1,g2,g3,g4,g1',g2',g3',g4',f1'',f2'',f3'',g1'',g2'',g3'',g4'']
theorem ye2 (b:Beat):Calling Id.y0v [.agg b.c] (.tup [.agg b.s.c,.agg b.s.r]):=(ys1 b).call (can1' (.beat b))
theorem y5x (s:Samp):∃c0 c1 c2 c3 c4 c5 c6 c7 c8,s.c=[c0,c1,c2,c3,c4,c5,c6,c7,c8]∧Fz c0∧Fz c1∧Fz c2∧Fz c3∧Fz c4∧Fz c5∧Fz c6∧Fz c7∧Fz c8:=by
 have h:CanL (s.c):=CanL.samp s
 obtain ⟨l,hl⟩:∃l,l=s.c:=⟨_,rfl⟩
 rw [←hl] at h ⊢
 have hn:l.length=9:=by rw [hl];rfl
 obtain ⟨c0,l,rfl⟩:∃c m,l=c::m:=by cases l with | nil=>simp at hn | cons c m=>exact ⟨c,m,rfl⟩
 obtain ⟨c1,l,rfl⟩:∃c m,l=c::m:=by cases l with | nil=>simp at hn | cons c m=>exact ⟨c,m,rfl⟩
 obtain ⟨c2,l,rfl⟩:∃c m,l=c::m:=by cases l with | nil=>simp at hn | cons c m=>exact ⟨c,m,rfl⟩
 obtain ⟨c3,l,rfl⟩:∃c m,l=c::m:=by cases l with | nil=>simp at hn | cons c m=>exact ⟨c,m,rfl⟩
 obtain ⟨c4,l,rfl⟩:∃c m,l=c::m:=by cases l with | nil=>simp at hn | cons c m=>exact ⟨c,m,rfl⟩
 obtain ⟨c5,l,rfl⟩:∃c m,l=c::m:=by cases l with | nil=>simp at hn | cons c m=>exact ⟨c,m,rfl⟩
 obtain ⟨c6,l,rfl⟩:∃c m,l=c::m:=by cases l with | nil=>simp at hn | cons c m=>exact ⟨c,m,rfl⟩
 obtain ⟨c7,l,rfl⟩:∃c m,l=c::m:=by cases l with | nil=>simp at hn | cons c m=>exact ⟨c,m,rfl⟩
 obtain ⟨c8,l,rfl⟩:∃c m,l=c::m:=by cases l with | nil=>simp at hn | cons c m=>exact ⟨c,m,rfl⟩
 have e:l=[]:=by cases l with | nil=>rfl | cons c m=>simp only [List.length_cons] at hn;omega
 subst e
 exact ⟨c0,c1,c2,c3,c4,c5,c6,c7,c8,rfl,(h c0 (by simp)).fz,(h c1 (by simp)).fz,(h c2 (by simp)).fz,(h c3 (by simp)).fz,(h c4 (by simp)).fz,(h c5 (by simp)).fz,(h c6 (by simp)).fz,(h c7 (by simp)).fz,(h c8 (by simp)).fz⟩
theorem y7g (s:Samp):∃c0 c1 c2 c3 c4 c5 c6 c7 c8 c9 c10 c11,s.r=[c0,c1,c2,c3,c4,c5,c6,c7,c8,c9,c10,c11]∧Fz c0∧Fz c1∧Fz c2∧Fz c3∧Fz c4∧Fz c5∧Fz c6∧Fz c7∧Fz c8∧Fz c9∧Fz c10∧Fz c11:=by
 have h:CanL (s.r):=CanL.sampr s
 obtain ⟨l,hl⟩:∃l,l=s.r:=⟨_,rfl⟩
 rw [←hl] at h ⊢
 have hn:l.length=12:=by rw [hl];rfl
 obtain ⟨c0,l,rfl⟩:∃c m,l=c::m:=by cases l with | nil=>simp at hn | cons c m=>exact ⟨c,m,rfl⟩
 obtain ⟨c1,l,rfl⟩:∃c m,l=c::m:=by cases l with | nil=>simp at hn | cons c m=>exact ⟨c,m,rfl⟩
 obtain ⟨c2,l,rfl⟩:∃c m,l=c::m:=by cases l with | nil=>simp at hn | cons c m=>exact ⟨c,m,rfl⟩
 obtain ⟨c3,l,rfl⟩:∃c m,l=c::m:=by cases l with | nil=>simp at hn | cons c m=>exact ⟨c,m,rfl⟩
 obtain ⟨c4,l,rfl⟩:∃c m,l=c::m:=by cases l with | nil=>simp at hn | cons c m=>exact ⟨c,m,rfl⟩
 obtain ⟨c5,l,rfl⟩:∃c m,l=c::m:=by cases l with | nil=>simp at hn | cons c m=>exact ⟨c,m,rfl⟩
 obtain ⟨c6,l,rfl⟩:∃c m,l=c::m:=by cases l with | nil=>simp at hn | cons c m=>exact ⟨c,m,rfl⟩
 obtain ⟨c7,l,rfl⟩:∃c m,l=c::m:=by cases l with | nil=>simp at hn | cons c m=>exact ⟨c,m,rfl⟩
 obtain ⟨c8,l,rfl⟩:∃c m,l=c::m:=by cases l with | nil=>simp at hn | cons c m=>exact ⟨c,m,rfl⟩
 obtain ⟨c9,l,rfl⟩:∃c m,l=c::m:=by cases l with | nil=>simp at hn | cons c m=>exact ⟨c,m,rfl⟩
 obtain ⟨c10,l,rfl⟩:∃c m,l=c::m:=by cases l with | nil=>simp at hn | cons c m=>exact ⟨c,m,rfl⟩
 obtain ⟨c11,l,rfl⟩:∃c m,l=c::m:=by cases l with | nil=>simp at hn | cons c m=>exact ⟨c,m,rfl⟩
 have e:l=[]:=by cases l with | nil=>rfl | cons c m=>simp only [List.length_cons] at hn;omega
 subst e
 exact ⟨c0,c1,c2,c3,c4,c5,c6,c7,c8,c9,c10,c11,rfl,(h c0 (by simp)).fz,(h c1 (by simp)).fz,(h c2 (by simp)).fz,(h c3 (by simp)).fz,(h c4 (by simp)).fz,(h c5 (by simp)).fz,(h c6 (by simp)).fz,(h c7 (by simp)).fz,(h c8 (by simp)).fz,(h c9 (by simp)).fz,(h c10 (by simp)).fz,(h c11 (by simp)).fz⟩
theorem y8z (b:Beat):∃c0 c1 c2 c3 c4 c5 c6 c7 c8,b.c=[c0,c1,c2,c3,c4,c5,c6,c7,c8]∧Fz c0∧Fz c1∧Fz c2∧Fz c3∧Fz c4∧Fz c5∧Fz c6∧Fz c7∧Fz c8:=by
 have h:CanL (b.c):=CanL.beat b
 obtain ⟨l,hl⟩:∃l,l=b.c:=⟨_,rfl⟩
 rw [←hl] at h ⊢
 have hn:l.length=9:=by rw [hl];rfl
 obtain ⟨c0,l,rfl⟩:∃c m,l=c::m:=by cases l with | nil=>simp at hn | cons c m=>exact ⟨c,m,rfl⟩
 obtain ⟨c1,l,rfl⟩:∃c m,l=c::m:=by cases l with | nil=>simp at hn | cons c m=>exact ⟨c,m,rfl⟩
 obtain ⟨c2,l,rfl⟩:∃c m,l=c::m:=by cases l with | nil=>simp at hn | cons c m=>exact ⟨c,m,rfl⟩
 obtain ⟨c3,l,rfl⟩:∃c m,l=c::m:=by cases l with | nil=>simp at hn | cons c m=>exact ⟨c,m,rfl⟩
 obtain ⟨c4,l,rfl⟩:∃c m,l=c::m:=by cases l with | nil=>simp at hn | cons c m=>exact ⟨c,m,rfl⟩
 obtain ⟨c5,l,rfl⟩:∃c m,l=c::m:=by cases l with | nil=>simp at hn | cons c m=>exact ⟨c,m,rfl⟩
 obtain ⟨c6,l,rfl⟩:∃c m,l=c::m:=by cases l with | nil=>simp at hn | cons c m=>exact ⟨c,m,rfl⟩
 obtain ⟨c7,l,rfl⟩:∃c m,l=c::m:=by cases l with | nil=>simp at hn | cons c m=>exact ⟨c,m,rfl⟩
 obtain ⟨c8,l,rfl⟩:∃c m,l=c::m:=by cases l with | nil=>simp at hn | cons c m=>exact ⟨c,m,rfl⟩
 have e:l=[]:=by cases l with | nil=>rfl | cons c m=>simp only [List.length_cons] at hn;omega
 subst e
 exact ⟨c0,c1,c2,c3,c4,c5,c6,c7,c8,rfl,(h c0 (by simp)).fz,(h c1 (by simp)).fz,(h c2 (by simp)).fz,(h c3 (by simp)).fz,(h c4 (by simp)).fz,(h c5 (by simp)).fz,(h c6 (by simp)).fz,(h c7 (by simp)).fz,(h c8 (by simp)).fz⟩
structure Rng where
 low:Beat
 high:Beat
def Rng.c (r:Rng):List AV:=r.low.c++r.high.c
structure Bx where
 low:Samp
 high:Samp
def Bx.c (b:Bx):List AV:=b.low.c++b.high.c
def Bx.r (b:Bx):List AV:=b.low.r++b.high.r
def Rng.b (r:Rng):Bx:=⟨r.low.s,r.high.s⟩
theorem CanL.rng (r:Rng):CanL r.c:=.app (.beat _) (.beat _)
theorem CanL.bx (b:Bx):CanL b.c:=.app (.samp _) (.samp _)
theorem CanL.bxr (b:Bx):CanL b.r:=.app (.sampr _) (.sampr _)
theorem yro (r:Rng):Ends Id.y0z [.agg r.c] (.tup [.agg r.b.c,.agg r.b.r]):=by
 obtain ⟨x,z⟩:=r
 obtain ⟨N1,h1⟩:=ye2 x
 obtain ⟨N2,h2⟩:=ye2 z
 refine .of (N1+N2) fun {n} hn=> ?_
 have h1:=h1 n (by omega)
 have h2:=h2 n (by omega)
 rw [y02 yau]
 unfold Rng.c Rng.b Bx.c Bx.r
 obtain ⟨i0,i1,i2,i3,i4,i5,i6,i7,i8,ei,fi0,fi1,fi2,fi3,fi4,fi5,fi6,fi7,fi8⟩:=y8z x
 obtain ⟨j0,j1,j2,j3,j4,j5,j6,j7,j8,ej,fj0,fj1,fj2,fj3,fj4,fj5,fj6,fj7,fj8⟩:=y8z z
 obtain ⟨a0,a1,a2,a3,a4,a5,a6,a7,a8,ea,fa0,fa1,fa2,fa3,fa4,fa5,fa6,fa7,fa8⟩:=y5x x.s
 obtain ⟨b0,b1,b2,b3,b4,b5,b6,b7,b8,eb,fb0,fb1,fb2,fb3,fb4,fb5,fb6,fb7,fb8⟩:=y5x z.s
 obtain ⟨p0,p1,p2,p3,p4,p5,p6,p7,p8,p9,p10,p11,ep,fp0,fp1,fp2,fp3,fp4,fp5,fp6,fp7,fp8,fp9,fp10,fp11⟩:=y7g x.s
 obtain ⟨q0,q1,q2,q3,q4,q5,q6,q7,q8,q9,q10,q11,eq,fq0,fq1,fq2,fq3,fq4,fq5,fq6,fq7,fq8,fq9,fq10,fq11⟩:=y7g z.s
 rw [ei,ea,ep] at h1
 rw [ej,eb,eq] at h2
 simp only [ei,ej,ea,eb,ep,eq]
 unfold Fz at*
 simp only [go_sem,Fn.y0z,h1,h2,fa0,fa1,fa2,fa3,fa4,fa5,fa6,fa7,fa8,fb0,fb1,fb2,fb3,fb4,fb5,fb6,fb7,fb8,fp0,fp1,fp2,fp3,fp4,fp5,fp6,fp7,fp8,fp9,fp10,fp11,fq0,fq1,fq2,fq3,fq4,fq5,fq6,fq7,fq8,fq9,fq10,fq11]
theorem yrq (r:Rng):Calling Id.y0z [.agg r.c] (.tup [.agg r.b.c,.agg r.b.r]):=(yro r).call (can1' (.rng r))
end Go.Ev
namespace Go.Ev
open Go.Dig
theorem y8g (a b:Nat):(a=a+b)=(b=0):=by rw [eq_iff_iff];omega
theorem y8e (a b:Nat):(a+b=a)=(b=0):=by rw [eq_iff_iff];omega
theorem yzi (a b c:Nat):(a+b<a+c)=(b<c):=by rw [eq_iff_iff];omega
attribute [go_sem] y8g y8e yzi
def OutE (sz:Nat) (ob:Nat→Option AObj) (nx:Nat) (x:AV) (es:List (List AV)):Prop:=
 (es=[]∧x=.nils)∨∃id ver,x=.rsl id ver sz 0 es.length false∧ob id=some (.row sz es ver)∧id<nx
theorem OutE.frzD {sz:Nat} {ob:Nat→Option AObj} {nx:Nat} {x:AV} {es:List (List AV)} (h:OutE sz ob nx x es) (hc:CanonEs es):∃g:(Nat→Nat)→(Nat→Nat),∀fz,frz ob DEPTH fz x=some (g fz,.sl false es):=by
 rcases h with ⟨rfl,rfl⟩ | ⟨id,ver,rfl,hid,_⟩
 ·exact ⟨fun fz=>fz,fun fz=>rfl⟩
 ·refine ⟨fun fz=>raise fz id (0+es.length),fun fz=> ?_⟩
  have hb:Nat.ble (0+es.length) es.length=true:=by simp
  rw [show DEPTH=6+1+1 from rfl,y7l,y1l hid]
  simp only [hb,cond_true,List.drop_zero,List.take_length]
  rw [hc.frz ob 6]
theorem OutE.frz {sz:Nat} {ob:Nat→Option AObj} {nx:Nat} {x:AV} {es:List (List AV)} (h:OutE sz ob nx x es) (hc:CanonEs es):∃g:(Nat→Nat)→(Nat→Nat),∀fz,frzS ob fz (.one x)=some (g fz,.one (.sl false es)):=by
 obtain ⟨g,hg⟩:=h.frzD hc
 exact ⟨g,fun fz=>by simp only [frzS,hg]⟩
def Two (ob:Nat→Option AObj) (nx sz sz' i:Nat) (x y:AV) (es fs:List (List AV)):Prop:=
 es.length=i∧fs.length=i∧((es=[]∧fs=[]∧x=.nils∧y=.nils)∨∃a va b vb,x=.rsl a va sz 0 i false∧y=.rsl b vb sz' 0 i false∧ob a=some (.row sz es va)∧ob b=some (.row sz' fs vb)∧a<nx∧b<nx∧a≠b)
theorem Two.fst {ob:Nat→Option AObj} {nx sz sz' i:Nat} {x y:AV} {es fs:List (List AV)} (h:Two ob nx sz sz' i x y es fs):OutE sz ob nx x es:=by
 obtain ⟨h1,h2,⟨e1,e2,e3,e4⟩ | ⟨a,va,b,vb,e1,e2,e3,e4,e5,e6,e7⟩⟩:=h
 ·exact .inl ⟨e1,e3⟩
 ·exact .inr ⟨a,va,by rw [h1];exact e1,e3,e5⟩
theorem Two.snd {ob:Nat→Option AObj} {nx sz sz' i:Nat} {x y:AV} {es fs:List (List AV)} (h:Two ob nx sz sz' i x y es fs):OutE sz' ob nx y fs:=by
 obtain ⟨h1,h2,⟨e1,e2,e3,e4⟩ | ⟨a,va,b,vb,e1,e2,e3,e4,e5,e6,e7⟩⟩:=h
 ·exact .inl ⟨e2,e4⟩
 ·exact .inr ⟨b,vb,by rw [h2];exact e2,e4,e6⟩
theorem y19 {ob:Nat→Option AObj} {id q ver:Nat} {y:AObj} (h:id≠q):rowAt (upd ob q y) id ver=rowAt ob id ver:=by
 unfold rowAt
 rw [y00 h]
structure Spot where
 x:Num
 z:Num
def Spot.c (p:Spot):List AV:=p.x.c++p.z.c
structure Pt where
 x:Rat
 z:Rat
def Pt.c (p:Pt):List AV:=qC p.x++qC p.z
def Pt.r (p:Pt):List AV:=rC p.x++rC p.z
def Spot.p (s:Spot):Pt:=⟨s.x.q,s.z.q⟩
theorem CanL.spot (b:Spot):CanL b.c:=.app (.num _) (.num _)
theorem CanL.pt (b:Pt):CanL b.c:=.app (.q _) (.q _)
theorem CanL.ptr (b:Pt):CanL b.r:=.app (.r _) (.r _)
theorem yo4 (s:Spot):Calling Id.y0g [.agg s.c] (.tup [.agg s.p.c,.agg s.p.r]):=ypb s.x s.z
theorem y5h {α:Type} {f:α→List AV} (h:∀a,CanL (f a)) (l:List α):CanonEs (l.map f):=fun e he x hx=>by
 obtain ⟨a,_,rfl⟩:=List.mem_map.1 he
 exact h a x hx
section
variable {fz:Nat→Nat}
theorem yol {n:Nat} {ob:Nat→Option AObj} {nx i:Nat} {x y:AV} {es fs:List (List AV)} (l:List (List AV)) (s:Spot) (gl:l[i]? =some s.c) (o6:okSz 6 l=true) (hl:l.length<2^20) (hi:i<l.length) (hc:∀ob fz,callV (evF E n) Id.y0g [.agg s.c] ob fz=some (.fzd fz (.tup [.agg s.p.c,.agg s.p.r]))) (h:Two ob nx 6 8 i x y es fs) (X:List (Nat×SV)):
  ∃(ob':Nat→Option AObj) (nx':Nat) (x' y':AV),evC (evF E n) n Fn.y4y ⟨env ((0,.one (.sl false l))::(4,.one x)::(5,.one y)::(6,.one (.int .i64 (i:Int)))::X),ob,fz,nx⟩=
   some (.nrm,⟨env [(0,.one (.sl false l)),(4,.one x'),(5,.one y'),(6,.one (.int .i64 ((i+1:Nat):Int)))],ob',fz,nx'⟩)∧Two ob' nx' 6 8 (i+1) x' y' (es++[s.p.c]) (fs++[s.p.r]):=by
 have h1:(((i:Nat):Int)<((l.length:Nat):Int))=True:=by simp;omega
 have wk:IntKind.i64.wrap ((i+1:Nat):Int)=((i+1:Nat):Int):=wi64 (by omega)
 obtain ⟨a1,a2,a3,ea,-,-,-⟩:=y08 s.p.x
 obtain ⟨b1,b2,b3,eb,-,-,-⟩:=y08 s.p.z
 obtain ⟨p1,p2,p3,p4,ep,-,-,-,-⟩:=y6q s.p.x
 obtain ⟨q1,q2,q3,q4,eq,-,-,-,-⟩:=y6q s.p.z
 have e5:s.p.c=[a1,a2,a3,b1,b2,b3]:=by unfold Pt.c;rw [ea,eb];rfl
 have e6:s.p.r=[p1,p2,p3,p4,q1,q2,q3,q4]:=by unfold Pt.r;rw [ep,eq];rfl
 have e7:s.c=[.int .i64 s.x.n,.int .i64 s.x.d,.int .u8 (s.x.p:Int),.int .i64 s.z.n,.int .i64 s.z.d,.int .u8 (s.z.p:Int)]:=rfl
 rw [e5,e6] at hc ⊢
 rw [e7] at hc gl
 obtain ⟨l1,l2,h⟩:=h
 have nxa:∀a b:Nat,nx+a+b=nx+(a+b):=fun a b=>Nat.add_assoc nx a b
 obtain ⟨r,hr0⟩:∃r,evC (evF E n) n Fn.y4y ⟨env ((0,.one (.sl false l))::(4,.one x)::(5,.one y)::(6,.one (.int .i64 (i:Int)))::X),ob,fz,nx⟩=r:=⟨_,rfl⟩
 have hr:=hr0
 rcases h with ⟨rfl,rfl,rfl,rfl⟩ | ⟨a,va,b,vb,rfl,rfl,h3,h4,h5,h6,h7⟩
 ·simp only [go_sem,Fn.y4y,h1,gl,hc,o6,okSz,ROOM,add1,wk,nxa] at hr
  rw [hr0,←hr]
  refine ⟨_,_,_,_,rfl,by simp [←l1],by simp [←l1],.inr ⟨nx+15,0,nx+19,0, ?_, ?_, ?_,upd_same _ _ _,by omega,by omega,by omega⟩⟩
  ·rw [←l1];rfl
  ·rw [←l1];rfl
  ·rw [y00 (by omega),y00 (by omega)];exact upd_same _ _ _
 ·have k1:∀k ob y ver,rowAt (upd ob (nx+k) y) a ver=rowAt ob a ver:=fun k ob y ver=>y19 (by omega)
  have k2:∀k ob y ver,rowAt (upd ob (nx+k) y) b ver=rowAt ob b ver:=fun k ob y ver=>y19 (by omega)
  have k3:∀k j ob y ver,rowAt (upd ob (nx+k+j) y) a ver=rowAt ob a ver:=fun k j ob y ver=>y19 (by omega)
  have k4:∀k j ob y ver,rowAt (upd ob (nx+k+j) y) b ver=rowAt ob b ver:=fun k j ob y ver=>y19 (by omega)
  have k5:∀ob y ver,rowAt (upd ob a y) b ver=rowAt ob b ver:=fun ob y ver=>y19 h7.symm
  have m1:∀k ob y,upd ob a y (nx+k)=ob (nx+k):=fun k ob y=>y00 (by omega)
  have b1:(i==i)=true:=by simp
  have w1:(i+1)*112≤140737488355328:=by omega
  have w2:(i+1)*128≤140737488355328:=by omega
  have hra:rowAt ob a va=some (6,es):=y1l h3
  have hrb:rowAt ob b vb=some (8,fs):=y1l h4
  simp only [go_sem,Fn.y4y,h1,gl,hc,o6,okSz,ROOM,add1,wk,nxa,k1,k2,k3,k4,k5,hra,hrb,l1,l2,m1,b1,w1,w2] at hr
  rw [hr0,←hr]
  refine ⟨_,_,_,_,rfl,by simp [l1],by simp [l2],.inr ⟨a,va+1,b,vb+1,rfl,rfl, ?_,upd_same _ _ _,by omega,by omega,h7⟩⟩
  rw [y00 h7,y00 (by omega)];exact upd_same _ _ _
theorem yi0 {n:Nat} (l:List Spot) (hl:l.length<2^20) (hc:∀s∈l,∀ob fz,callV (evF E n) Id.y0g [.agg s.c] ob fz=some (.fzd fz (.tup [.agg s.p.c,.agg s.p.r]))) (hn:l.length<n):∀(m i:Nat),i+m=l.length→∀(ob:Nat→Option AObj) (nx:Nat) (x y:AV) (X:List (Nat×SV)),Two ob nx 6 8 i x y ((l.take i).map fun s=>s.p.c) ((l.take i).map fun s=>s.p.r)→∀N,m<N→
  ∃(ob':Nat→Option AObj) (nx':Nat) (x' y':AV) (X':List (Nat×SV)),loopN (evC (evF E n) n Fn.y4y) N ⟨env ((0,.one (.sl false (l.map Spot.c)))::(4,.one x)::(5,.one y)::(6,.one (.int .i64 (i:Int)))::X),ob,fz,nx⟩=
   some (.ext 0,⟨env ((0,.one (.sl false (l.map Spot.c)))::(4,.one x')::(5,.one y')::X'),ob',fz,nx'⟩)∧Two ob' nx' 6 8 l.length x' y' (l.map fun s=>s.p.c) (l.map fun s=>s.p.r)
 | 0,i,hi,ob,nx,x,y,X,h,N+1,hN=>by
  have hi':i=l.length:=by omega
  subst hi'
  rw [List.take_length] at h
  refine ⟨ob,nx,x,y,[(6,.one (.int .i64 (l.length:Int))),(12,.one (.bool false))],y06 ?_,h⟩
  have h1:(((l.length:Nat):Int)<((l.length:Nat):Int))=False:=by simp
  simp only [go_sem,Fn.y4y,List.length_map,h1]
 | m+1,i,hi,ob,nx,x,y,X,h,N+1,hN=>by
  have hil:i<l.length:=by omega
  have gd:l[i]? =some l[i]:=by simp
  obtain ⟨ob',nx',x',y',hst,h'⟩:=yol (fz:=fz) (n:=n) (l.map Spot.c) l[i] (by rw [List.getElem?_map,gd];rfl) (by
   cases l with
   | nil=>rfl
   | cons a r=>rfl) (by simpa using hl) (by simpa using hil) (hc _ (by simp)) h X
  rw [y05 hst]
  refine yi0 l hl hc hn m (i+1) (by omega) ob' nx' x' y' [] ?_ N (by omega)
  have td:l.take (i+1)=l.take i++[l[i]]:=by rw [List.take_add_one,gd];rfl
  rw [td,List.map_append,List.map_append]
  exact h'
end
theorem y82 {α:Type} {f:FuncId} {a:α→List SV} {r:α→SV} (h:∀x,Calling f (a x) (r x)):∀(l:List α),∃N,∀n,N≤n→∀x∈l,∀(ob:Nat→Option AObj) (fz:Nat→Nat),callV (evF E n) f (a x) ob fz=some (.fzd fz (r x))
 | []=>⟨0,fun _ _ _ h=>by simp at h⟩
 | x::l=>by
  obtain ⟨N1,h1⟩:=h x
  obtain ⟨N2,h2⟩:=y82 h l
  refine ⟨N1+N2,fun n hn y hy=> ?_⟩
  rcases List.mem_cons.1 hy with rfl | e
  ·exact h1 n (by omega)
  ·exact h2 n (by omega) y e
theorem yqu (l:List Spot) (hl:l.length<2^20):Ends Id.y1z [.one (.sl false (l.map Spot.c))] (.tup [.one (.sl false (l.map fun s=>s.p.c)),.one (.sl false (l.map fun s=>s.p.r))]):=by
 obtain ⟨N,hN⟩:=y82 yo4 l
 refine .of (N+l.length+1) fun {n} hn=> ?_
 rw [y02 ye5]
 obtain ⟨ob',nx',x',y',X',hlo,h2⟩:=yi0 (fz:=fz0) (n:=n) l hl (hN n (by omega)) (by omega) l.length 0 (by omega) ob0 0 .nils .nils [] ⟨rfl,rfl,.inl ⟨rfl,rfl,rfl,rfl⟩⟩ n (by omega)
 obtain ⟨g1,h3⟩:=h2.fst.frz (y5h (fun s:Spot=>CanL.pt s.p) l)
 obtain ⟨g2,h4⟩:=h2.snd.frz (y5h (fun s:Spot=>CanL.ptr s.p) l)
 rw [show ((0:Nat):Int)=0 from rfl] at hlo
 simp only [go_sem,Fn.y1z,hlo,h3,h4]
theorem yrk (l:List Spot) (hl:l.length<2^20):Calling Id.y1z [.one (.sl false (l.map Spot.c))] (.tup [.one (.sl false (l.map fun s=>s.p.c)),.one (.sl false (l.map fun s=>s.p.r))]):=(yqu l hl).call (can1 (.one _ (.sl _)))
end Go.Ev
namespace Go.Ev
open Go.Dig
def TwoB (base:Nat) (ob:Nat→Option AObj) (nx sz sz' i:Nat) (x y:AV) (es fs:List (List AV)):Prop:=
 es.length=i∧fs.length=i∧((es=[]∧fs=[]∧x=.nils∧y=.nils)∨∃a va b vb,x=.rsl a va sz 0 i false∧y=.rsl b vb sz' 0 i false∧ob a=some (.row sz es va)∧ob b=some (.row sz' fs vb)∧a<nx∧b<nx∧a≠b∧base≤a∧base≤b)
theorem TwoB.two {base:Nat} {ob:Nat→Option AObj} {nx sz sz' i:Nat} {x y:AV} {es fs:List (List AV)} (h:TwoB base ob nx sz sz' i x y es fs):Two ob nx sz sz' i x y es fs:=by
 obtain ⟨h1,h2,h | ⟨a,va,b,vb,e1,e2,e3,e4,e5,e6,e7,_,_⟩⟩:=h
 ·exact ⟨h1,h2,.inl h⟩
 ·exact ⟨h1,h2,.inr ⟨a,va,b,vb,e1,e2,e3,e4,e5,e6,e7⟩⟩
theorem TwoB.frame {base:Nat} {ob ob':Nat→Option AObj} {nx nx' sz sz' i:Nat} {x y:AV} {es fs:List (List AV)} (h:TwoB base ob nx sz sz' i x y es fs) (hnx:nx≤nx') (hob:∀id,base≤id→id<nx→ob' id=ob id):TwoB base ob' nx' sz sz' i x y es fs:=by
 obtain ⟨h1,h2,h | ⟨a,va,b,vb,e1,e2,e3,e4,e5,e6,e7,e8,e9⟩⟩:=h
 ·exact ⟨h1,h2,.inl h⟩
 ·exact ⟨h1,h2,.inr ⟨a,va,b,vb,e1,e2,by rw [hob a e8 e5];exact e3,by rw [hob b e9 e6];exact e4,by omega,by omega,e7,e8,e9⟩⟩
structure Gate where
 from_:Nat
 to:Nat
 box:Rng
 hold:Int
def Gate.c (g:Gate):List AV:=[.int .u8 (g.from_:Int),.int .u8 (g.to:Int)]++g.box.c++[.int .i64 g.hold]
structure Guard where
 from_:Nat
 to:Nat
 box:Bx
 hold:Int
def Guard.c (g:Guard):List AV:=[.int .u8 (g.from_:Int),.int .u8 (g.to:Int)]++g.box.c++[.int .i64 g.hold]
def Guard.r (g:Guard):List AV:=[.int .u8 (g.from_:Int),.int .u8 (g.to:Int)]++g.box.r++[.int .i64 g.hold]
def Gate.g (g:Gate):Guard:=⟨g.from_,g.to,g.box.b,g.hold⟩
theorem CanL.guard (g:Guard):CanL g.c:=.app (.app (.cons (.int _ _) (.cons (.int _ _) .nil)) (.bx _)) (.cons (.int _ _) .nil)
theorem CanL.guardr (g:Guard):CanL g.r:=.app (.app (.cons (.int _ _) (.cons (.int _ _) .nil)) (.bxr _)) (.cons (.int _ _) .nil)
structure LegIds (b1 b6 b7 base:Nat):Prop where
 h1:b1<base
 h6:b6<base
 h7:b7<base
 h16:b1≠b6
 h17:b1≠b7
 h67:b6≠b7
section
variable {fz:Nat→Nat}
theorem yrc {n b1 b6 b7 base:Nat} {ob:Nat→Option AObj} {nx i:Nat} {x y u6 v6 u7 v7 c1 c2 c3 d1 d2 d3 d4 w1 w2 s1 s2 s3:AV} {x2 x3:SV} {es fs:List (List AV)} (I:LegIds b1 b6 b7 base) (hbase:base≤nx) (l:List (List AV)) (g:Gate) (gl:l[i]? =some g.c) (okz:okSz 21 l=true) (hl:l.length<2^20) (hi:i<l.length) (hc:∀ob fz,callV (evF E n) Id.y0z [.agg g.box.c] ob fz=some (.fzd fz (.tup [.agg g.box.b.c,.agg g.box.b.r]))) (o1:ob b1=some (.box [.sl false l,w1,w2,s1,s2,s3])) (o6:ob b6=some (.box [x,u6,v6,c1,c2,c3])) (o7:ob b7=some (.box [y,u7,v7,d1,d2,d3,d4])) (h:TwoB base ob nx 21 27 i x y es fs) (X:List (Nat×SV)):
  ∃(ob':Nat→Option AObj) (nx':Nat) (x' y':AV),evC (evF E n) n Fn.y3p ⟨env ((1,.one (.box b1 0))::(2,x2)::(3,x3)::(6,.one (.box b6 0))::(7,.one (.box b7 0))::(8,.one (.int .i64 (i:Int)))::X),ob,fz,nx⟩=
   some (.nrm,⟨env [(1,.one (.box b1 0)),(2,x2),(3,x3),(6,.one (.box b6 0)),(7,.one (.box b7 0)),(8,.one (.int .i64 ((i+1:Nat):Int)))],ob',fz,nx'⟩)∧TwoB base ob' nx' 21 27 (i+1) x' y' (es++[g.g.c]) (fs++[g.g.r])∧ob' b6=some (.box [x',u6,v6,c1,c2,c3])∧ob' b7=some (.box [y',u7,v7,d1,d2,d3,d4])∧base≤nx'∧nx≤nx'∧∀id,id<base→id≠b6→id≠b7→ob' id=ob id:=by
 have hlt:(((i:Nat):Int)<((l.length:Nat):Int))=True:=by simp;omega
 have w1':(i+1)*352≤140737488355328:=Nat.le_trans (Nat.mul_le_mul_right _ (show i+1≤1048576 by omega)) (Nat.le_of_ble_eq_true rfl)
 have w2':(i+1)*400≤140737488355328:=Nat.le_trans (Nat.mul_le_mul_right _ (show i+1≤1048576 by omega)) (Nat.le_of_ble_eq_true rfl)
 have wk:IntKind.i64.wrap ((i+1:Nat):Int)=((i+1:Nat):Int):=wi64 (by omega)
 obtain ⟨ci0,ci1,ci2,ci3,ci4,ci5,ci6,ci7,ci8,ei,-,-,-,-,-,-,-,-,-⟩:=y8z g.box.low
 obtain ⟨cj0,cj1,cj2,cj3,cj4,cj5,cj6,cj7,cj8,ej,-,-,-,-,-,-,-,-,-⟩:=y8z g.box.high
 obtain ⟨ca0,ca1,ca2,ca3,ca4,ca5,ca6,ca7,ca8,ea,-,-,-,-,-,-,-,-,-⟩:=y5x g.g.box.low
 obtain ⟨cb0,cb1,cb2,cb3,cb4,cb5,cb6,cb7,cb8,eb,-,-,-,-,-,-,-,-,-⟩:=y5x g.g.box.high
 obtain ⟨cp0,cp1,cp2,cp3,cp4,cp5,cp6,cp7,cp8,cp9,cp10,cp11,ep,-,-,-,-,-,-,-,-,-,-,-,-⟩:=y7g g.g.box.low
 obtain ⟨cq0,cq1,cq2,cq3,cq4,cq5,cq6,cq7,cq8,cq9,cq10,cq11,eq,-,-,-,-,-,-,-,-,-,-,-,-⟩:=y7g g.g.box.high
 have e0:g.box.c=[ci0,ci1,ci2,ci3,ci4,ci5,ci6,ci7,ci8,cj0,cj1,cj2,cj3,cj4,cj5,cj6,cj7,cj8]:=by unfold Rng.c;rw [ei,ej];rfl
 have e1:g.g.box.c=[ca0,ca1,ca2,ca3,ca4,ca5,ca6,ca7,ca8,cb0,cb1,cb2,cb3,cb4,cb5,cb6,cb7,cb8]:=by unfold Bx.c;rw [ea,eb];rfl
 have e2:g.g.box.r=[cp0,cp1,cp2,cp3,cp4,cp5,cp6,cp7,cp8,cp9,cp10,cp11,cq0,cq1,cq2,cq3,cq4,cq5,cq6,cq7,cq8,cq9,cq10,cq11]:=by unfold Bx.r;rw [ep,eq];rfl
 have e3:g.g.c=[.int .u8 (g.from_:Int),.int .u8 (g.to:Int),ca0,ca1,ca2,ca3,ca4,ca5,ca6,ca7,ca8,cb0,cb1,cb2,cb3,cb4,cb5,cb6,cb7,cb8,.int .i64 g.hold]:=by unfold Guard.c;rw [e1];rfl
 have e4:g.g.r=[.int .u8 (g.from_:Int),.int .u8 (g.to:Int),cp0,cp1,cp2,cp3,cp4,cp5,cp6,cp7,cp8,cp9,cp10,cp11,cq0,cq1,cq2,cq3,cq4,cq5,cq6,cq7,cq8,cq9,cq10,cq11,.int .i64 g.hold]:=by unfold Guard.r;rw [e2];rfl
 have e5:g.c=[.int .u8 (g.from_:Int),.int .u8 (g.to:Int),ci0,ci1,ci2,ci3,ci4,ci5,ci6,ci7,ci8,cj0,cj1,cj2,cj3,cj4,cj5,cj6,cj7,cj8,.int .i64 g.hold]:=by unfold Gate.c;rw [e0];rfl
 rw [show g.box.b=g.g.box from rfl,e0,e1,e2] at hc
 rw [e5] at gl
 rw [e3,e4]
 obtain ⟨l1,l2,h⟩:=h
 obtain ⟨j1,j6,j7,j16,j17,j67⟩:=I
 have nxa:∀a b:Nat,nx+a+b=nx+(a+b):=fun a b=>Nat.add_assoc nx a b
 have n1:∀k,(b1=nx+k)=False:=fun k=>by simp only [eq_iff_iff,iff_false,iff_true];omega
 have n6:∀k,(b6=nx+k)=False:=fun k=>by simp only [eq_iff_iff,iff_false,iff_true];omega
 have n7:∀k,(b7=nx+k)=False:=fun k=>by simp only [eq_iff_iff,iff_false,iff_true];omega
 have n6':∀k,(nx+k=b6)=False:=fun k=>by simp only [eq_iff_iff,iff_false,iff_true];omega
 have n7':∀k,(nx+k=b7)=False:=fun k=>by simp only [eq_iff_iff,iff_false,iff_true];omega
 have t1:∀k,(b1<nx+k)=True:=fun k=>by simp only [eq_iff_iff,iff_false,iff_true];omega
 have t1':(b1<nx)=True:=by simp only [eq_iff_iff,iff_false,iff_true];omega
 have t6:∀k,(b6<nx+k)=True:=fun k=>by simp only [eq_iff_iff,iff_false,iff_true];omega
 have t7:∀k,(b7<nx+k)=True:=fun k=>by simp only [eq_iff_iff,iff_false,iff_true];omega
 have t6':(b6<nx)=True:=by simp only [eq_iff_iff,iff_false,iff_true];omega
 have t7':(b7<nx)=True:=by simp only [eq_iff_iff,iff_false,iff_true];omega
 have n16:(b1=b6)=False:=by simp only [eq_iff_iff,iff_false,iff_true];omega
 have n17:(b1=b7)=False:=by simp only [eq_iff_iff,iff_false,iff_true];omega
 have n67:(b6=b7)=False:=by simp only [eq_iff_iff,iff_false,iff_true];omega
 have n76:(b7=b6)=False:=by simp only [eq_iff_iff,iff_false,iff_true];omega
 obtain ⟨r,hr0⟩:∃r,evC (evF E n) n Fn.y3p ⟨env ((1,.one (.box b1 0))::(2,x2)::(3,x3)::(6,.one (.box b6 0))::(7,.one (.box b7 0))::(8,.one (.int .i64 (i:Int)))::X),ob,fz,nx⟩=r:=⟨_,rfl⟩
 have hr:=hr0
 rcases h with ⟨rfl,rfl,rfl,rfl⟩ | ⟨a,va,b,vb,rfl,rfl,h3,h4,h5,h6,h7,h8,h9⟩
 ·simp only [go_sem,Fn.y3p,o1,o6,o7,n1,n6,n7,n6',n7',n16,n17,n67,n76,t1,t1',t6,t7,t6',t7',hlt,gl,hc,okz,okSz,ROOM,add1,wk,nxa] at hr
  rw [hr0,←hr]
  refine ⟨_,_,_,_,rfl,⟨by simp [←l1],by simp [←l1],.inr ⟨nx+37,0,nx+63,0,by subst l1;rfl,by subst l1;rfl, ?_, ?_,by omega,by omega,by omega,by omega,by omega⟩⟩, ?_, ?_,by omega,by omega, ?_⟩
  ·simp only [y0n,n1,n6,n7,n6',n7',n16,n17,n67,n76,if_false,if_true,Nat.reduceEqDiff,y8g,y8e,Nat.add_left_cancel_iff,reduceCtorEq,List.nil_append]
  ·simp only [y0n,n1,n6,n7,n6',n7',n16,n17,n67,n76,if_false,if_true,Nat.reduceEqDiff,y8g,y8e,Nat.add_left_cancel_iff,reduceCtorEq,List.nil_append]
  ·subst l1
   simp only [y0n,n1,n6,n7,n6',n7',n16,n17,n67,n76,if_false,if_true,List.length_nil]
  ·subst l1
   simp only [y0n,n1,n6,n7,n6',n7',n16,n17,n67,n76,if_false,if_true,List.length_nil]
  ·intro id q1 q2 q3
   have m0:∀k,(id=nx+k)=False:=fun k=>by simp only [eq_iff_iff,iff_false,iff_true];omega
   have m1:(id=b6)=False:=by simp only [eq_iff_iff,iff_false,iff_true];omega
   have m2:(id=b7)=False:=by simp only [eq_iff_iff,iff_false,iff_true];omega
   simp only [y0n,m0,m1,m2,if_false]
 ·have k1:∀k ob y ver,rowAt (upd ob (nx+k) y) a ver=rowAt ob a ver:=fun k ob y ver=>y19 (by omega)
  have k2:∀k ob y ver,rowAt (upd ob (nx+k) y) b ver=rowAt ob b ver:=fun k ob y ver=>y19 (by omega)
  have k3:∀ob y ver,rowAt (upd ob b6 y) b ver=rowAt ob b ver:=fun ob y ver=>y19 (by omega)
  have k4:∀ob y ver,rowAt (upd ob b7 y) b ver=rowAt ob b ver:=fun ob y ver=>y19 (by omega)
  have k5:∀ob y ver,rowAt (upd ob a y) b ver=rowAt ob b ver:=fun ob y ver=>y19 h7.symm
  have a1':(b1=a)=False:=by simp only [eq_iff_iff,iff_false,iff_true];omega
  have a6:(b6=a)=False:=by simp only [eq_iff_iff,iff_false,iff_true];omega
  have a7:(b7=a)=False:=by simp only [eq_iff_iff,iff_false,iff_true];omega
  have ab1:(b1=b)=False:=by simp only [eq_iff_iff,iff_false,iff_true];omega
  have ab6:(b6=b)=False:=by simp only [eq_iff_iff,iff_false,iff_true];omega
  have ab7:(b7=b)=False:=by simp only [eq_iff_iff,iff_false,iff_true];omega
  have an:∀k,(nx+k=a)=False:=fun k=>by simp only [eq_iff_iff,iff_false,iff_true];omega
  have bn:∀k,(nx+k=b)=False:=fun k=>by simp only [eq_iff_iff,iff_false,iff_true];omega
  have bi:(i==i)=true:=by simp
  have hra:rowAt ob a va=some (21,es):=y1l h3
  have hrb:rowAt ob b vb=some (27,fs):=y1l h4
  simp only [go_sem,Fn.y3p,o1,o6,o7,n1,n6,n7,n6',n7',n16,n17,n67,n76,t1,t1',t6,t7,t6',t7',hlt,gl,hc,okz,okSz,ROOM,add1,wk,nxa,k1,k2,k3,k4,k5,a1',a6,a7,ab1,ab6,ab7,an,bn,bi,w1',w2',hra,hrb,l1,l2] at hr
  rw [hr0,←hr]
  refine ⟨_,_,_,_,rfl,⟨by simp [l1],by simp [l2],.inr ⟨a,va+1,b,vb+1,rfl,rfl, ?_, ?_,by omega,by omega,h7,h8,h9⟩⟩, ?_, ?_,by omega,by omega, ?_⟩
  ·have z1:(a=b)=False:=by simp only [eq_iff_iff,iff_false,iff_true];omega
   have z2:∀k,(a=nx+k)=False:=fun k=>by simp only [eq_iff_iff,iff_false,iff_true];omega
   have z3:(a=b6)=False:=by simp only [eq_iff_iff,iff_false,iff_true];omega
   have z4:(a=b7)=False:=by simp only [eq_iff_iff,iff_false,iff_true];omega
   simp only [y0n,z1,z2,z3,z4,if_false,if_true]
  ·have z2:∀k,(b=nx+k)=False:=fun k=>by simp only [eq_iff_iff,iff_false,iff_true];omega
   have z3:(b=b6)=False:=by simp only [eq_iff_iff,iff_false,iff_true];omega
   have z4:(b=b7)=False:=by simp only [eq_iff_iff,iff_false,iff_true];omega
   simp only [y0n,z2,z3,z4,if_false,if_true]
  ·simp only [y0n,n1,n6,n7,n6',n7',n16,n17,n67,n76,a6,a7,ab6,ab7,if_false,if_true]
  ·simp only [y0n,n1,n6,n7,n6',n7',n16,n17,n67,n76,a6,a7,ab6,ab7,if_false,if_true]
  ·intro id q1 q2 q3
   have m0:∀k,(id=nx+k)=False:=fun k=>by simp only [eq_iff_iff,iff_false,iff_true];omega
   have m1:(id=b6)=False:=by simp only [eq_iff_iff,iff_false,iff_true];omega
   have m2:(id=b7)=False:=by simp only [eq_iff_iff,iff_false,iff_true];omega
   have m3:(id=a)=False:=by simp only [eq_iff_iff,iff_false,iff_true];omega
   have m4:(id=b)=False:=by simp only [eq_iff_iff,iff_false,iff_true];omega
   simp only [y0n,m0,m1,m2,m3,m4,if_false]
theorem yqy {n b1 b6 b7 base:Nat} {ob:Nat→Option AObj} {nx i:Nat} {x y u6 v6 u7 v7 c1 c2 c3 d1 d2 d3 d4 w1 w2 s1 s2 s3:AV} {x2 x3:SV} {es fs:List (List AV)} (I:LegIds b1 b6 b7 base) (hbase:base≤nx) (l:List (List AV)) (s:List Spot) (gl:l[i]? =some [.sl false (s.map Spot.c)]) (okz:okSz 1 l=true) (hl:l.length<2^20) (hi:i<l.length) (hc:∀ob fz,callV (evF E n) Id.y1z [.one (.sl false (s.map Spot.c))] ob fz=some (.fzd fz (.tup [.one (.sl false (s.map fun p=>p.p.c)),.one (.sl false (s.map fun p=>p.p.r))]))) (o1:ob b1=some (.box [w1,.sl false l,w2,s1,s2,s3])) (o6:ob b6=some (.box [u6,x,v6,c1,c2,c3])) (o7:ob b7=some (.box [u7,y,v7,d1,d2,d3,d4])) (h:TwoB base ob nx 1 1 i x y es fs) (X:List (Nat×SV)):
  ∃(ob':Nat→Option AObj) (nx':Nat) (x' y':AV),evC (evF E n) n Fn.y4d ⟨env ((1,.one (.box b1 0))::(2,x2)::(3,x3)::(6,.one (.box b6 0))::(7,.one (.box b7 0))::(11,.one (.int .i64 (i:Int)))::X),ob,fz,nx⟩=
   some (.nrm,⟨env [(1,.one (.box b1 0)),(2,x2),(3,x3),(6,.one (.box b6 0)),(7,.one (.box b7 0)),(11,.one (.int .i64 ((i+1:Nat):Int)))],ob',fz,nx'⟩)∧TwoB base ob' nx' 1 1 (i+1) x' y' (es++[[.sl false (s.map fun p=>p.p.c)]]) (fs++[[.sl false (s.map fun p=>p.p.r)]])∧ob' b6=some (.box [u6,x',v6,c1,c2,c3])∧ob' b7=some (.box [u7,y',v7,d1,d2,d3,d4])∧base≤nx'∧nx≤nx'∧∀id,id<base→id≠b6→id≠b7→ob' id=ob id:=by
 have hlt:(((i:Nat):Int)<((l.length:Nat):Int))=True:=by simp;omega
 have w1':(i+1)*24≤140737488355328:=Nat.le_trans (Nat.mul_le_mul_right _ (show i+1≤1048576 by omega)) (Nat.le_of_ble_eq_true rfl)
 have w2':(i+1)*24≤140737488355328:=Nat.le_trans (Nat.mul_le_mul_right _ (show i+1≤1048576 by omega)) (Nat.le_of_ble_eq_true rfl)
 have wk:IntKind.i64.wrap ((i+1:Nat):Int)=((i+1:Nat):Int):=wi64 (by omega)
 generalize s.map Spot.c=sc at*
 generalize (s.map fun p=>p.p.c)=pc at*
 generalize (s.map fun p=>p.p.r)=pr at*
 obtain ⟨l1,l2,h⟩:=h
 obtain ⟨j1,j6,j7,j16,j17,j67⟩:=I
 have nxa:∀a b:Nat,nx+a+b=nx+(a+b):=fun a b=>Nat.add_assoc nx a b
 have n1:∀k,(b1=nx+k)=False:=fun k=>by simp only [eq_iff_iff,iff_false,iff_true];omega
 have n6:∀k,(b6=nx+k)=False:=fun k=>by simp only [eq_iff_iff,iff_false,iff_true];omega
 have n7:∀k,(b7=nx+k)=False:=fun k=>by simp only [eq_iff_iff,iff_false,iff_true];omega
 have n6':∀k,(nx+k=b6)=False:=fun k=>by simp only [eq_iff_iff,iff_false,iff_true];omega
 have n7':∀k,(nx+k=b7)=False:=fun k=>by simp only [eq_iff_iff,iff_false,iff_true];omega
 have t1:∀k,(b1<nx+k)=True:=fun k=>by simp only [eq_iff_iff,iff_false,iff_true];omega
 have t1':(b1<nx)=True:=by simp only [eq_iff_iff,iff_false,iff_true];omega
 have t6:∀k,(b6<nx+k)=True:=fun k=>by simp only [eq_iff_iff,iff_false,iff_true];omega
 have t7:∀k,(b7<nx+k)=True:=fun k=>by simp only [eq_iff_iff,iff_false,iff_true];omega
 have t6':(b6<nx)=True:=by simp only [eq_iff_iff,iff_false,iff_true];omega
 have t7':(b7<nx)=True:=by simp only [eq_iff_iff,iff_false,iff_true];omega
 have n16:(b1=b6)=False:=by simp only [eq_iff_iff,iff_false,iff_true];omega
 have n17:(b1=b7)=False:=by simp only [eq_iff_iff,iff_false,iff_true];omega
 have n67:(b6=b7)=False:=by simp only [eq_iff_iff,iff_false,iff_true];omega
 have n76:(b7=b6)=False:=by simp only [eq_iff_iff,iff_false,iff_true];omega
 obtain ⟨r,hr0⟩:∃r,evC (evF E n) n Fn.y4d ⟨env ((1,.one (.box b1 0))::(2,x2)::(3,x3)::(6,.one (.box b6 0))::(7,.one (.box b7 0))::(11,.one (.int .i64 (i:Int)))::X),ob,fz,nx⟩=r:=⟨_,rfl⟩
 have hr:=hr0
 rcases h with ⟨rfl,rfl,rfl,rfl⟩ | ⟨a,va,b,vb,rfl,rfl,h3,h4,h5,h6,h7,h8,h9⟩
 ·simp only [go_sem,Fn.y4d,o1,o6,o7,n1,n6,n7,n6',n7',n16,n17,n67,n76,t1,t1',t6,t7,t6',t7',hlt,gl,hc,okz,okSz,ROOM,add1,wk,nxa] at hr
  rw [hr0,←hr]
  refine ⟨_,_,_,_,rfl,⟨by simp [←l1],by simp [←l1],.inr ⟨nx+4,0,nx+9,0,by subst l1;rfl,by subst l1;rfl, ?_, ?_,by omega,by omega,by omega,by omega,by omega⟩⟩, ?_, ?_,by omega,by omega, ?_⟩
  ·simp only [y0n,n1,n6,n7,n6',n7',n16,n17,n67,n76,if_false,if_true,Nat.reduceEqDiff,y8g,y8e,Nat.add_left_cancel_iff,reduceCtorEq,List.nil_append]
  ·simp only [y0n,n1,n6,n7,n6',n7',n16,n17,n67,n76,if_false,if_true,Nat.reduceEqDiff,y8g,y8e,Nat.add_left_cancel_iff,reduceCtorEq,List.nil_append]
  ·subst l1
   simp only [y0n,n1,n6,n7,n6',n7',n16,n17,n67,n76,if_false,if_true,List.length_nil]
  ·subst l1
   simp only [y0n,n1,n6,n7,n6',n7',n16,n17,n67,n76,if_false,if_true,List.length_nil]
  ·intro id q1 q2 q3
   have m0:∀k,(id=nx+k)=False:=fun k=>by simp only [eq_iff_iff,iff_false,iff_true];omega
   have m1:(id=b6)=False:=by simp only [eq_iff_iff,iff_false,iff_true];omega
   have m2:(id=b7)=False:=by simp only [eq_iff_iff,iff_false,iff_true];omega
   simp only [y0n,m0,m1,m2,if_false]
 ·have k1:∀k ob y ver,rowAt (upd ob (nx+k) y) a ver=rowAt ob a ver:=fun k ob y ver=>y19 (by omega)
  have k2:∀k ob y ver,rowAt (upd ob (nx+k) y) b ver=rowAt ob b ver:=fun k ob y ver=>y19 (by omega)
  have k3:∀ob y ver,rowAt (upd ob b6 y) b ver=rowAt ob b ver:=fun ob y ver=>y19 (by omega)
  have k4:∀ob y ver,rowAt (upd ob b7 y) b ver=rowAt ob b ver:=fun ob y ver=>y19 (by omega)
  have k5:∀ob y ver,rowAt (upd ob a y) b ver=rowAt ob b ver:=fun ob y ver=>y19 h7.symm
  have a1':(b1=a)=False:=by simp only [eq_iff_iff,iff_false,iff_true];omega
  have a6:(b6=a)=False:=by simp only [eq_iff_iff,iff_false,iff_true];omega
  have a7:(b7=a)=False:=by simp only [eq_iff_iff,iff_false,iff_true];omega
  have ab1:(b1=b)=False:=by simp only [eq_iff_iff,iff_false,iff_true];omega
  have ab6:(b6=b)=False:=by simp only [eq_iff_iff,iff_false,iff_true];omega
  have ab7:(b7=b)=False:=by simp only [eq_iff_iff,iff_false,iff_true];omega
  have an:∀k,(nx+k=a)=False:=fun k=>by simp only [eq_iff_iff,iff_false,iff_true];omega
  have bn:∀k,(nx+k=b)=False:=fun k=>by simp only [eq_iff_iff,iff_false,iff_true];omega
  have bi:(i==i)=true:=by simp
  have hra:rowAt ob a va=some (1,es):=y1l h3
  have hrb:rowAt ob b vb=some (1,fs):=y1l h4
  simp only [go_sem,Fn.y4d,o1,o6,o7,n1,n6,n7,n6',n7',n16,n17,n67,n76,t1,t1',t6,t7,t6',t7',hlt,gl,hc,okz,okSz,ROOM,add1,wk,nxa,k1,k2,k3,k4,k5,a1',a6,a7,ab1,ab6,ab7,an,bn,bi,w1',w2',hra,hrb,l1,l2] at hr
  rw [hr0,←hr]
  refine ⟨_,_,_,_,rfl,⟨by simp [l1],by simp [l2],.inr ⟨a,va+1,b,vb+1,rfl,rfl, ?_, ?_,by omega,by omega,h7,h8,h9⟩⟩, ?_, ?_,by omega,by omega, ?_⟩
  ·have z1:(a=b)=False:=by simp only [eq_iff_iff,iff_false,iff_true];omega
   have z2:∀k,(a=nx+k)=False:=fun k=>by simp only [eq_iff_iff,iff_false,iff_true];omega
   have z3:(a=b6)=False:=by simp only [eq_iff_iff,iff_false,iff_true];omega
   have z4:(a=b7)=False:=by simp only [eq_iff_iff,iff_false,iff_true];omega
   simp only [y0n,z1,z2,z3,z4,if_false,if_true]
  ·have z2:∀k,(b=nx+k)=False:=fun k=>by simp only [eq_iff_iff,iff_false,iff_true];omega
   have z3:(b=b6)=False:=by simp only [eq_iff_iff,iff_false,iff_true];omega
   have z4:(b=b7)=False:=by simp only [eq_iff_iff,iff_false,iff_true];omega
   simp only [y0n,z2,z3,z4,if_false,if_true]
  ·simp only [y0n,n1,n6,n7,n6',n7',n16,n17,n67,n76,a6,a7,ab6,ab7,if_false,if_true]
  ·simp only [y0n,n1,n6,n7,n6',n7',n16,n17,n67,n76,a6,a7,ab6,ab7,if_false,if_true]
  ·intro id q1 q2 q3
   have m0:∀k,(id=nx+k)=False:=fun k=>by simp only [eq_iff_iff,iff_false,iff_true];omega
   have m1:(id=b6)=False:=by simp only [eq_iff_iff,iff_false,iff_true];omega
   have m2:(id=b7)=False:=by simp only [eq_iff_iff,iff_false,iff_true];omega
   have m3:(id=a)=False:=by simp only [eq_iff_iff,iff_false,iff_true];omega
   have m4:(id=b)=False:=by simp only [eq_iff_iff,iff_false,iff_true];omega
   simp only [y0n,m0,m1,m2,m3,m4,if_false]
theorem yqz {n b1 b6 b7 base:Nat} {ob:Nat→Option AObj} {nx i:Nat} {x y u6 v6 u7 v7 c1 c2 c3 d1 d2 d3 d4 w1 w2 s1 s2 s3:AV} {x2 x3:SV} {es fs:List (List AV)} (I:LegIds b1 b6 b7 base) (hbase:base≤nx) (l:List (List AV)) (s:Spot) (gl:l[i]? =some s.c) (okz:okSz 6 l=true) (hl:l.length<2^20) (hi:i<l.length) (hc:∀ob fz,callV (evF E n) Id.y0g [.agg s.c] ob fz=some (.fzd fz (.tup [.agg s.p.c,.agg s.p.r]))) (o1:ob b1=some (.box [w1,w2,.sl false l,s1,s2,s3])) (o6:ob b6=some (.box [u6,v6,x,c1,c2,c3])) (o7:ob b7=some (.box [u7,v7,y,d1,d2,d3,d4])) (h:TwoB base ob nx 6 8 i x y es fs) (X:List (Nat×SV)):
  ∃(ob':Nat→Option AObj) (nx':Nat) (x' y':AV),evC (evF E n) n Fn.y4f ⟨env ((1,.one (.box b1 0))::(2,x2)::(3,x3)::(6,.one (.box b6 0))::(7,.one (.box b7 0))::(14,.one (.int .i64 (i:Int)))::X),ob,fz,nx⟩=
   some (.nrm,⟨env [(1,.one (.box b1 0)),(2,x2),(3,x3),(6,.one (.box b6 0)),(7,.one (.box b7 0)),(14,.one (.int .i64 ((i+1:Nat):Int)))],ob',fz,nx'⟩)∧TwoB base ob' nx' 6 8 (i+1) x' y' (es++[s.p.c]) (fs++[s.p.r])∧ob' b6=some (.box [u6,v6,x',c1,c2,c3])∧ob' b7=some (.box [u7,v7,y',d1,d2,d3,d4])∧base≤nx'∧nx≤nx'∧∀id,id<base→id≠b6→id≠b7→ob' id=ob id:=by
 have hlt:(((i:Nat):Int)<((l.length:Nat):Int))=True:=by simp;omega
 have w1':(i+1)*112≤140737488355328:=Nat.le_trans (Nat.mul_le_mul_right _ (show i+1≤1048576 by omega)) (Nat.le_of_ble_eq_true rfl)
 have w2':(i+1)*128≤140737488355328:=Nat.le_trans (Nat.mul_le_mul_right _ (show i+1≤1048576 by omega)) (Nat.le_of_ble_eq_true rfl)
 have wk:IntKind.i64.wrap ((i+1:Nat):Int)=((i+1:Nat):Int):=wi64 (by omega)
 obtain ⟨y1,y2,y3,ea,-,-,-⟩:=y08 s.p.x
 obtain ⟨y1',y2',y3',eb,-,-,-⟩:=y08 s.p.z
 obtain ⟨p1,p2,p3,p4,ep,-,-,-,-⟩:=y6q s.p.x
 obtain ⟨q1,q2,q3,q4,eq,-,-,-,-⟩:=y6q s.p.z
 have e5:s.p.c=[y1,y2,y3,y1',y2',y3']:=by unfold Pt.c;rw [ea,eb];rfl
 have e6:s.p.r=[p1,p2,p3,p4,q1,q2,q3,q4]:=by unfold Pt.r;rw [ep,eq];rfl
 have e7:s.c=[.int .i64 s.x.n,.int .i64 s.x.d,.int .u8 (s.x.p:Int),.int .i64 s.z.n,.int .i64 s.z.d,.int .u8 (s.z.p:Int)]:=rfl
 rw [e5,e6] at hc ⊢
 rw [e7] at hc gl
 obtain ⟨l1,l2,h⟩:=h
 obtain ⟨j1,j6,j7,j16,j17,j67⟩:=I
 have nxa:∀a b:Nat,nx+a+b=nx+(a+b):=fun a b=>Nat.add_assoc nx a b
 have n1:∀k,(b1=nx+k)=False:=fun k=>by simp only [eq_iff_iff,iff_false,iff_true];omega
 have n6:∀k,(b6=nx+k)=False:=fun k=>by simp only [eq_iff_iff,iff_false,iff_true];omega
 have n7:∀k,(b7=nx+k)=False:=fun k=>by simp only [eq_iff_iff,iff_false,iff_true];omega
 have n6':∀k,(nx+k=b6)=False:=fun k=>by simp only [eq_iff_iff,iff_false,iff_true];omega
 have n7':∀k,(nx+k=b7)=False:=fun k=>by simp only [eq_iff_iff,iff_false,iff_true];omega
 have t1:∀k,(b1<nx+k)=True:=fun k=>by simp only [eq_iff_iff,iff_false,iff_true];omega
 have t1':(b1<nx)=True:=by simp only [eq_iff_iff,iff_false,iff_true];omega
 have t6:∀k,(b6<nx+k)=True:=fun k=>by simp only [eq_iff_iff,iff_false,iff_true];omega
 have t7:∀k,(b7<nx+k)=True:=fun k=>by simp only [eq_iff_iff,iff_false,iff_true];omega
 have t6':(b6<nx)=True:=by simp only [eq_iff_iff,iff_false,iff_true];omega
 have t7':(b7<nx)=True:=by simp only [eq_iff_iff,iff_false,iff_true];omega
 have n16:(b1=b6)=False:=by simp only [eq_iff_iff,iff_false,iff_true];omega
 have n17:(b1=b7)=False:=by simp only [eq_iff_iff,iff_false,iff_true];omega
 have n67:(b6=b7)=False:=by simp only [eq_iff_iff,iff_false,iff_true];omega
 have n76:(b7=b6)=False:=by simp only [eq_iff_iff,iff_false,iff_true];omega
 obtain ⟨r,hr0⟩:∃r,evC (evF E n) n Fn.y4f ⟨env ((1,.one (.box b1 0))::(2,x2)::(3,x3)::(6,.one (.box b6 0))::(7,.one (.box b7 0))::(14,.one (.int .i64 (i:Int)))::X),ob,fz,nx⟩=r:=⟨_,rfl⟩
 have hr:=hr0
 rcases h with ⟨rfl,rfl,rfl,rfl⟩ | ⟨a,va,b,vb,rfl,rfl,h3,h4,h5,h6,h7,h8,h9⟩
 ·simp only [go_sem,Fn.y4f,o1,o6,o7,n1,n6,n7,n6',n7',n16,n17,n67,n76,t1,t1',t6,t7,t6',t7',hlt,gl,hc,okz,okSz,ROOM,add1,wk,nxa] at hr
  rw [hr0,←hr]
  refine ⟨_,_,_,_,rfl,⟨by simp [←l1],by simp [←l1],.inr ⟨nx+21,0,nx+30,0,by subst l1;rfl,by subst l1;rfl, ?_, ?_,by omega,by omega,by omega,by omega,by omega⟩⟩, ?_, ?_,by omega,by omega, ?_⟩
  ·simp only [y0n,n1,n6,n7,n6',n7',n16,n17,n67,n76,if_false,if_true,Nat.reduceEqDiff,y8g,y8e,Nat.add_left_cancel_iff,reduceCtorEq,List.nil_append]
  ·simp only [y0n,n1,n6,n7,n6',n7',n16,n17,n67,n76,if_false,if_true,Nat.reduceEqDiff,y8g,y8e,Nat.add_left_cancel_iff,reduceCtorEq,List.nil_append]
  ·subst l1
   simp only [y0n,n1,n6,n7,n6',n7',n16,n17,n67,n76,if_false,if_true,List.length_nil]
  ·subst l1
   simp only [y0n,n1,n6,n7,n6',n7',n16,n17,n67,n76,if_false,if_true,List.length_nil]
  ·intro id q1 q2 q3
   have m0:∀k,(id=nx+k)=False:=fun k=>by simp only [eq_iff_iff,iff_false,iff_true];omega
   have m1:(id=b6)=False:=by simp only [eq_iff_iff,iff_false,iff_true];omega
   have m2:(id=b7)=False:=by simp only [eq_iff_iff,iff_false,iff_true];omega
   simp only [y0n,m0,m1,m2,if_false]
 ·have k1:∀k ob y ver,rowAt (upd ob (nx+k) y) a ver=rowAt ob a ver:=fun k ob y ver=>y19 (by omega)
  have k2:∀k ob y ver,rowAt (upd ob (nx+k) y) b ver=rowAt ob b ver:=fun k ob y ver=>y19 (by omega)
  have k3:∀ob y ver,rowAt (upd ob b6 y) b ver=rowAt ob b ver:=fun ob y ver=>y19 (by omega)
  have k4:∀ob y ver,rowAt (upd ob b7 y) b ver=rowAt ob b ver:=fun ob y ver=>y19 (by omega)
  have k5:∀ob y ver,rowAt (upd ob a y) b ver=rowAt ob b ver:=fun ob y ver=>y19 h7.symm
  have a1':(b1=a)=False:=by simp only [eq_iff_iff,iff_false,iff_true];omega
  have a6:(b6=a)=False:=by simp only [eq_iff_iff,iff_false,iff_true];omega
  have a7:(b7=a)=False:=by simp only [eq_iff_iff,iff_false,iff_true];omega
  have ab1:(b1=b)=False:=by simp only [eq_iff_iff,iff_false,iff_true];omega
  have ab6:(b6=b)=False:=by simp only [eq_iff_iff,iff_false,iff_true];omega
  have ab7:(b7=b)=False:=by simp only [eq_iff_iff,iff_false,iff_true];omega
  have an:∀k,(nx+k=a)=False:=fun k=>by simp only [eq_iff_iff,iff_false,iff_true];omega
  have bn:∀k,(nx+k=b)=False:=fun k=>by simp only [eq_iff_iff,iff_false,iff_true];omega
  have bi:(i==i)=true:=by simp
  have hra:rowAt ob a va=some (6,es):=y1l h3
  have hrb:rowAt ob b vb=some (8,fs):=y1l h4
  simp only [go_sem,Fn.y4f,o1,o6,o7,n1,n6,n7,n6',n7',n16,n17,n67,n76,t1,t1',t6,t7,t6',t7',hlt,gl,hc,okz,okSz,ROOM,add1,wk,nxa,k1,k2,k3,k4,k5,a1',a6,a7,ab1,ab6,ab7,an,bn,bi,w1',w2',hra,hrb,l1,l2] at hr
  rw [hr0,←hr]
  refine ⟨_,_,_,_,rfl,⟨by simp [l1],by simp [l2],.inr ⟨a,va+1,b,vb+1,rfl,rfl, ?_, ?_,by omega,by omega,h7,h8,h9⟩⟩, ?_, ?_,by omega,by omega, ?_⟩
  ·have z1:(a=b)=False:=by simp only [eq_iff_iff,iff_false,iff_true];omega
   have z2:∀k,(a=nx+k)=False:=fun k=>by simp only [eq_iff_iff,iff_false,iff_true];omega
   have z3:(a=b6)=False:=by simp only [eq_iff_iff,iff_false,iff_true];omega
   have z4:(a=b7)=False:=by simp only [eq_iff_iff,iff_false,iff_true];omega
   simp only [y0n,z1,z2,z3,z4,if_false,if_true]
  ·have z2:∀k,(b=nx+k)=False:=fun k=>by simp only [eq_iff_iff,iff_false,iff_true];omega
   have z3:(b=b6)=False:=by simp only [eq_iff_iff,iff_false,iff_true];omega
   have z4:(b=b7)=False:=by simp only [eq_iff_iff,iff_false,iff_true];omega
   simp only [y0n,z2,z3,z4,if_false,if_true]
  ·simp only [y0n,n1,n6,n7,n6',n7',n16,n17,n67,n76,a6,a7,ab6,ab7,if_false,if_true]
  ·simp only [y0n,n1,n6,n7,n6',n7',n16,n17,n67,n76,a6,a7,ab6,ab7,if_false,if_true]
  ·intro id q1 q2 q3
   have m0:∀k,(id=nx+k)=False:=fun k=>by simp only [eq_iff_iff,iff_false,iff_true];omega
   have m1:(id=b6)=False:=by simp only [eq_iff_iff,iff_false,iff_true];omega
   have m2:(id=b7)=False:=by simp only [eq_iff_iff,iff_false,iff_true];omega
   have m3:(id=a)=False:=by simp only [eq_iff_iff,iff_false,iff_true];omega
   have m4:(id=b)=False:=by simp only [eq_iff_iff,iff_false,iff_true];omega
   simp only [y0n,m0,m1,m2,m3,m4,if_false]
end
end Go.Ev
namespace Go.Ev
open Go.Dig
section
variable {fz:Nat→Nat}
theorem yjx {n b1 b6 b7 base:Nat} {u6 v6 u7 v7 c1 c2 c3 d1 d2 d3 d4 w1 w2 s1 s2 s3:AV} {x2 x3:SV} (I:LegIds b1 b6 b7 base) (l:List (Gate)) (hl:l.length<2^20) (hc:∀g∈l,∀ob fz,callV (evF E n) Id.y0z [.agg g.box.c] ob fz=some (.fzd fz (.tup [.agg g.box.b.c,.agg g.box.b.r]))):∀(m i:Nat),i+m=l.length→∀(ob:Nat→Option AObj) (nx:Nat) (x y:AV) (X:List (Nat×SV)),base≤nx→ob b1=some (.box [.sl false (l.map Gate.c),w1,w2,s1,s2,s3])→ob b6=some (.box [x,u6,v6,c1,c2,c3])→ob b7=some (.box [y,u7,v7,d1,d2,d3,d4])→TwoB base ob nx 21 27 i x y ((l.take i).map (fun g=>g.g.c)) ((l.take i).map (fun g=>g.g.r))→∀N,m<N→
  ∃(ob':Nat→Option AObj) (nx':Nat) (x' y':AV) (X':List (Nat×SV)),loopN (evC (evF E n) n Fn.y3p) N ⟨env ((1,.one (.box b1 0))::(2,x2)::(3,x3)::(6,.one (.box b6 0))::(7,.one (.box b7 0))::(8,.one (.int .i64 (i:Int)))::X),ob,fz,nx⟩=
   some (.ext 0,⟨env ((1,.one (.box b1 0))::(2,x2)::(3,x3)::(6,.one (.box b6 0))::(7,.one (.box b7 0))::X'),ob',fz,nx'⟩)∧TwoB base ob' nx' 21 27 l.length x' y' (l.map (fun g=>g.g.c)) (l.map (fun g=>g.g.r))∧ob' b6=some (.box [x',u6,v6,c1,c2,c3])∧ob' b7=some (.box [y',u7,v7,d1,d2,d3,d4])∧nx≤nx'∧∀id,id<base→id≠b6→id≠b7→ob' id=ob id
 | 0,i,hi,ob,nx,x,y,X,hb,o1,o6,o7,h,N+1,hN=>by
  have hi':i=l.length:=by omega
  subst hi'
  rw [List.take_length] at h
  refine ⟨ob,nx,x,y,[(8,.one (.int .i64 (l.length:Int))),(31,.one (.bool false))],y06 ?_,h,o6,o7,Nat.le_refl _,fun _ _ _ _=>rfl⟩
  have h1:(((l.length:Nat):Int)<((l.length:Nat):Int))=False:=by simp
  simp only [go_sem,Fn.y3p,o1,List.length_map,h1]
 | m+1,i,hi,ob,nx,x,y,X,hb,o1,o6,o7,h,N+1,hN=>by
  have hil:i<l.length:=by omega
  have gd:l[i]? =some l[i]:=by simp
  obtain ⟨ob',nx',x',y',hst,h',p6,p7,hb',hnx,hfr⟩:=yrc (fz:=fz) (n:=n) I hb (l.map Gate.c) l[i] (by rw [List.getElem?_map,gd];rfl) (by
   cases l with
   | nil=>rfl
   | cons a r=>rfl) (by simpa using hl) (by simpa using hil) (hc _ (by simp)) o1 o6 o7 h X
  rw [y05 hst]
  have td:l.take (i+1)=l.take i++[l[i]]:=by rw [List.take_add_one,gd];rfl
  obtain ⟨ob2,nx2,x2',y2',X2,g1,g2,g3,g4,g5,g6⟩:=yjx I l hl hc m (i+1) (by omega) ob' nx' x' y' [] hb' (by rw [hfr _ I.h1 I.h16 I.h17];exact o1) p6 p7 (by
   rw [td,List.map_append,List.map_append]
   exact h') N (by omega)
  exact ⟨ob2,nx2,x2',y2',X2,g1,g2,g3,g4,Nat.le_trans hnx g5,fun id q1 q2 q3=>by rw [g6 id q1 q2 q3,hfr id q1 q2 q3]⟩
theorem yku {n b1 b6 b7 base:Nat} {u6 v6 u7 v7 c1 c2 c3 d1 d2 d3 d4 w1 w2 s1 s2 s3:AV} {x2 x3:SV} (I:LegIds b1 b6 b7 base) (l:List (List Spot)) (hl:l.length<2^20) (hc:∀s∈l,∀ob fz,callV (evF E n) Id.y1z [.one (.sl false (s.map Spot.c))] ob fz=some (.fzd fz (.tup [.one (.sl false (s.map fun p=>p.p.c)),.one (.sl false (s.map fun p=>p.p.r))]))):∀(m i:Nat),i+m=l.length→∀(ob:Nat→Option AObj) (nx:Nat) (x y:AV) (X:List (Nat×SV)),base≤nx→ob b1=some (.box [w1,.sl false (l.map (fun s=>[.sl false (s.map Spot.c)])),w2,s1,s2,s3])→ob b6=some (.box [u6,x,v6,c1,c2,c3])→ob b7=some (.box [u7,y,v7,d1,d2,d3,d4])→TwoB base ob nx 1 1 i x y ((l.take i).map (fun s=>[.sl false (s.map fun p=>p.p.c)])) ((l.take i).map (fun s=>[.sl false (s.map fun p=>p.p.r)]))→∀N,m<N→
  ∃(ob':Nat→Option AObj) (nx':Nat) (x' y':AV) (X':List (Nat×SV)),loopN (evC (evF E n) n Fn.y4d) N ⟨env ((1,.one (.box b1 0))::(2,x2)::(3,x3)::(6,.one (.box b6 0))::(7,.one (.box b7 0))::(11,.one (.int .i64 (i:Int)))::X),ob,fz,nx⟩=
   some (.ext 2,⟨env ((1,.one (.box b1 0))::(2,x2)::(3,x3)::(6,.one (.box b6 0))::(7,.one (.box b7 0))::X'),ob',fz,nx'⟩)∧TwoB base ob' nx' 1 1 l.length x' y' (l.map (fun s=>[.sl false (s.map fun p=>p.p.c)])) (l.map (fun s=>[.sl false (s.map fun p=>p.p.r)]))∧ob' b6=some (.box [u6,x',v6,c1,c2,c3])∧ob' b7=some (.box [u7,y',v7,d1,d2,d3,d4])∧nx≤nx'∧∀id,id<base→id≠b6→id≠b7→ob' id=ob id
 | 0,i,hi,ob,nx,x,y,X,hb,o1,o6,o7,h,N+1,hN=>by
  have hi':i=l.length:=by omega
  subst hi'
  rw [List.take_length] at h
  refine ⟨ob,nx,x,y,[(11,.one (.int .i64 (l.length:Int))),(98,.one (.bool false))],y06 ?_,h,o6,o7,Nat.le_refl _,fun _ _ _ _=>rfl⟩
  have h1:(((l.length:Nat):Int)<((l.length:Nat):Int))=False:=by simp
  simp only [go_sem,Fn.y4d,o1,List.length_map,h1]
 | m+1,i,hi,ob,nx,x,y,X,hb,o1,o6,o7,h,N+1,hN=>by
  have hil:i<l.length:=by omega
  have gd:l[i]? =some l[i]:=by simp
  obtain ⟨ob',nx',x',y',hst,h',p6,p7,hb',hnx,hfr⟩:=yqy (fz:=fz) (n:=n) I hb (l.map (fun s=>[.sl false (s.map Spot.c)])) l[i] (by rw [List.getElem?_map,gd];rfl) (by
   cases l with
   | nil=>rfl
   | cons a r=>rfl) (by simpa using hl) (by simpa using hil) (hc _ (by simp)) o1 o6 o7 h X
  rw [y05 hst]
  have td:l.take (i+1)=l.take i++[l[i]]:=by rw [List.take_add_one,gd];rfl
  obtain ⟨ob2,nx2,x2',y2',X2,g1,g2,g3,g4,g5,g6⟩:=yku I l hl hc m (i+1) (by omega) ob' nx' x' y' [] hb' (by rw [hfr _ I.h1 I.h16 I.h17];exact o1) p6 p7 (by
   rw [td,List.map_append,List.map_append]
   exact h') N (by omega)
  exact ⟨ob2,nx2,x2',y2',X2,g1,g2,g3,g4,Nat.le_trans hnx g5,fun id q1 q2 q3=>by rw [g6 id q1 q2 q3,hfr id q1 q2 q3]⟩
theorem yjw {n b1 b6 b7 base:Nat} {u6 v6 u7 v7 c1 c2 c3 d1 d2 d3 d4 w1 w2 s1 s2 s3:AV} {x2 x3:SV} (I:LegIds b1 b6 b7 base) (l:List (Spot)) (hl:l.length<2^20) (hc:∀s∈l,∀ob fz,callV (evF E n) Id.y0g [.agg s.c] ob fz=some (.fzd fz (.tup [.agg s.p.c,.agg s.p.r]))):∀(m i:Nat),i+m=l.length→∀(ob:Nat→Option AObj) (nx:Nat) (x y:AV) (X:List (Nat×SV)),base≤nx→ob b1=some (.box [w1,w2,.sl false (l.map Spot.c),s1,s2,s3])→ob b6=some (.box [u6,v6,x,c1,c2,c3])→ob b7=some (.box [u7,v7,y,d1,d2,d3,d4])→TwoB base ob nx 6 8 i x y ((l.take i).map (fun s=>s.p.c)) ((l.take i).map (fun s=>s.p.r))→∀N,m<N→
  ∃(ob':Nat→Option AObj) (nx':Nat) (x' y':AV) (X':List (Nat×SV)),loopN (evC (evF E n) n Fn.y4f) N ⟨env ((1,.one (.box b1 0))::(2,x2)::(3,x3)::(6,.one (.box b6 0))::(7,.one (.box b7 0))::(14,.one (.int .i64 (i:Int)))::X),ob,fz,nx⟩=
   some (.ext 4,⟨env ((1,.one (.box b1 0))::(2,x2)::(3,x3)::(6,.one (.box b6 0))::(7,.one (.box b7 0))::X'),ob',fz,nx'⟩)∧TwoB base ob' nx' 6 8 l.length x' y' (l.map (fun s=>s.p.c)) (l.map (fun s=>s.p.r))∧ob' b6=some (.box [u6,v6,x',c1,c2,c3])∧ob' b7=some (.box [u7,v7,y',d1,d2,d3,d4])∧nx≤nx'∧∀id,id<base→id≠b6→id≠b7→ob' id=ob id
 | 0,i,hi,ob,nx,x,y,X,hb,o1,o6,o7,h,N+1,hN=>by
  have hi':i=l.length:=by omega
  subst hi'
  rw [List.take_length] at h
  refine ⟨ob,nx,x,y,[(14,.one (.int .i64 (l.length:Int))),(126,.one (.bool false))],y06 ?_,h,o6,o7,Nat.le_refl _,fun _ _ _ _=>rfl⟩
  have h1:(((l.length:Nat):Int)<((l.length:Nat):Int))=False:=by simp
  simp only [go_sem,Fn.y4f,o1,List.length_map,h1]
 | m+1,i,hi,ob,nx,x,y,X,hb,o1,o6,o7,h,N+1,hN=>by
  have hil:i<l.length:=by omega
  have gd:l[i]? =some l[i]:=by simp
  obtain ⟨ob',nx',x',y',hst,h',p6,p7,hb',hnx,hfr⟩:=yqz (fz:=fz) (n:=n) I hb (l.map Spot.c) l[i] (by rw [List.getElem?_map,gd];rfl) (by
   cases l with
   | nil=>rfl
   | cons a r=>rfl) (by simpa using hl) (by simpa using hil) (hc _ (by simp)) o1 o6 o7 h X
  rw [y05 hst]
  have td:l.take (i+1)=l.take i++[l[i]]:=by rw [List.take_add_one,gd];rfl
  obtain ⟨ob2,nx2,x2',y2',X2,g1,g2,g3,g4,g5,g6⟩:=yjw I l hl hc m (i+1) (by omega) ob' nx' x' y' [] hb' (by rw [hfr _ I.h1 I.h16 I.h17];exact o1) p6 p7 (by
   rw [td,List.map_append,List.map_append]
   exact h') N (by omega)
  exact ⟨ob2,nx2,x2',y2',X2,g1,g2,g3,g4,Nat.le_trans hnx g5,fun id q1 q2 q3=>by rw [g6 id q1 q2 q3,hfr id q1 q2 q3]⟩
end
structure Leg where
 gates:List Gate
 curves:List (List Spot)
 limits:List Spot
 step:Num
def Leg.c (g:Leg):List AV:=[.sl false (g.gates.map Gate.c),.sl false (g.curves.map fun s=>[.sl false (s.map Spot.c)]),.sl false (g.limits.map Spot.c)]++g.step.c
structure Dev where
 guards:List Guard
 curves:List (List Pt)
 limits:List Pt
 step:Rat
def Dev.c (g:Dev):List AV:=[.sl false (g.guards.map Guard.c),.sl false (g.curves.map fun s=>[.sl false (s.map Pt.c)]),.sl false (g.limits.map Pt.c)]++qC g.step
def Dev.r (g:Dev):List AV:=[.sl false (g.guards.map Guard.r),.sl false (g.curves.map fun s=>[.sl false (s.map Pt.r)]),.sl false (g.limits.map Pt.r)]++rC g.step
def Leg.d (g:Leg):Dev:=⟨g.gates.map Gate.g,g.curves.map fun s=>s.map Spot.p,g.limits.map Spot.p,g.step.q⟩
theorem CanL.leg (g:Leg):CanL g.c:=.app (.cons (.sl _) (.cons (.sl _) (.cons (.sl _) .nil))) (.num _)
theorem CanL.dev (g:Dev):CanL g.c:=.app (.cons (.sl _) (.cons (.sl _) (.cons (.sl _) .nil))) (.q _)
theorem CanL.devr (g:Dev):CanL g.r:=.app (.cons (.sl _) (.cons (.sl _) (.cons (.sl _) .nil))) (.r _)
theorem OutE.frame {sz:Nat} {ob ob':Nat→Option AObj} {nx nx' base:Nat} {x:AV} {es:List (List AV)} (h:OutE sz ob nx x es):True:=trivial
theorem TwoB.out {base:Nat} {ob ob':Nat→Option AObj} {nx sz sz' i:Nat} {x y:AV} {es fs:List (List AV)} (h:TwoB base ob nx sz sz' i x y es fs) (hob:∀id,base≤id→ob' id=ob id) (he:CanonEs es) (hf:CanonEs fs):∃g g':(Nat→Nat)→(Nat→Nat),(∀fz,frz ob' DEPTH fz x=some (g fz,.sl false es))∧∀fz,frz ob' DEPTH fz y=some (g' fz,.sl false fs):=by
 have h':=(h.frame (Nat.le_refl _) (fun id q1 _=>hob id q1)).two
 obtain ⟨g,hg⟩:=h'.fst.frzD he
 obtain ⟨g',hg'⟩:=h'.snd.frzD hf
 exact ⟨g,g',hg,hg'⟩
def legT:ACode:=match Fn.y18.code with | .seq _ (.seq _ (.seq _ (.seq _ t)))=>t | _=>.skip
theorem yvf (g:Leg) (h1:g.gates.length<2^20) (h2:g.curves.length<2^20) (h2':∀c∈g.curves,c.length<2^20) (h3:g.limits.length<2^20):Ends Id.y18 [.agg g.c] (.tup [.agg g.d.c,.agg g.d.r]):=by
 obtain ⟨gs,cs,ls,st⟩:=g
 dsimp only at h1 h2 h2' h3
 obtain ⟨N1,k1⟩:=y82 (fun g:Gate=>yrq g.box) gs
 obtain ⟨N2,k2⟩:∃N,∀n,N≤n→∀s∈cs,∀ob fz,callV (evF E n) Id.y1z [.one (.sl false (s.map Spot.c))] ob fz=some (.fzd fz (.tup [.one (.sl false (s.map fun p=>p.p.c)),.one (.sl false (s.map fun p=>p.p.r))])):=by
  clear h2
  induction cs with
  | nil=>exact ⟨0,fun _ _ _ h=>by simp at h⟩
  | cons c r ih=>
   obtain ⟨Na,ka⟩:=yrk c (h2' c (by simp))
   obtain ⟨Nb,kb⟩:=ih (fun c hc=>h2' c (by simp [hc]))
   refine ⟨Na+Nb,fun n hn y hy=> ?_⟩
   rcases List.mem_cons.1 hy with rfl | e
   ·exact ka n (by omega)
   ·exact kb n (by omega) y e
 obtain ⟨N3,k3⟩:=y82 yo4 ls
 obtain ⟨N4,k4⟩:=y8v st
 refine .of (N1+N2+N3+N4+gs.length+cs.length+ls.length+1) fun {n} hn=> ?_
 have k1:=k1 n (by omega)
 have k2:=k2 n (by omega)
 have k3:=k3 n (by omega)
 have k4:=k4 n (by omega)
 rw [y02 ybu]
 obtain ⟨c1,c2,c3,e1,f1,f2,f3⟩:=y08 st.q
 obtain ⟨d1,d2,d3,d4,e2,f1',f2',f3',f4'⟩:=y6q st.q
 rw [e1,e2] at k4
 unfold Leg.d Dev.c Dev.r Leg.c
 dsimp only
 rw [e1,e2]
 simp only [List.map_map]
 have key:∀(ob:Nat→Option AObj),ob 0=some (.box [.sl false (gs.map Gate.c),.sl false (cs.map fun s=>[.sl false (s.map Spot.c)]),.sl false (ls.map Spot.c),.int .i64 st.n,.int .i64 st.d,.int .u8 (st.p:Int)])→ob 1=some (.box [.nils,.nils,.nils,.bool false,.nils,.nils])→ob 2=some (.box [.nils,.nils,.nils,.bool false,.nils,.bool false,.nils])→ob 17=some (.box [.nils,.nils,.nils,c1,c2,c3])→ob 18=some (.box [.nils,.nils,.nils,d1,d2,d3,d4])→
   finV Fn.y18.res (thenC (evF E n) n legT (blkC 0 (loopN (evC (evF E n) n Fn.y3p) n ⟨env [(1,.one (.box 0 0)),(2,.one (.box 1 0)),(3,.one (.box 2 0)),(6,.one (.box 17 0)),(7,.one (.box 18 0)),(8,.one (.int .i64 0))],ob,fz0,21⟩)))=some (.tup [.agg ([.sl false (gs.map fun g=>g.g.c),.sl false (cs.map fun s=>[.sl false (s.map fun p=>p.p.c)]),.sl false (ls.map fun s=>s.p.c)]++[c1,c2,c3]),.agg ([.sl false (gs.map fun g=>g.g.r),.sl false (cs.map fun s=>[.sl false (s.map fun p=>p.p.r)]),.sl false (ls.map fun s=>s.p.r)]++[d1,d2,d3,d4])]):=by
  intro ob o0 o1 o2 o6 o7
  have z0:((0:Nat):Int)=0:=rfl
  obtain ⟨oa,na,xa,ya,Xa,a1,a2,a3,a4,a5,a6⟩:=yjx (fz:=fz0) (n:=n) (base:=21) (x2:=.one (.box 1 0)) (x3:=.one (.box 2 0)) ⟨by omega,by omega,by omega,by omega,by omega,by omega⟩ gs h1 k1 gs.length 0 (by omega) ob 21 .nils .nils [] (Nat.le_refl _) o0 o6 o7 ⟨rfl,rfl,.inl ⟨rfl,rfl,rfl,rfl⟩⟩ n (by omega)
  have oa0:=(a6 0 (by omega) (by omega) (by omega)).trans o0
  obtain ⟨oc,nc,xc,yc,Xc,b1,b2,b3,b4,b5,b6⟩:=yku (fz:=fz0) (n:=n) (base:=na) (x2:=.one (.box 1 0)) (x3:=.one (.box 2 0)) ⟨by omega,by omega,by omega,by omega,by omega,by omega⟩ cs h2 k2 cs.length 0 (by omega) oa na .nils .nils [] (Nat.le_refl _) oa0 a3 a4 ⟨rfl,rfl,.inl ⟨rfl,rfl,rfl,rfl⟩⟩ n (by omega)
  have oc0:=(b6 0 (by omega) (by omega) (by omega)).trans oa0
  obtain ⟨od,nd,xd,yd,Xd,g1,g2,g3,g4,g5,g6⟩:=yjw (fz:=fz0) (n:=n) (base:=nc) (x2:=.one (.box 1 0)) (x3:=.one (.box 2 0)) ⟨by omega,by omega,by omega,by omega,by omega,by omega⟩ ls h3 k3 ls.length 0 (by omega) oc nc .nils .nils [] (Nat.le_refl _) oc0 b3 b4 ⟨rfl,rfl,.inl ⟨rfl,rfl,rfl,rfl⟩⟩ n (by omega)
  have q1:od 1=_:=((g6 1 (by omega) (by omega) (by omega)).trans ((b6 1 (by omega) (by omega) (by omega)).trans (a6 1 (by omega) (by omega) (by omega)))).trans o1
  have q2:od 2=_:=((g6 2 (by omega) (by omega) (by omega)).trans ((b6 2 (by omega) (by omega) (by omega)).trans (a6 2 (by omega) (by omega) (by omega)))).trans o2
  have a2:=a2.frame (ob':=od) (nx':=nd) (by omega) (fun id q1 q2=>by rw [g6 id (by omega) (by omega) (by omega),b6 id (by omega) (by omega) (by omega)])
  have b2:=b2.frame (ob':=od) (nx':=nd) (by omega) (fun id q1 q2=>g6 id (by omega) (by omega) (by omega))
  rw [z0] at a1 b1 g1
  have fin:∀(y y':AObj) id,21≤id→upd (upd od 1 y) 2 y' id=od id:=fun y y' id h=>by rw [y00 (by omega),y00 (by omega)]
  have A:=fun y y'=>a2.out (ob':=upd (upd od 1 y) 2 y') (fun id q=>fin y y' id (by omega)) (y5h (fun g:Gate=>CanL.guard g.g) gs) (y5h (fun g:Gate=>CanL.guardr g.g) gs)
  have B:=fun y y'=>b2.out (ob':=upd (upd od 1 y) 2 y') (fun id q=>fin y y' id (by omega)) (y5h (fun s:List Spot=>CanL.cons (.sl _) .nil) cs) (y5h (fun s:List Spot=>CanL.cons (.sl _) .nil) cs)
  have C:=fun y y'=>g2.out (ob':=upd (upd od 1 y) 2 y') (fun id q=>fin y y' id (by omega)) (y5h (fun s:Spot=>CanL.pt s.p) ls) (y5h (fun s:Spot=>CanL.ptr s.p) ls)
  have u2:∀y,upd od 1 y 2=od 2:=fun y=>y00 (by decide)
  obtain ⟨A1,A2,A3,A4⟩:=A (.box [xa,xc,xd,c1,c2,c3]) (.box [ya,yc,yd,d1,d2,d3,d4])
  obtain ⟨B1,B2,B3,B4⟩:=B (.box [xa,xc,xd,c1,c2,c3]) (.box [ya,yc,yd,d1,d2,d3,d4])
  obtain ⟨C1,C2,C3,C4⟩:=C (.box [xa,xc,xd,c1,c2,c3]) (.box [ya,yc,yd,d1,d2,d3,d4])
  unfold Fz at*
  have hnd:∀k,k<21→(k<nd)=True:=fun k hk=>by simp only [eq_iff_iff,iff_true];omega
  have n17:=hnd 17 (by omega)
  have n18:=hnd 18 (by omega)
  unfold legT Fn.y18
  simp only [go_sem,a1,b1,g1,q1,q2,g3,g4,u2,n17,n18,A3,A4,B3,B4,C3,C4,f1,f2,f3,f1',f2',f3',f4']
 unfold Num.c at k4 ⊢
 unfold Fn.y18
 simp only [go_sem,k4]
 refine (key _ ?_ ?_ ?_ ?_ ?_).trans ?_
 ·rfl
 ·rfl
 ·rfl
 ·rfl
 ·rfl
 ·simp only [Function.comp_def,List.map_map]
  rfl
theorem yy2 (g:Leg) (h1:g.gates.length<2^20) (h2:g.curves.length<2^20) (h2':∀c∈g.curves,c.length<2^20) (h3:g.limits.length<2^20):Calling Id.y18 [.agg g.c] (.tup [.agg g.d.c,.agg g.d.r]):=(yvf g h1 h2 h2' h3).call (can1' (.leg g))
end Go.Ev
namespace Go.Ev
open Go.Dig
section
variable {fz:Nat→Nat}
end
def smallB (g:Leg):Bool:=g.curves.all (fun c=>decide (c.length≤10))&&decide (g.gates.length≤20)&&decide (g.curves.length≤7)&&decide (g.limits.length≤7)
section
variable {F:Caller} {fuel:Nat} {ob:Nat→Option AObj} {fz:Nat→Nat} {nx:Nat}
theorem yfw (cs:List (List Spot)) (w1 w2 s1 s2 s3:AV) (hl:cs.length<2^20) (o1:ob 0=some (.box [w1,.sl false (cs.map fun s=>[.sl false (s.map Spot.c)]),w2,s1,s2,s3])):∀(m i:Nat),i+m=cs.length→∀(X:List (Nat×SV)) (N:Nat),m<N→
  if (cs.drop i).all (fun c=>decide (c.length≤10))=true then ∃X',loopN (evC F fuel Fn.y48) N ⟨env ((1,.one (.box 0 0))::(3,.one (.int .i64 (i:Int)))::X),ob,fz,nx⟩=some (.ext 0,⟨env ((1,.one (.box 0 0))::X'),ob,fz,nx⟩)
  else ∃X',loopN (evC F fuel Fn.y48) N ⟨env ((1,.one (.box 0 0))::(3,.one (.int .i64 (i:Int)))::X),ob,fz,nx⟩=some (.ret,⟨env ((2,.one (.bool false))::X'),ob,fz,nx⟩)
 | 0,i,hi,X,N+1,hN=>by
  have hi':i=cs.length:=by omega
  subst hi'
  rw [List.drop_length,List.all_nil,if_pos rfl]
  have h1:(((cs.length:Nat):Int)<((cs.length:Nat):Int))=False:=by simp
  refine ⟨[(3,.one (.int .i64 (cs.length:Int))),(8,.one (.bool false))],y06 ?_⟩
  simp only [go_sem,Fn.y48,o1,List.length_map,h1]
 | m+1,i,hi,X,N+1,hN=>by
  have hil:i<cs.length:=by omega
  have gd:cs[i]? =some cs[i]:=by simp
  have h1:(((i:Nat):Int)<((cs.length:Nat):Int))=True:=by simp;omega
  have wk:IntKind.i64.wrap ((i+1:Nat):Int)=((i+1:Nat):Int):=wi64 (by omega)
  have ge:(cs.map fun s=>[AV.sl false (s.map Spot.c)])[i]? =some [AV.sl false (cs[i].map Spot.c)]:=by rw [List.getElem?_map,gd];rfl
  have okz:okSz 1 (cs.map fun s=>[AV.sl false (s.map Spot.c)])=true:=by
   cases cs with
   | nil=>rfl
   | cons a r=>rfl
  rw [List.drop_eq_getElem_cons hil,List.all_cons]
  generalize cs[i]=c at*
  by_cases hc:c.length≤10
  ·have g1:(((c.length:Nat):Int)>10)=False:=by simp only [eq_iff_iff,iff_false];omega
   have ih:=yfw cs w1 w2 s1 s2 s3 hl o1 m (i+1) (by omega) [] N (by omega)
   rw [decide_eq_true hc,Bool.true_and]
   have hst:evC F fuel Fn.y48 ⟨env ((1,.one (.box 0 0))::(3,.one (.int .i64 (i:Int)))::X),ob,fz,nx⟩=some (.nrm,⟨env [(1,.one (.box 0 0)),(3,.one (.int .i64 ((i+1:Nat):Int)))],ob,fz,nx⟩):=by
    simp only [go_sem,Fn.y48,o1,List.length_map,h1,ge,okz,g1,add1,wk]
   rw [y05 hst]
   exact ih
  ·have g1:(((c.length:Nat):Int)>10)=True:=by simp only [eq_iff_iff,iff_true];omega
   rw [decide_eq_false hc,Bool.false_and,if_neg (by simp)]
   refine ⟨[],y34 ?_⟩
   simp only [go_sem,Fn.y48,o1,List.length_map,h1,ge,okz,g1]
end
theorem yr6 (g:Leg) (h2:g.curves.length<2^20):Ends Id.y1i [.agg g.c] (.one (.bool (smallB g))):=by
 refine .of (g.curves.length+1) fun {n} hn=> ?_
 rw [y02 ybn]
 obtain ⟨gs,cs,ls,st⟩:=g
 dsimp only at h2 hn
 unfold Leg.c smallB Num.c
 dsimp only
 have hlo:=yfw (F:=evF E n) (fuel:=n) (fz:=fz0) (nx:=2) (ob:=upd ob0 0 (.box [.sl false (gs.map Gate.c),.sl false (cs.map fun s=>[.sl false (s.map Spot.c)]),.sl false (ls.map Spot.c),.int .i64 st.n,.int .i64 st.d,.int .u8 (st.p:Int)])) cs _ _ _ _ _ h2 (upd_same _ _ _) cs.length 0 (by omega) [] n (by omega)
 rw [show ((0:Nat):Int)=0 from rfl,List.drop_zero] at hlo
 by_cases ha:cs.all (fun c=>decide (c.length≤10))=true
 ·rw [if_pos ha] at hlo
  obtain ⟨X',hlo⟩:=hlo
  rw [ha,Bool.true_and]
  have k1:(((gs.length:Nat):Int)≤20)=(gs.length≤20):=by rw [eq_iff_iff];omega
  have k2:(((cs.length:Nat):Int)≤7)=(cs.length≤7):=by rw [eq_iff_iff];omega
  have k3:(((ls.length:Nat):Int)≤7)=(ls.length≤7):=by rw [eq_iff_iff];omega
  by_cases b1:gs.length≤20<;>by_cases b2:cs.length≤7<;>simp only [go_sem,Fn.y1i,hlo,List.length_map,k1,k2,k3,b1,b2]
 ·rw [if_neg ha] at hlo
  obtain ⟨X',hlo⟩:=hlo
  rw [Bool.not_eq_true] at ha
  rw [ha]
  simp only [go_sem,Fn.y1i,hlo]
theorem yrn (g:Leg) (h2:g.curves.length<2^20):Calling Id.y1i [.agg g.c] (.one (.bool (smallB g))):=(yr6 g h2).call (can1' (.leg g))
end Go.Ev
namespace Go.Ev
open Go.RowKit
open Go.Proofs
def numD:TD:=.struct [.int .i64,.int .i64,.int .u8]
def spotD:TD:=.struct [numD,numD]
def beatD:TD:=.struct [numD,numD,numD]
def rngD:TD:=.struct [beatD,beatD]
def gateD:TD:=.struct [.int .u8,.int .u8,rngD,.int .i64]
def legD:TD:=.struct [.slice gateD,.slice (.slice spotD),.slice spotD,numD]
theorem yin {z:Int} (h:(Lit.int .i64 z).wf=true):-9223372036854775808≤z∧z<9223372036854775808:=by
 simp only [Lit.wf,Bool.and_eq_true,decide_eq_true_eq] at h
 have e1:IntKind.i64.min=-9223372036854775808:=by decide
 have e2:IntKind.i64.max=9223372036854775807:=by decide
 rw [e1,e2] at h
 omega
theorem wf_u8 {z:Int} (h:(Lit.int .u8 z).wf=true):∃n:Nat,z=(n:Int)∧n<256:=by
 simp only [Lit.wf,Bool.and_eq_true,decide_eq_true_eq] at h
 have e1:IntKind.u8.min=0:=by decide
 have e2:IntKind.u8.max=255:=by decide
 rw [e1,e2] at h
 exact ⟨z.toNat,by omega,by omega⟩
section
variable {H:Type} {d:DataW H} {xs:List AV}
theorem yaa (h:IsD numD d xs):∃x:Num,xs=x.c:=by
 unfold numD at h
 simp only [IsD,IsDs] at h
 obtain ⟨ds,-,d1,r1,y1,z1,-,rfl,⟨a,ha,-,rfl⟩,d2,r2,y2,z2,-,rfl,⟨b,hb,-,rfl⟩,d3,r3,y3,z3,-,rfl,⟨c,hc,-,rfl⟩,-,rfl⟩:=h
 have h1:=yin ha
 have h2:=yin hb
 obtain ⟨p,rfl,hp⟩:=wf_u8 hc
 exact ⟨⟨a,b,p,h1.1,h1.2,h2.1,h2.2,hp⟩,rfl⟩
theorem yoc (h:IsD spotD d xs):∃x:Spot,xs=x.c:=by
 unfold spotD at h
 simp only [IsD,IsDs] at h
 obtain ⟨ds,-,d1,r1,y1,z1,-,rfl,h1,d2,r2,y2,z2,-,rfl,h2,-,rfl⟩:=h
 obtain ⟨x,rfl⟩:=yaa h1
 obtain ⟨z,rfl⟩:=yaa h2
 exact ⟨⟨x,z⟩,by rw [List.append_nil];rfl⟩
theorem yg2 (h:IsD beatD d xs):∃x:Beat,xs=x.c:=by
 unfold beatD at h
 simp only [IsD,IsDs] at h
 obtain ⟨ds,-,d1,r1,y1,z1,-,rfl,h1,d2,r2,y2,z2,-,rfl,h2,d3,r3,y3,z3,-,rfl,h3,-,rfl⟩:=h
 obtain ⟨x,rfl⟩:=yaa h1
 obtain ⟨y,rfl⟩:=yaa h2
 obtain ⟨z,rfl⟩:=yaa h3
 exact ⟨⟨x,y,z⟩,by rw [List.append_nil,←List.append_assoc];rfl⟩
theorem yzg (h:IsD rngD d xs):∃x:Rng,xs=x.c:=by
 unfold rngD at h
 simp only [IsD,IsDs] at h
 obtain ⟨ds,-,d1,r1,y1,z1,-,rfl,h1,d2,r2,y2,z2,-,rfl,h2,-,rfl⟩:=h
 obtain ⟨x,rfl⟩:=yg2 h1
 obtain ⟨z,rfl⟩:=yg2 h2
 exact ⟨⟨x,z⟩,by rw [List.append_nil];rfl⟩
theorem yya (h:IsD gateD d xs):∃x:Gate,xs=x.c∧x.from_<256∧x.to<256:=by
 unfold gateD at h
 simp only [IsD,IsDs] at h
 obtain ⟨ds,-,d1,r1,y1,z1,-,rfl,⟨a,ha,-,rfl⟩,d2,r2,y2,z2,-,rfl,⟨b,hb,-,rfl⟩,d3,r3,y3,z3,-,rfl,h3,d4,r4,y4,z4,-,rfl,⟨c,hc,-,rfl⟩,-,rfl⟩:=h
 obtain ⟨p,rfl,hp⟩:=wf_u8 ha
 obtain ⟨q,rfl,hq⟩:=wf_u8 hb
 obtain ⟨r,rfl⟩:=yzg h3
 exact ⟨⟨p,q,r,c⟩,rfl,hp,hq⟩
theorem yqv {ds:List (DataW H)} {B:Nat} (hb:YthghhnhojdmcpaaGreat.Rows.uptoBulk (.agg ds)≤B):YthghhnhojdmcpaaGreat.Rows.uptoBulkAll ds≤B:=by
 simp only [YthghhnhojdmcpaaGreat.Rows.uptoBulk] at hb;omega
theorem y8w {x:DataW H} {ds:List (DataW H)} {B:Nat} (hb:YthghhnhojdmcpaaGreat.Rows.uptoBulkAll (x::ds)≤B):YthghhnhojdmcpaaGreat.Rows.uptoBulk x≤B∧YthghhnhojdmcpaaGreat.Rows.uptoBulkAll ds≤B:=by
 simp only [YthghhnhojdmcpaaGreat.Rows.uptoBulkAll] at hb;omega
theorem yzn {B:Nat} (h:IsD legD d xs) (hb:YthghhnhojdmcpaaGreat.Rows.uptoBulk d≤B):∃g:Leg,xs=g.c∧g.gates.length<B∧g.curves.length<B∧(∀c∈g.curves,c.length<B)∧g.limits.length<B∧∀x∈g.gates,x.from_<256∧x.to<256:=by
 unfold legD at h
 rw [IsD] at h
 simp only [IsDs] at h
 obtain ⟨ds,rfl,d1,r1,y1,z1,rfl,rfl,h1,d2,r2,y2,z2,rfl,rfl,h2,d3,r3,y3,z3,rfl,rfl,h3,d4,r4,y4,z4,-,rfl,h4,-,rfl⟩:=h
 obtain ⟨b1,hb⟩:=y8w (yqv hb)
 obtain ⟨b2,hb⟩:=y8w hb
 obtain ⟨b3,hb⟩:=y8w hb
 obtain ⟨gs,rfl,g1,g2⟩:=y9i (c:=Gate.c) (Q:=fun x=>x.from_<256∧x.to<256) (fun d xs h _=>yya h) h1 b1
 obtain ⟨cs,rfl,c1,c2⟩:=y9i (α:=List Spot) (c:=fun s=>[.sl false (s.map Spot.c)]) (Q:=fun s=>s.length<B) (fun d xs h hb=>by
  obtain ⟨l,rfl,hl,-⟩:=y9i (c:=Spot.c) (Q:=fun _=>True) (fun d xs h _=>by obtain ⟨x,hx⟩:=yoc h;exact ⟨x,hx,trivial⟩) h hb
  exact ⟨l,rfl,hl⟩) h2 b2
 obtain ⟨ls,rfl,l1,-⟩:=y9i (c:=Spot.c) (Q:=fun _=>True) (fun d xs h _=>by obtain ⟨x,hx⟩:=yoc h;exact ⟨x,hx,trivial⟩) h3 b3
 obtain ⟨x,rfl⟩:=yaa h4
 exact ⟨⟨gs,cs,ls,x⟩,by rw [List.append_nil];rfl,g1,c1,c2,l1,g2⟩
theorem ys0 {B:Nat} (h:IsD (.slice beatD) d xs) (hb:YthghhnhojdmcpaaGreat.Rows.uptoBulk d≤B):∃l:List Beat,xs=[.sl false (l.map Beat.c)]∧l.length<B:=by
 obtain ⟨l,rfl,hl,-⟩:=y9i (c:=Beat.c) (Q:=fun _=>True) (fun d xs h _=>by obtain ⟨x,hx⟩:=yg2 h;exact ⟨x,hx,trivial⟩) h hb
 exact ⟨l,rfl,hl⟩
theorem yzq (h:IsD (.int .i64) d xs):∃z:Int,xs=[.int .i64 z]∧-9223372036854775808≤z∧z<9223372036854775808:=by
 simp only [IsD] at h
 obtain ⟨z,hz,-,rfl⟩:=h
 exact ⟨z,rfl,(yin hz).1,(yin hz).2⟩
end
end Go.Ev
namespace Go.Ev
open Go.Dig
def byteE (ds:List Nat):List (List AV):=ds.map fun (d:Nat)=>[AV.int .u8 d]
theorem y9q (ds:List Nat):(byteE ds).length=ds.length:=by simp [byteE]
theorem yu4 (ds:List Nat) (k:Nat):(byteE ds)[k]? =(ds[k]?).map fun (d:Nat)=>[AV.int .u8 d]:=by simp [byteE]
theorem yty (ds:List Nat) (k d:Nat):(byteE ds).set k [AV.int .u8 d]=byteE (ds.set k d):=by simp [byteE,List.map_set]
theorem yha (o:List Nat) (d:Nat):byteE o++[[AV.int .u8 (d:Int)]]=byteE (o++[d]):=by simp [byteE]
attribute [go_sem] y9q yu4 yty
theorem ypr {ob:Nat→Option AObj} {id:Nat} {o:AObj} (h:ob id=some o):upd ob id o=ob:=by
 funext k
 by_cases e:k=id
 ·subst e;rw [upd_same,h]
 ·rw [y00 e]
section
variable {F:Caller} {fuel:Nat} {fz:Nat→Nat} {nx:Nat}
set_option maxRecDepth 100000 in
theorem yxn {id ver T:Nat} (hid:id<nx) (hfz:fz id=0) (o:List Nat) (hT:o.length=T) (hT2:T<2^60):∀(m i j:Nat),i+j+1=T→j≤m→∀(ob:Nat→Option AObj) (o':List Nat) (X:List (Nat×SV)),o'.length=T→ob id=some (.row 1 (byteE o') ver)→(∀k,k<T→o'[k]? =if k<i∨j<k then o[T-1-k]? else o[k]?)→∀N,m<N→
  ∃X',loopN (evC F fuel Fn.y45) N ⟨env ((0,.one (.rsl id ver 1 0 T false))::(2,.one (.int .i64 (i:Int)))::(3,.one (.int .i64 (j:Int)))::X),ob,fz,nx⟩=
   some (.ext 0,⟨env ((0,.one (.rsl id ver 1 0 T false))::X'),upd ob id (.row 1 (byteE o.reverse) ver),fz,nx⟩):=by
 intro m
 induction m with
 | zero=>
  intro i j hij hjm ob o' X hol hob hinv N hN
  obtain ⟨N,rfl⟩:∃k,N=k+1:=⟨N-1,by omega⟩
  have hr:o'=o.reverse:=by
   apply List.ext_getElem?
   intro k
   by_cases hk:k<T
   ·rw [hinv k hk,List.getElem?_reverse (by omega),hT]
    split
    ·rfl
    ·rw [show T-1-k=k by omega]
   ·rw [List.getElem?_eq_none (by omega),List.getElem?_eq_none (by rw [List.length_reverse];omega)]
  have hlt:(((i:Nat):Int)<((j:Nat):Int))=False:=by simp;omega
  refine ⟨[(2,.one (.int .i64 (i:Int))),(3,.one (.int .i64 (j:Int))),(9,.one (.bool false))],y06 ?_⟩
  rw [←hr,ypr hob]
  simp only [go_sem,Fn.y45,hlt]
 | succ m ih=>
  intro i j hij hjm ob o' X hol hob hinv N hN
  obtain ⟨N,rfl⟩:∃k,N=k+1:=⟨N-1,by omega⟩
  by_cases hlt':i<j
  ·have hlt:(((i:Nat):Int)<((j:Nat):Int))=True:=by simp;omega
   obtain ⟨x,gi⟩:∃x,o'[i]? =some x:=⟨o'[i],by simp⟩
   obtain ⟨y,gj⟩:∃y,o'[j]? =some y:=⟨o'[j],by simp⟩
   have w1:IntKind.i64.wrap ((i+1:Nat):Int)=((i+1:Nat):Int):=wi64 (by omega)
   have w2:IntKind.i64.wrap (((j:Nat):Int)-1)=((j-1:Nat):Int):=by rw [wrap_i64 (by omega)];omega
   have li:(i<T)=True:=by simp;omega
   have lj:(j<T)=True:=by simp;omega
   have lid:∀k,(id<nx+k)=True:=fun k=>by simp only [eq_iff_iff,iff_true];omega
   have lid0:(id<nx)=True:=by simp only [eq_iff_iff,iff_true];omega
   have hrow:rowAt ob id ver=some (1,byteE o'):=y1l hob
   have hset:(o'.set i y).length=T:=by simp [hol]
   have gj2:(o'.set i y)[j]? =some y:=by rw [List.getElem?_set_ne (by omega)];exact gj
   have hst:evC F fuel Fn.y45 ⟨env ((0,.one (.rsl id ver 1 0 T false))::(2,.one (.int .i64 (i:Int)))::(3,.one (.int .i64 (j:Int)))::X),ob,fz,nx⟩=
     some (.nrm,⟨env [(0,.one (.rsl id ver 1 0 T false)),(2,.one (.int .i64 ((i+1:Nat):Int))),(3,.one (.int .i64 ((j-1:Nat):Int)))],upd (upd ob id (.row 1 (byteE (o'.set i y)) ver)) id (.row 1 (byteE ((o'.set i y).set j x)) ver),fz,nx⟩):=by
    simp only [go_sem,Fn.y45,hlt,hob,hrow,gi,gj,gj2,li,lj,lid,lid0,hfz,hol,hset,add1,w1,w2]
   rw [y05 hst]
   obtain ⟨X',hX⟩:=ih (i+1) (j-1) (by omega) (by omega) (upd (upd ob id (.row 1 (byteE (o'.set i y)) ver)) id (.row 1 (byteE ((o'.set i y).set j x)) ver)) ((o'.set i y).set j x) [] (by simp [hol]) (upd_same _ _ _) (fun k hk=>by
    have q:=hinv k hk
    have qi:=hinv i (by omega)
    have qj:=hinv j (by omega)
    rw [if_neg (by omega)] at qi qj
    by_cases e1:k=j
    ·subst e1
     rw [List.getElem?_set_self (by simp;omega),if_pos (by omega),show T-1-k=i by omega,←qi,gi]
    ·rw [List.getElem?_set_ne (by omega)]
     by_cases e2:k=i
     ·subst e2
      rw [List.getElem?_set_self (by omega),if_pos (by omega),show T-1-k=j by omega,←qj,gj]
     ·rw [List.getElem?_set_ne (by omega),q]
      by_cases e3:k<i∨j<k
      ·rw [if_pos e3,if_pos (by omega)]
      ·rw [if_neg e3,if_neg (by omega)]) N (by omega)
   exact ⟨X',by rw [hX,y96,y96]⟩
  ·have hr:o'=o.reverse:=by
    apply List.ext_getElem?
    intro k
    by_cases hk:k<T
    ·rw [hinv k hk,List.getElem?_reverse (by omega),hT]
     split
     ·rfl
     ·rw [show T-1-k=k by omega]
    ·rw [List.getElem?_eq_none (by omega),List.getElem?_eq_none (by rw [List.length_reverse];omega)]
   have hlt:(((i:Nat):Int)<((j:Nat):Int))=False:=by simp;omega
   refine ⟨[(2,.one (.int .i64 (i:Int))),(3,.one (.int .i64 (j:Int))),(9,.one (.bool false))],y06 ?_⟩
   rw [←hr,ypr hob]
   simp only [go_sem,Fn.y45,hlt]
end
theorem yyw {n id ver:Nat} {ob:Nat→Option AObj} {fz:Nat→Nat} {nx:Nat} (hid:id<nx) (hfz:fz id=0) (o:List Nat) (h1:1≤o.length) (h2:o.length<2^60) (hob:ob id=some (.row 1 (byteE o) ver)) (hn:o.length+1≤n):
  evF E (n+1) (.fn Id.y1d) [.one (.rsl id ver 1 0 o.length false)] ⟨ob,fz,nx⟩=some (.tup [],⟨upd ob id (.row 1 (byteE o.reverse) ver),fz,nx⟩):=by
 rw [y7e y9u]
 obtain ⟨X',hX⟩:=yxn (F:=evF E n) (fuel:=n) (nx:=nx) hid hfz o rfl h2 (o.length-1) 0 (o.length-1) (by omega) (Nat.le_refl _) ob o [] rfl hob (fun k hk=>by
  rw [if_neg (by omega)]) n (by omega)
 have w1:IntKind.i64.wrap (((o.length:Nat):Int)-1)=((o.length-1:Nat):Int):=by rw [wrap_i64 (by omega)];omega
 rw [show ((0:Nat):Int)=0 from rfl] at hX
 simp only [go_sem,Fn.y1d,w1,hX,yme]
end Go.Ev
namespace Go.Ev
open Go.Dig
def padD:Nat→Nat→List Nat
 | 0,_=>[]
 | k+1,d=>d%10::padD k (d / 10)
theorem ymp {q:Nat} (hq:q≠0):∀(k d:Nat),d<10^k→digs 10 (d+10^k*q)=padD k d++digs 10 q
 | 0,d,h=>by
  have:d=0:=by simpa using h
  subst this
  simp [padD]
 | k+1,d,h=>by
  have hp:0<10^(k+1)*q:=Nat.mul_pos (Nat.pow_pos (by decide)) (Nat.pos_of_ne_zero hq)
  rw [y71 (by decide) (by omega)]
  have e:10^(k+1)*q=10*(10^k*q):=by rw [Nat.pow_succ];rw [Nat.mul_comm (10^k) 10,Nat.mul_assoc]
  have e1:(d+10^(k+1)*q)%10=d%10:=by omega
  have e2:(d+10^(k+1)*q) / 10=d / 10+10^k*q:=by omega
  rw [e1,e2,ymp hq k (d / 10) (by rw [Nat.pow_succ] at h;omega)]
  rfl
def chD (ds:List Nat):List Nat:=ds.map (48+·)
theorem yyd (a b:List Nat):chD (a++b)=chD a++chD b:=by simp [chD]
def tailD (q k d:Nat):List Nat:=if q≠0 then padD k d else digs 10 d
theorem yql {q k d:Nat} (h:q≠0∨d≠0):tailD q (k+1) d=d%10::tailD q k (d / 10):=by
 unfold tailD
 by_cases hq:q≠0
 ·rw [if_pos hq,if_pos hq];rfl
 ·rw [if_neg hq,if_neg hq,y71 (by decide) (by omega)]
theorem yts (a:Nat):tailD (a / 1000000000) 9 (a%1000000000)++digs 10 (a / 1000000000)=digs 10 a:=by
 unfold tailD
 have e:a%1000000000+1000000000*(a / 1000000000)=a:=Nat.mod_add_div a 1000000000
 by_cases hq:a / 1000000000≠0
 ·rw [if_pos hq,←ymp hq 9 _ (by show _<1000000000;omega)]
  rw [show (10:Nat)^9=1000000000 from rfl,e]
 ·rw [if_neg hq]
  have h0:a / 1000000000=0:=by omega
  rw [h0,y0s,List.append_nil,Nat.mod_eq_of_lt (by omega)]
section
variable {F:Caller} {fuel:Nat} {fz:Nat→Nat}
set_option maxRecDepth 100000 in
theorem yuq {ob:Nat→Option AObj} {nx:Nat} (q d i:Nat) (hi:i<9) (hqd:q≠0∨d≠0) (hd:d<10^9) (x:AV) (o:List Nat) (ho:o.length<2^40) (hx:OutE 1 ob nx x (byteE o)) (X:List (Nat×SV)):∃ob' nx' x',
  evC F fuel Fn.y1h ⟨env ((3,.one x)::(4,.one (natV q))::(6,.one (.int .u64 (d:Int)))::(7,.one (.int .i64 (i:Int)))::X),ob,fz,nx⟩=
   some (.nrm,⟨env [(3,.one x'),(4,.one (natV q)),(6,.one (.int .u64 ((d / 10:Nat):Int))),(7,.one (.int .i64 ((i+1:Nat):Int)))],ob',fz,nx'⟩)∧nx≤nx'∧OutE 1 ob' nx' x' (byteE (o++[48+d%10])):=by
 have hd9:d<1000000000:=hd
 have h1:(((i:Nat):Int)<9)=True:=by simp;omega
 have wk:IntKind.i64.wrap ((i+1:Nat):Int)=((i+1:Nat):Int):=wi64 (by omega)
 have t10:((10:Int)=0)=False:=by simp
 have m1:((d:Nat):Int).tmod 10=((d%10:Nat):Int):=by rw [Int.tmod_eq_emod_of_nonneg (by omega)];omega
 have m2:IntKind.u64.wrap (48+((d%10:Nat):Int))=((48+d%10:Nat):Int):=by
  have:(48+((d%10:Nat):Int))=((48+d%10:Nat):Int):=by omega
  rw [this,IntKind.wrap_u64];omega
 have m3:IntKind.u8.wrap ((48+d%10:Nat):Int)=((48+d%10:Nat):Int):=by rw [IntKind.wrap_u8];omega
 have m4:IntKind.u64.wrap (((d:Nat):Int).tdiv 10)=((d / 10:Nat):Int):=by
  rw [Int.tdiv_eq_ediv_of_nonneg (by omega)]
  have:((d:Nat):Int) / 10=((d / 10:Nat):Int):=by omega
  rw [this,IntKind.wrap_u64];omega
 have gd:(((d:Nat):Int)>0)=(d≠0):=by rw [eq_iff_iff];omega
 have gq:(((digs B32 q).length:Int)>0)=(q≠0):=by
  by_cases h0:q=0
  ·subst h0;rw [y0s];simp
  ·have:=y4u (B:=B32) (by decide) h0
   have:(digs B32 q).length≠0:=fun e=>this (List.length_eq_zero_iff.1 e)
   simp only [eq_iff_iff,ne_eq,h0,not_false_eq_true,iff_true];omega
 have one8:[[AV.int .u8 ((48+d%10:Nat):Int)]]=byteE [48+d%10]:=rfl
 unfold natV at*
 have key:∀(gq':((digs B32 q).length:Int)>0∨True),∃ob' nx' x',
  evC F fuel Fn.y1h ⟨env ((3,.one x)::(4,.one (.sl false (natE (digs B32 q))))::(6,.one (.int .u64 (d:Int)))::(7,.one (.int .i64 (i:Int)))::X),ob,fz,nx⟩=
   some (.nrm,⟨env [(3,.one x'),(4,.one (.sl false (natE (digs B32 q)))),(6,.one (.int .u64 ((d / 10:Nat):Int))),(7,.one (.int .i64 ((i+1:Nat):Int)))],ob',fz,nx'⟩)∧nx≤nx'∧OutE 1 ob' nx' x' (byteE (o++[48+d%10])):=by
  intro _
  by_cases hq:q≠0
  ·have gq1:(((digs B32 q).length:Int)>0)=True:=by rw [gq];simp [hq]
   rcases hx with ⟨he,rfl⟩ | ⟨a,va,rfl,h2,h3⟩
   ·have ho0:o=[]:=by simpa [byteE] using he
    subst ho0
    obtain ⟨r,hr0⟩:∃r,evC F fuel Fn.y1h ⟨env ((3,.one .nils)::(4,.one (.sl false (natE (digs B32 q))))::(6,.one (.int .u64 (d:Int)))::(7,.one (.int .i64 (i:Int)))::X),ob,fz,nx⟩=r:=⟨_,rfl⟩
    have hr:=hr0
    simp only [go_sem,Fn.y1h,y5k,h1,gq1,gd,t10,m1,m2,m3,m4,okSz,ROOM,Nat.reduceBEq,add1,wk] at hr
    rw [hr0,←hr]
    exact ⟨_,_,_,rfl,by omega,.inr ⟨_,0,rfl,upd_same _ _ _,by omega⟩⟩
   ·have hrow:∀k y,rowAt (upd ob (nx+k) y) a va=some (1,byteE o):=fun k y=>(y19 (by omega)).trans (y1l h2)
    have w1:(o.length+1)*1≤140737488355328:=by omega
    obtain ⟨r,hr0⟩:∃r,evC F fuel Fn.y1h ⟨env ((3,.one (.rsl a va 1 0 (byteE o).length false))::(4,.one (.sl false (natE (digs B32 q))))::(6,.one (.int .u64 (d:Int)))::(7,.one (.int .i64 (i:Int)))::X),ob,fz,nx⟩=r:=⟨_,rfl⟩
    have hr:=hr0
    simp only [go_sem,Fn.y1h,y5k,h1,gq1,gd,t10,m1,m2,m3,m4,okSz,ROOM,Nat.reduceBEq,hrow,w1,beq_self_eq_true,add1,wk] at hr
    rw [hr0,←hr]
    refine ⟨_,_,_,rfl,by omega,.inr ⟨a,va+1, ?_, ?_,by omega⟩⟩
    ·rw [y9q,List.length_append];rfl
    ·rw [←yha];exact upd_same _ _ _
  ·have hd0:(d≠0)=True:=by rw [eq_iff_iff];simp;omega
   have gq1:(((digs B32 q).length:Int)>0)=False:=by rw [gq];simp [hq]
   rcases hx with ⟨he,rfl⟩ | ⟨a,va,rfl,h2,h3⟩
   ·have ho0:o=[]:=by simpa [byteE] using he
    subst ho0
    obtain ⟨r,hr0⟩:∃r,evC F fuel Fn.y1h ⟨env ((3,.one .nils)::(4,.one (.sl false (natE (digs B32 q))))::(6,.one (.int .u64 (d:Int)))::(7,.one (.int .i64 (i:Int)))::X),ob,fz,nx⟩=r:=⟨_,rfl⟩
    have hr:=hr0
    simp only [go_sem,Fn.y1h,y5k,h1,gq1,gd,hd0,t10,m1,m2,m3,m4,okSz,ROOM,Nat.reduceBEq,add1,wk] at hr
    rw [hr0,←hr]
    exact ⟨_,_,_,rfl,by omega,.inr ⟨_,0,rfl,upd_same _ _ _,by omega⟩⟩
   ·have hrow:∀k y,rowAt (upd ob (nx+k) y) a va=some (1,byteE o):=fun k y=>(y19 (by omega)).trans (y1l h2)
    have w1:(o.length+1)*1≤140737488355328:=by omega
    obtain ⟨r,hr0⟩:∃r,evC F fuel Fn.y1h ⟨env ((3,.one (.rsl a va 1 0 (byteE o).length false))::(4,.one (.sl false (natE (digs B32 q))))::(6,.one (.int .u64 (d:Int)))::(7,.one (.int .i64 (i:Int)))::X),ob,fz,nx⟩=r:=⟨_,rfl⟩
    have hr:=hr0
    simp only [go_sem,Fn.y1h,y5k,h1,gq1,gd,hd0,t10,m1,m2,m3,m4,okSz,ROOM,Nat.reduceBEq,hrow,w1,beq_self_eq_true,add1,wk] at hr
    rw [hr0,←hr]
    refine ⟨_,_,_,rfl,by omega,.inr ⟨a,va+1, ?_, ?_,by omega⟩⟩
    ·rw [y9q,List.length_append];rfl
    ·rw [←yha];exact upd_same _ _ _
 exact key (.inr trivial)
end
end Go.Ev
namespace Go.Ev
open Go.Dig
def strB (l:List Nat):ByteArray:=byteStr (l.map fun (d:Nat)=>(d:Int))
theorem yfr:∀l:List Nat,bytesOf (byteE l)=some (l.map fun (d:Nat)=>(d:Int))
 | []=>rfl
 | d::r=>by
  have ih:=yfr r
  show (match byteOf [AV.int .u8 (d:Int)],bytesOf (byteE r) with
   | some n,some l=>some (n::l)
   | _,_=>none)=_
  rw [ih];rfl
theorem yc3:∀(k d:Nat),(padD k d).length=k
 | 0,_=>rfl
 | k+1,d=>by unfold padD;rw [List.length_cons,yc3 k]
def decL (a:Nat):List Nat:=if a=0 then [48] else (chD (digs 10 a)).reverse
section
variable {fz:Nat→Nat}
set_option maxRecDepth 100000 in
theorem ytu {F:Caller} {fuel:Nat} (q:Nat):∀(m i d:Nat),i+m=9→d<10^m→∀(ob:Nat→Option AObj) (nx:Nat) (x:AV) (o:List Nat) (X:List (Nat×SV)),o.length+m<2^40→OutE 1 ob nx x (byteE o)→∀N,m<N→
  ∃ob' nx' x' X',loopN (evC F fuel Fn.y1h) N ⟨env ((3,.one x)::(4,.one (natV q))::(6,.one (.int .u64 (d:Int)))::(7,.one (.int .i64 (i:Int)))::X),ob,fz,nx⟩=
   some (.ext 2,⟨env ((3,.one x')::(4,.one (natV q))::X'),ob',fz,nx'⟩)∧nx≤nx'∧OutE 1 ob' nx' x' (byteE (o++chD (tailD q m d))):=by
 intro m
 induction m with
 | zero=>
  intro i d hi hd ob nx x o X ho hx N hN
  obtain ⟨N,rfl⟩:∃k,N=k+1:=⟨N-1,by omega⟩
  have h1:(((i:Nat):Int)<9)=False:=by simp;omega
  have h0:d=0:=by simpa using hd
  have e:tailD q 0 d=[]:=by
   unfold tailD
   rw [h0,y0s]
   split<;>rfl
  rw [e]
  refine ⟨ob,nx,x,[(6,.one (.int .u64 (d:Int))),(7,.one (.int .i64 (i:Int))),(31,.one (.bool false))],y06 ?_,Nat.le_refl _,by simpa [chD] using hx⟩
  simp only [go_sem,Fn.y1h,h1]
 | succ m ih=>
  intro i d hi hd ob nx x o X ho hx N hN
  obtain ⟨N,rfl⟩:∃k,N=k+1:=⟨N-1,by omega⟩
  by_cases hqd:q≠0∨d≠0
  ·have hd9:d<10^9:=Nat.lt_of_lt_of_le hd (Nat.pow_le_pow_right (by decide) (by omega))
   obtain ⟨ob1,nx1,x1,hst,g1,g2⟩:=yuq (F:=F) (fuel:=fuel) (fz:=fz) q d i (by omega) hqd hd9 x o (by omega) hx X
   obtain ⟨ob',nx',x',X',k1,k2,k3⟩:=ih (i+1) (d / 10) (by omega) (by rw [Nat.pow_succ] at hd;omega) ob1 nx1 x1 (o++[48+d%10]) [] (by rw [List.length_append];simp;omega) g2 N (by omega)
   refine ⟨ob',nx',x',X',by rw [y05 hst];exact k1,by omega, ?_⟩
   rw [yql hqd]
   have:o++chD (d%10::tailD q m (d / 10))=o++[48+d%10]++chD (tailD q m (d / 10)):=by simp [chD]
   rw [this];exact k3
  ·have hq0:q=0:=by omega
   have hd0:d=0:=by omega
   subst hq0 hd0
   have h1:(((i:Nat):Int)<9)=True:=by simp;omega
   have e:tailD 0 (m+1) 0=[]:=by unfold tailD;rw [if_neg (by simp),y0s]
   rw [e]
   have hq:(((digs B32 0).length:Int)>0)=False:=by rw [y0s];simp
   have hd:(((0:Nat):Int)>0)=False:=by simp
   refine ⟨ob,nx,x,[(6,.one (.int .u64 ((0:Nat):Int))),(7,.one (.int .i64 (i:Int))),(31,.one (.bool false))],y06 ?_,Nat.le_refl _,by simpa [chD] using hx⟩
   unfold natV
   simp only [go_sem,Fn.y1h,y5k,h1,hq,hd]
set_option maxRecDepth 100000 in
theorem ysw {n:Nat}:∀(k a:Nat),a<2^k→k+30≤n→k<2^36→∀(ob:Nat→Option AObj) (nx:Nat) (x:AV) (o:List Nat) (X:List (Nat×SV)),o.length+9*k<2^39+(2^39-1)→OutE 1 ob nx x (byteE o)→∀N,k<N→
  ∃ob' nx' x' X',loopN (evC (evF E n) n Fn.y5d) N ⟨env ((0,.one (natV a))::(3,.one x)::X),ob,fz,nx⟩=
   some (.ext 0,⟨env ((0,.one (natV 0))::(3,.one x')::X'),ob',fz,nx'⟩)∧nx≤nx'∧OutE 1 ob' nx' x' (byteE (o++chD (digs 10 a))):=by
 intro k
 induction k with
 | zero=>
  intro a ha hn hk ob nx x o X ho hx N hN
  obtain ⟨N,rfl⟩:∃k,N=k+1:=⟨N-1,by omega⟩
  have h0:a=0:=by simpa using ha
  subst h0
  have hq:(((digs B32 0).length:Int)>0)=False:=by rw [y0s];simp
  refine ⟨ob,nx,x,[(13,.one (.bool false))],y06 ?_,Nat.le_refl _,by rw [y0s];simpa [chD] using hx⟩
  unfold natV
  simp only [go_sem,Fn.y5d,y5k,hq]
 | succ k ih=>
  intro a ha hn hk ob nx x o X ho hx N hN
  obtain ⟨N,rfl⟩:∃k,N=k+1:=⟨N-1,by omega⟩
  by_cases h0:a=0
  ·subst h0
   have hq:(((digs B32 0).length:Int)>0)=False:=by rw [y0s];simp
   refine ⟨ob,nx,x,[(13,.one (.bool false))],y06 ?_,Nat.le_refl _,by rw [y0s];simpa [chD] using hx⟩
   unfold natV
   simp only [go_sem,Fn.y5d,y5k,hq]
  ·have hq:(((digs B32 a).length:Int)>0)=True:=by
    have:=y4u (B:=B32) (by decide) h0
    have:(digs B32 a).length≠0:=fun e=>this (List.length_eq_zero_iff.1 e)
    simp;omega
   have hla:=y5p ha
   have hlr:dlen B32 (a%1000000000)≤2:=y5j (by decide) (by
    have h1:a%1000000000<1000000000:=Nat.mod_lt _ (by decide)
    have h2:(1000000000:Nat)≤B32^2:=by decide
    omega)
   obtain ⟨n,rfl⟩:∃j,n=j+1:=⟨n-1,by omega⟩
   have k1:=y01 (ykc a 1000000000 (by decide) (by decide) (by omega) (n:=n) (by omega)) (can2 (y0m _) (y2j _ _))
   have k2:=y01 (yd8 (a%1000000000) hlr (n:=n) (by omega)) (can1 (y0m _))
   have hd:a%1000000000<10^9:=Nat.mod_lt _ (by decide)
   obtain ⟨ob1,nx1,x1,X1,q1,q2,q3⟩:=ytu (F:=evF E (n+1)) (fuel:=n+1) (fz:=fz) (a / 1000000000) 9 0 (a%1000000000) rfl hd ob nx x o [] (by omega) hx (n+1) (by omega)
   have z0:((0:Nat):Int)=0:=rfl
   have z1:((1000000000:Nat):Int)=1000000000:=rfl
   rw [z0] at q1
   rw [z1] at k1
   have hlt:a / 1000000000<2^k:=by rw [Nat.pow_succ] at ha;omega
   have tl:(chD (tailD (a / 1000000000) 9 (a%1000000000))).length≤9:=by
    unfold chD tailD
    rw [List.length_map]
    split
    ·rw [yc3];exact Nat.le_refl _
    ·exact y5j (B:=10) (by decide) hd
   obtain ⟨ob',nx',x',X',r1,r2,r3⟩:=ih (a / 1000000000) hlt (by omega) (by omega) ob1 nx1 x1 (o++chD (tailD (a / 1000000000) 9 (a%1000000000))) [] (by rw [List.length_append];omega) q3 N (by omega)
   have hst:evC (evF E (n+1)) (n+1) Fn.y5d ⟨env ((0,.one (natV a))::(3,.one x)::X),ob,fz,nx⟩=some (.nrm,⟨env [(0,.one (natV (a / 1000000000))),(3,.one x1)],ob1,fz,nx1⟩):=by
    unfold natV at k1 k2 q1 ⊢
    simp only [go_sem,Fn.y5d,y5k,hq,k1,k2,q1]
   refine ⟨ob',nx',x',X',by rw [y05 hst];exact r1,by omega, ?_⟩
   have e:=yts a
   have:o++chD (digs 10 a)=o++chD (tailD (a / 1000000000) 9 (a%1000000000))++chD (digs 10 (a / 1000000000)):=by rw [←e,yyd,List.append_assoc]
   rw [this];exact r3
end
theorem y78 (ob:Nat→Option AObj) (fz:Nat→Nat) (b:ByteArray):frzS ob fz (.one (.str b))=some (fz,.one (.str b)):=Eq.trans rfl rfl
theorem yc2 {a:Nat} (h:a≠0):decL a=(chD (digs 10 a)).reverse:=by unfold decL;rw [if_neg h]
theorem yft {x S:Nat} (h:x<2^S):(digs 10 x).length≤S:=by
 have h2:x<10^S:=Nat.lt_of_lt_of_le h (Nat.pow_le_pow_left (by decide) S)
 exact y5j (B:=10) (by decide) h2
set_option maxRecDepth 100000 in
theorem yfq (a:Nat) {S:Nat} (ha:a<2^S) (hS:S<2^35) {n:Nat} (hn:2*S+40≤n):evV E (n+1) Id.y2d [.one (natV a)]=some (.one (.str (strB (decL a)))):=by
 rw [y02 ycx]
 by_cases h0:a=0
 ·subst h0
  have hq:(((digs B32 0).length:Int)==0)=true:=by rw [y0s];rfl
  have e:strB (decL 0)=⟨#[48]⟩:=by rfl
  rw [e]
  unfold natV
  simp only [go_sem,Fn.y2d,y5k,hq,y78]
 ·have hq:(((digs B32 a).length:Int)==0)=false:=by
   have:=y4u (B:=B32) (by decide) h0
   have:(digs B32 a).length≠0:=fun e=>this (List.length_eq_zero_iff.1 e)
   simp only [beq_eq_false_iff_ne,ne_eq];omega
  rw [yc2 h0]
  obtain ⟨ob',nx',x',X',hloop,g1,g2⟩:=ysw (fz:=fz0) (n:=n) S a ha (by omega) (by omega) ob0 0 .nils [] [] (by simp;omega) (.inl ⟨rfl,rfl⟩) n (by omega)
  rw [List.nil_append] at g2
  have hl10:=yft ha
  have hne:digs 10 a≠[]:=y4u (by decide) h0
  have hlen:(chD (digs 10 a)).length=(digs 10 a).length:=by simp [chD]
  have hpos:0<(digs 10 a).length:=List.length_pos_iff.2 hne
  generalize hD:chD (digs 10 a)=D at*
  rcases g2 with ⟨he,-⟩ | ⟨id,ver,rfl,hob,hid⟩
  ·have:D=[]:=by simpa [byteE] using he
   rw [this] at hlen;simp at hlen;omega
  ·obtain ⟨n,rfl⟩:∃j,n=j+1:=⟨n-1,by omega⟩
   have hrev:=yyw (n:=n) (fz:=fz0) hid rfl D (by omega) (by omega) hob (by omega)
   have hrow:=y1l (upd_same ob' id (.row 1 (byteE D.reverse) ver))
   have hle:(D.length≤D.reverse.length)=True:=by rw [List.length_reverse];simp
   have htk:(byteE D.reverse).take D.length=byteE D.reverse:=List.take_of_length_le (by rw [y9q,List.length_reverse];exact Nat.le_refl _)
   have hby:=yfr D.reverse
   rw [y9q] at hloop
   unfold natV at hloop ⊢
   generalize upd ob' id (.row 1 (byteE D.reverse) ver)=obR at hrev hrow
   simp only [go_sem,Fn.y2d,y5k,hq,hloop,hrev,hrow,hle,htk,hby,beq_self_eq_true,y78]
   rfl
end Go.Ev
namespace Go.Ev
open Go.Dig
theorem yh9:∀(l:List Int) (s:ByteArray),(l.foldl (fun r n=>r.push (UInt8.ofNat n.toNat)) s).data=s.data++(l.map fun n=>UInt8.ofNat n.toNat).toArray
 | [],s=>by simp
 | n::r,s=>by
  rw [List.foldl_cons,yh9 r]
  simp [ByteArray.push]
theorem y7q (l:List Nat):(strB l).data=(l.map fun d=>UInt8.ofNat d).toArray:=by
 unfold strB byteStr
 rw [yh9]
 simp [ByteArray.empty,ByteArray.emptyWithCapacity]
 rfl
theorem yx6 (a b:List Nat):strB (a++b)=strB a++strB b:=by
 apply ByteArray.ext
 rw [ByteArray.data_append,y7q,y7q,y7q]
 simp
def txtL (q:Rat):List Nat:=(if q.num<0 then 45::decL q.num.natAbs else decL q.num.natAbs)++(if q.den=1 then [] else 47::decL q.den)
theorem yb5 (l:List Nat):(strB l).size=l.length:=by
 show (strB l).data.size=_
 rw [y7q];simp
theorem ycj {a S:Nat} (h:a<2^S):(decL a).length≤S+1:=by
 unfold decL
 split
 ·simp
 ·rw [List.length_reverse]
  have:=yft h
  simp only [chD,List.length_map];omega
theorem y8q (a b:List Nat) (h:a.length+b.length<2^60):binS .add (strB a) (strB b)=some (.str (strB (a++b))):=by
 have hmax:IntKind.i64.max=9223372036854775807:=rfl
 show (if (((strB a).size+(strB b).size:Nat):Int)>IntKind.i64.max then none else some (AV.str (strB a++strB b)))=_
 rw [yb5,yb5,if_neg (by rw [hmax];omega),yx6]
theorem yut (a:ByteArray):binS .eql a a=some (.bool true):=by
 show some (AV.bool (a.toList==a.toList))=_
 rw [beq_self_eq_true]
set_option maxRecDepth 100000 in
theorem yx8 (q:Rat) {S:Nat} (h:SmQ S q) (hS:S<2^34) {n:Nat} (hn:2*S+100≤n):evV E (n+1) Id.y42 [qV q]=some (.one (.str (strB (txtL q)))):=by
 rw [y02 yje]
 obtain ⟨n,rfl⟩:∃j,n=j+1:=⟨n-1,by omega⟩
 have k1:=y01 (yfq q.num.natAbs h.num (by omega) (n:=n) (by omega)) (can1 (y0m _))
 have k2:=y01 (yfq q.den h.den (by omega) (n:=n) (by omega)) (can1 (y0m _))
 have k3:=y7w q h.den (by omega) (n:=n+1) (by omega)
 have hpos:=q.den_pos
 have s1:=ycj h.num
 have s2:=ycj h.den
 have g1:binS .add ⟨#[45]⟩ (strB (decL q.num.natAbs))=some (.str (strB (45::decL q.num.natAbs))):=y8q [45] _ (by simp;omega)
 have g2:binS .add ⟨#[47]⟩ (strB (decL q.den))=some (.str (strB (47::decL q.den))):=y8q [47] _ (by simp;omega)
 have g3:∀l:List Nat,l.length≤S+2→binS .add (strB l) (strB (47::decL q.den))=some (.str (strB (l++47::decL q.den))):=fun l hl=>y8q l _ (by simp;omega)
 have gd:(((digs B32 (q.den-1)).length:Int)>0)=(q.den≠1):=by
  by_cases h0:q.den=1
  ·rw [h0,Nat.sub_self,y0s];simp
  ·have:=y4u (B:=B32) (n:=q.den-1) (by decide) (by omega)
   have:(digs B32 (q.den-1)).length≠0:=fun e=>this (List.length_eq_zero_iff.1 e)
   simp only [eq_iff_iff,ne_eq,h0,not_false_eq_true,iff_true];omega
 unfold txtL
 unfold qV qC at k3 ⊢
 generalize hd1:decL q.num.natAbs=D at*
 generalize hd2:decL q.den=D2 at*
 unfold natV at k1 k2 k3 ⊢
 by_cases hn:q.num<0
 ·have g3:=g3 (45::D) (by simp;omega)
  rw [decide_eq_true hn,if_pos hn] at*
  by_cases h1:q.den=1
  ·have gd':(((digs B32 (q.den-1)).length:Int)>0)=False:=by rw [gd];simp [h1]
   rw [if_pos h1,List.append_nil]
   simp only [go_sem,Fn.y42,y5k,k1,g1,gd',y78]
  ·have gd':(((digs B32 (q.den-1)).length:Int)>0)=True:=by rw [gd];simp [h1]
   rw [if_neg h1]
   simp only [go_sem,Fn.y42,y5k,k1,k2,k3,g1,g2,g3,gd',y78]
 ·have g3:=g3 D (by omega)
  rw [decide_eq_false hn,if_neg hn] at*
  by_cases h1:q.den=1
  ·have gd':(((digs B32 (q.den-1)).length:Int)>0)=False:=by rw [gd];simp [h1]
   rw [if_pos h1,List.append_nil]
   simp only [go_sem,Fn.y42,y5k,k1,gd',y78]
  ·have gd':(((digs B32 (q.den-1)).length:Int)>0)=True:=by rw [gd];simp [h1]
   rw [if_neg h1]
   simp only [go_sem,Fn.y42,y5k,k1,k2,k3,g2,g3,gd',y78]
end Go.Ev
namespace Go.Ev
open Go.Dig
section
variable {F:Caller} {fuel:Nat} {fz:Nat→Nat}
set_option maxRecDepth 100000 in
theorem yqw {ob:Nat→Option AObj} {nx:Nat} (ds es:List Nat) (i c s:Nat) (hs:ds.length<2^40) (hs':es.length<2^40) (hd:∀d∈ds,d<BT) (he:∀d∈es,d<BT) (hc:c≤1) (hcond:i<ds.length∨i<es.length∨0<c) (hi:i≤2^40) (o:List Nat) (hol:o.length=i) (x:AV) (hO:OutR ob nx x o) (hsum:c+ds.getD i 0+es.getD i 0=s) (X:List (Nat×SV)):∃(x':AV) (ob':Nat→Option AObj),
  evC F fuel Fn.y2i ⟨env ((0,.one (.sl false (intE ds)))::(1,.one (.sl false (intE es)))::(5,.one x)::(6,.one (.int .i64 (c:Int)))::(7,.one (.int .i64 (i:Int)))::X),ob,fz,nx⟩=
   some (.nrm,⟨env [(0,.one (.sl false (intE ds))),(1,.one (.sl false (intE es))),(5,.one x'),(6,.one (.int .i64 ((s / 10000:Nat):Int))),(7,.one (.int .i64 ((i+1:Nat):Int)))],ob',fz,nx+6⟩)∧OutR ob' (nx+6) x' (o++[s%10000]):=by
 have wk:IntKind.i64.wrap ((i+1:Nat):Int)=((i+1:Nat):Int):=wi64 (by omega)
 have c0:c=0∨c=1:=by omega
 have hz:((10000:Int)=0)=False:=by simp
 have gc:(((c:Nat):Int)>0)=(0<c):=by rw [eq_iff_iff];omega
 by_cases h1:i<ds.length
 ·have ge1:ds[i]? =some ds[i]:=by simp
  have hx:ds[i]<10000:=hd _ (by simp)
  have e1:ds.getD i 0=ds[i]:=by rw [List.getD,ge1];rfl
  have g1:(((i:Nat):Int)<((ds.length:Nat):Int))=True:=by simp;omega
  rw [e1] at hsum
  generalize ds[i]=xd at*
  by_cases h2:i<es.length
  ·have ge2:es[i]? =some es[i]:=by simp
   have hy:es[i]<10000:=he _ (by simp)
   have e2:es.getD i 0=es[i]:=by rw [List.getD,ge2];rfl
   have g2:(((i:Nat):Int)<((es.length:Nat):Int))=True:=by simp;omega
   rw [e2] at hsum
   generalize es[i]=y at*
   have w1:IntKind.i64.wrap ((c:Int)+(xd:Int))=((c+xd:Nat):Int):=by rw [wrap_i64 (by omega)];omega
   have w2:IntKind.i64.wrap (((c+xd:Nat):Int)+(y:Int))=(s:Int):=by rw [wrap_i64 (by omega)];omega
   have t1:=tmodT s
   have t2:=tdivT s (by omega)
   generalize hd0:s%10000=d at*
   rcases hO with ⟨rfl,rfl⟩ | ⟨id,ver,rfl,hid,hlt'⟩
   ·refine ⟨_,_, ?_,y8b ob (nx+3) (nx+4) d _ (by omega) (.row 1 [[AV.int .i64 (d:Int)]] 0)⟩
    simp only [go_sem,beq_self_eq_true,Fn.y2i,g1,g2,gc,add1,wk,okSz,ROOM,Nat.reduceBEq,hz,t1,t2,w1,w2,ge1,ge2]
   ·have hl8:(o.length+1)*8≤140737488355328:=by omega
    have hrow:=y6b hid (show id≠nx+3 by omega) (.row 1 [[AV.int .i64 (d:Int)]] 0)
    refine ⟨_,_, ?_,y89 (ob:=ob) (id:=id) (ver:=ver) (q:=nx+3) (d:=d) (nx':=nx+6) (by omega) (.row 1 [[AV.int .i64 (d:Int)]] 0)⟩
    simp only [go_sem,beq_self_eq_true,Fn.y2i,g1,g2,gc,add1,wk,okSz,ROOM,Nat.reduceBEq,hz,t1,t2,w1,w2,ge1,ge2,hrow,hl8,y6w]
  ·have e2:es.getD i 0=0:=by rw [List.getD,List.getElem?_eq_none (by omega)];rfl
   have g2:(((i:Nat):Int)<((es.length:Nat):Int))=False:=by simp;omega
   rw [e2] at hsum
   have w1:IntKind.i64.wrap ((c:Int)+(xd:Int))=(s:Int):=by rw [wrap_i64 (by omega)];omega
   have t1:=tmodT s
   have t2:=tdivT s (by omega)
   generalize hd0:s%10000=d at*
   rcases hO with ⟨rfl,rfl⟩ | ⟨id,ver,rfl,hid,hlt'⟩
   ·refine ⟨_,_, ?_,y8b ob (nx+3) (nx+4) d _ (by omega) (.row 1 [[AV.int .i64 (d:Int)]] 0)⟩
    simp only [go_sem,beq_self_eq_true,Fn.y2i,g1,g2,gc,add1,wk,okSz,ROOM,Nat.reduceBEq,hz,t1,t2,w1,ge1]
   ·have hl8:(o.length+1)*8≤140737488355328:=by omega
    have hrow:=y6b hid (show id≠nx+3 by omega) (.row 1 [[AV.int .i64 (d:Int)]] 0)
    refine ⟨_,_, ?_,y89 (ob:=ob) (id:=id) (ver:=ver) (q:=nx+3) (d:=d) (nx':=nx+6) (by omega) (.row 1 [[AV.int .i64 (d:Int)]] 0)⟩
    simp only [go_sem,beq_self_eq_true,Fn.y2i,g1,g2,gc,add1,wk,okSz,ROOM,Nat.reduceBEq,hz,t1,t2,w1,ge1,hrow,hl8,y6w]
 ·have e1:ds.getD i 0=0:=by rw [List.getD,List.getElem?_eq_none (by omega)];rfl
  have g1:(((i:Nat):Int)<((ds.length:Nat):Int))=False:=by simp;omega
  rw [e1] at hsum
  by_cases h2:i<es.length
  ·have ge2:es[i]? =some es[i]:=by simp
   have hy:es[i]<10000:=he _ (by simp)
   have e2:es.getD i 0=es[i]:=by rw [List.getD,ge2];rfl
   have g2:(((i:Nat):Int)<((es.length:Nat):Int))=True:=by simp;omega
   rw [e2] at hsum
   generalize es[i]=y at*
   have w1:IntKind.i64.wrap ((c:Int)+(y:Int))=(s:Int):=by rw [wrap_i64 (by omega)];omega
   have t1:=tmodT s
   have t2:=tdivT s (by omega)
   generalize hd0:s%10000=d at*
   rcases hO with ⟨rfl,rfl⟩ | ⟨id,ver,rfl,hid,hlt'⟩
   ·refine ⟨_,_, ?_,y8b ob (nx+3) (nx+4) d _ (by omega) (.row 1 [[AV.int .i64 (d:Int)]] 0)⟩
    simp only [go_sem,beq_self_eq_true,Fn.y2i,g1,g2,gc,add1,wk,okSz,ROOM,Nat.reduceBEq,hz,t1,t2,w1,ge2]
   ·have hl8:(o.length+1)*8≤140737488355328:=by omega
    have hrow:=y6b hid (show id≠nx+3 by omega) (.row 1 [[AV.int .i64 (d:Int)]] 0)
    refine ⟨_,_, ?_,y89 (ob:=ob) (id:=id) (ver:=ver) (q:=nx+3) (d:=d) (nx':=nx+6) (by omega) (.row 1 [[AV.int .i64 (d:Int)]] 0)⟩
    simp only [go_sem,beq_self_eq_true,Fn.y2i,g1,g2,gc,add1,wk,okSz,ROOM,Nat.reduceBEq,hz,t1,t2,w1,ge2,hrow,hl8,y6w]
  ·have e2:es.getD i 0=0:=by rw [List.getD,List.getElem?_eq_none (by omega)];rfl
   have g2:(((i:Nat):Int)<((es.length:Nat):Int))=False:=by simp;omega
   rw [e2] at hsum
   have e:c=s:=by omega
   have p1:0<s:=by omega
   subst e
   have t1:=tmodT c
   have t2:=tdivT c (by omega)
   have p0:(0<c)=True:=by simp;omega
   generalize hd0:c%10000=d at*
   rcases hO with ⟨rfl,rfl⟩ | ⟨id,ver,rfl,hid,hlt'⟩
   ·refine ⟨_,_, ?_,y8b ob (nx+3) (nx+4) d _ (by omega) (.row 1 [[AV.int .i64 (d:Int)]] 0)⟩
    simp only [go_sem,beq_self_eq_true,Fn.y2i,g1,g2,gc,add1,wk,okSz,ROOM,Nat.reduceBEq,hz,t1,t2,p0]
   ·have hl8:(o.length+1)*8≤140737488355328:=by omega
    have hrow:=y6b hid (show id≠nx+3 by omega) (.row 1 [[AV.int .i64 (d:Int)]] 0)
    refine ⟨_,_, ?_,y89 (ob:=ob) (id:=id) (ver:=ver) (q:=nx+3) (d:=d) (nx':=nx+6) (by omega) (.row 1 [[AV.int .i64 (d:Int)]] 0)⟩
    simp only [go_sem,beq_self_eq_true,Fn.y2i,g1,g2,gc,add1,wk,okSz,ROOM,Nat.reduceBEq,hz,t1,t2,p0,hrow,hl8,y6w]
end
end Go.Ev
namespace Go.Ev
open Go.Dig
section
variable {F:Caller} {fuel:Nat} {fz:Nat→Nat}
def PlusEnd (M v:Nat) (o:List Nat):Prop:=(∀d∈o,d<BT)∧val BT o=v∧(o.length=M∨(o.length=M+1∧BT^M≤v))
theorem yn6 (es:List Nat) (i:Nat):val BT (es.take (i+1))=val BT (es.take i)+BT^i*es.getD i 0:=by
 rw [List.take_add_one,List.getD]
 cases h:es[i]? with
 | none=>simp only [Option.toList_none,List.append_nil,Option.getD_none,Nat.mul_zero,Nat.add_zero]
 | some y=>
  have hl:i<es.length:=(List.getElem?_eq_some_iff.1 h).1
  rw [Option.toList_some,y0k,List.length_take,Nat.min_eq_left (by omega)]
  rfl
theorem yk6 {ob:Nat→Option AObj} {nx:Nat} (ds es:List Nat) (i:Nat) (h1:¬i<ds.length) (h2:¬i<es.length) (x:AV) (X:List (Nat×SV)) (N:Nat) (hN:0<N):∃X',loopN (evC F fuel Fn.y2i) N ⟨env ((0,.one (.sl false (intE ds)))::(1,.one (.sl false (intE es)))::(5,.one x)::(6,.one (.int .i64 0))::(7,.one (.int .i64 (i:Int)))::X),ob,fz,nx⟩=
   some (.ext 0,⟨env ((0,.one (.sl false (intE ds)))::(1,.one (.sl false (intE es)))::(5,.one x)::X'),ob,fz,nx⟩):=by
 obtain ⟨N,rfl⟩:∃k,N=k+1:=⟨N-1,by omega⟩
 have g1:(((i:Nat):Int)<((ds.length:Nat):Int))=False:=by simp;omega
 have g2:(((i:Nat):Int)<((es.length:Nat):Int))=False:=by simp;omega
 have g3:((0:Int)>0)=False:=by simp
 refine ⟨[(6,.one (.int .i64 0)),(7,.one (.int .i64 (i:Int))),(21,.one (.bool false))],y06 ?_⟩
 simp only [go_sem,beq_self_eq_true,Fn.y2i,g1,g2,g3]
theorem yk0 (ds es:List Nat) (M:Nat) (hM1:ds.length≤M) (hM2:es.length≤M) (hM:M=ds.length∨M=es.length) (hs:M<2^39) (hd:∀d∈ds,d<BT) (he:∀d∈es,d<BT):∀(m i:Nat),i+m=M+1→∀(ob:Nat→Option AObj) (nx c:Nat) (o:List Nat) (x:AV) (X:List (Nat×SV)),c≤1→o.length=i→(∀d∈o,d<BT)→OutR ob nx x o→val BT o+BT^i*c=val BT (ds.take i)+val BT (es.take i)→(i=M+1→c=0∧BT^M≤val BT o)→∀N,m<N→
  ∃(o':List Nat) (x':AV) (ob':Nat→Option AObj) (nx':Nat) (X':List (Nat×SV)),loopN (evC F fuel Fn.y2i) N ⟨env ((0,.one (.sl false (intE ds)))::(1,.one (.sl false (intE es)))::(5,.one x)::(6,.one (.int .i64 (c:Int)))::(7,.one (.int .i64 (i:Int)))::X),ob,fz,nx⟩=
   some (.ext 0,⟨env ((0,.one (.sl false (intE ds)))::(1,.one (.sl false (intE es)))::(5,.one x')::X'),ob',fz,nx'⟩)∧OutR ob' nx' x' o'∧PlusEnd M (val BT ds+val BT es) o'
 | 0,i,hi,ob,nx,c,o,x,X,hc,hol,hod,hO,hinv,hlast,N,hN=>by
  obtain ⟨rfl,hv⟩:=hlast (by omega)
  obtain ⟨X',hX⟩:=yk6 (F:=F) (fuel:=fuel) (fz:=fz) (ob:=ob) (nx:=nx) ds es i (by omega) (by omega) x X N (by omega)
  rw [List.take_of_length_le (by omega),List.take_of_length_le (by omega),Nat.mul_zero,Nat.add_zero] at hinv
  exact ⟨o,x,ob,nx,X',hX,hO,hod,hinv,.inr ⟨by omega,by rw [←hinv];exact hv⟩⟩
 | m+1,i,hi,ob,nx,c,o,x,X,hc,hol,hod,hO,hinv,hlast,N,hN=>by
  by_cases hcond:i<ds.length∨i<es.length∨0<c
  ·obtain ⟨s,hsum⟩:∃s,c+ds.getD i 0+es.getD i 0=s:=⟨_,rfl⟩
   obtain ⟨x',ob',hst,hO'⟩:=yqw (F:=F) (fuel:=fuel) (fz:=fz) ds es i c s (by omega) (by omega) hd he hc hcond (by omega) o hol x hO hsum X
   obtain ⟨N,rfl⟩:∃k,N=k+1:=⟨N-1,by omega⟩
   rw [y05 hst]
   have hx:ds.getD i 0<10000:=by
    rw [List.getD]
    cases h:ds[i]? with
    | none=>simp
    | some y=>exact hd y (List.mem_of_getElem? h)
   have hy:es.getD i 0<10000:=by
    rw [List.getD]
    cases h:es[i]? with
    | none=>simp
    | some y=>exact he y (List.mem_of_getElem? h)
   have hBT:BT=10000:=rfl
   have hs1:s%10000+10000*(s / 10000)=s:=Nat.mod_add_div s 10000
   have e1:val BT (o++[s%10000])+BT^(i+1)*(s / 10000)=val BT (ds.take (i+1))+val BT (es.take (i+1)):=by
    rw [yn6,yn6,y0k,hol,Nat.pow_succ]
    have e2:BT^i*(s%10000)+BT^i*BT*(s / 10000)=BT^i*c+BT^i*ds.getD i 0+BT^i*es.getD i 0:=by
     rw [Nat.mul_assoc (BT^i) BT,←Nat.mul_add,←Nat.mul_add,←Nat.mul_add,hsum,hBT,hs1]
    omega
   refine yk0 ds es M hM1 hM2 hM hs hd he m (i+1) (by omega) ob' (nx+6) (s / 10000) (o++[s%10000]) x' [] (by omega) (by simp [hol]) ?_ hO' e1 ?_ N (by omega)
   ·intro z hz
    rcases List.mem_append.1 hz with h | h
    ·exact hod z h
    ·simp only [List.mem_cons,List.not_mem_nil,or_false] at h
     rw [h,hBT];omega
   ·intro hiM
    have hiM:i=M:=by omega
    have h1:ds.getD i 0=0:=by rw [List.getD,List.getElem?_eq_none (by omega)];rfl
    have h2:es.getD i 0=0:=by rw [List.getD,List.getElem?_eq_none (by omega)];rfl
    have hc1:c=1:=by omega
    have hs2:s=1:=by omega
    subst hs2
    refine ⟨rfl, ?_⟩
    rw [y0k,hol,hiM]
    show BT^M≤val BT o+BT^M*1
    omega
  ·have hc0:c=0:=by omega
   subst hc0
   obtain ⟨X',hX⟩:=yk6 (F:=F) (fuel:=fuel) (fz:=fz) (ob:=ob) (nx:=nx) ds es i (by omega) (by omega) x X N (by omega)
   rw [List.take_of_length_le (by omega),List.take_of_length_le (by omega),Nat.mul_zero,Nat.add_zero] at hinv
   refine ⟨o,x,ob,nx,X',hX,hO,hod,hinv, ?_⟩
   by_cases hiM:i=M+1
   ·exact .inr ⟨by omega,by rw [←hinv];exact (hlast hiM).2⟩
   ·exact .inl (by omega)
end
theorem yw1 (o:List Nat) (hd:∀d∈o,d<BT) (hl:o.length≤dlen BT (val BT o)):o=digs BT (val BT o):=by
 have h1:=ybv BT2 o hd
 have h2:=yb2 o
 rw [h1] at h2
 unfold dlen at hl
 rw [List.take_of_length_le hl] at h2
 exact h2
theorem PlusEnd.eq {M a b:Nat} {o:List Nat} (h:PlusEnd M (a+b) o) (hM:M≤dlen BT (a+b)):o=digs BT (a+b):=by
 obtain ⟨hd,hv,hl⟩:=h
 have:=yw1 o hd (by
  rw [hv]
  rcases hl with hl | ⟨hl,hb⟩
  ·omega
  ·rw [hl]
   have h1:=y6x BT2 (a+b)
   have h2:BT^M<BT^dlen BT (a+b):=by omega
   exact (Nat.pow_lt_pow_iff_right (by decide)).1 h2)
 rw [hv] at this
 exact this
theorem yto (a b:Nat) (ha:dlen BT a<2^39) (hb:dlen BT b<2^39) {n:Nat} (hn:dlen BT a+dlen BT b+4≤n):evV E (n+1) Id.y3v [.one (zD a),.one (zD b)]=some (.one (zD (a+b))):=by
 rw [y02 yf3]
 obtain ⟨M,hM1,hM2,hM⟩:∃M,dlen BT a≤M∧dlen BT b≤M∧(M=dlen BT a∨M=dlen BT b):=by
  by_cases h:dlen BT a≤dlen BT b
  ·exact ⟨_,h,Nat.le_refl _,.inr rfl⟩
  ·exact ⟨_,Nat.le_refl _,by omega,.inl rfl⟩
 have hMd:M≤dlen BT (a+b):=by
  rcases hM with h | h
  ·rw [h];exact y5r BT2 (Nat.le_add_right a b)
  ·rw [h];exact y5r BT2 (Nat.le_add_left b a)
 unfold dlen at ha hb hn hM1 hM2 hM
 obtain ⟨o',x',ob',nx',X',hloop,h1,h2⟩:=yk0 (F:=evF E n) (fuel:=n) (fz:=fz0) (digs BT a) (digs BT b) M hM1 hM2 hM (by omega) (y27 BT2 a) (y27 BT2 b) (M+1) 0 (by omega) ob0 0 0 [] .nils [] (by omega) rfl (fun _ h=>by simp at h) (.inl ⟨rfl,rfl⟩) (by simp [val]) (by omega) n (by omega)
 rw [y1k BT2,y1k BT2] at h2
 have ho:=h2.eq hMd
 subst ho
 obtain ⟨fz',hfz⟩:=ymw h1 fz0
 rw [show ((0:Nat):Int)=0 from rfl] at hloop
 unfold zD
 simp only [go_sem,beq_self_eq_true,Fn.y3v,hloop,hfz]
theorem ylr (a b:Int) (h:decide (a<0)=decide (b<0)):sgn (decide (a<0)) (a.natAbs+b.natAbs)=a+b:=by
 unfold sgn
 by_cases ha:a<0
 ·have hb:b<0:=by rw [decide_eq_true ha] at h;exact of_decide_eq_true h.symm
  rw [decide_eq_true ha,if_pos rfl];omega
 ·have hb:¬b<0:=by rw [decide_eq_false ha] at h;exact of_decide_eq_false h.symm
  rw [decide_eq_false ha,if_neg (by simp)];omega
theorem ycu (a b:Int) (h:decide (a<0)≠decide (b<0)) (hab:b.natAbs≤a.natAbs):sgn (decide (a<0)) (a.natAbs-b.natAbs)=a+b:=by
 unfold sgn
 by_cases ha:a<0
 ·have hb:¬b<0:=fun hb=>h (by rw [decide_eq_true ha,decide_eq_true hb])
  rw [decide_eq_true ha,if_pos rfl];omega
 ·have hb:b<0:=Decidable.byContradiction fun hb=>h (by rw [decide_eq_false ha,decide_eq_false hb])
  rw [decide_eq_false ha,if_neg (by simp)];omega
theorem yji (a b:Int) (h:decide (a<0)≠decide (b<0)) (hab:a.natAbs≤b.natAbs):sgn (decide (b<0)) (b.natAbs-a.natAbs)=a+b:=by
 rw [ycu b a (fun e=>h e.symm) hab,Int.add_comm]
theorem ytk (a b:Int) (ha:dlen BT a.natAbs<2^38) (hb:dlen BT b.natAbs<2^38) {n:Nat} (hn:dlen BT a.natAbs+dlen BT b.natAbs+8≤n):evV E (n+1) Id.y30 [sV a,sV b]=some (sV (a+b)):=by
 rw [y02 yeq]
 obtain ⟨n,rfl⟩:∃k,n=k+1:=⟨n-1,by omega⟩
 by_cases hs:decide (a<0)=decide (b<0)
 ·have hp:=y01 (yto a.natAbs b.natAbs (by omega) (by omega) (n:=n) (by omega)) (can2 (y3n _) (y3n _))
  have hg:=y7h (decide (a<0)) (a.natAbs+b.natAbs) (a+b) (ylr a b hs) (n:=n+1) (by omega)
  have e1:(decide (a<0)==decide (b<0))=true:=by rw [hs];simp
  generalize a+b=c at hg ⊢
  generalize a.natAbs+b.natAbs=m at hp hg
  unfold sV zC zD at hg ⊢
  unfold zD at hp
  simp only [go_sem,Fn.y30,e1,hp,hg]
 ·have e1:(decide (a<0)==decide (b<0))=false:=by simpa using hs
  have hc:=y01 (ycl a.natAbs b.natAbs (by omega) (n:=n) (by omega)) (can2 (y3n _) (y3n _))
  unfold cmpI at hc
  by_cases hlt:a.natAbs<b.natAbs
  ·rw [if_pos hlt] at hc
   have hp:=y01 (y9z b.natAbs a.natAbs (by omega) (by omega) (n:=n) (by omega)) (can2 (y3n _) (y3n _))
   have hg:=y7h (decide (b<0)) (b.natAbs-a.natAbs) (a+b) (yji a b hs (by omega)) (n:=n+1) (by omega)
   have g0:((-1:Int)≥0)=False:=by simp
   generalize a+b=c at hg ⊢
   generalize b.natAbs-a.natAbs=m at hp hg
   unfold sV zC zD at hg ⊢
   unfold zD at hp hc
   simp only [go_sem,Fn.y30,e1,hc,g0,hp,hg]
  ·rw [if_neg hlt] at hc
   have hp:=y01 (y9z a.natAbs b.natAbs (by omega) (by omega) (n:=n) (by omega)) (can2 (y3n _) (y3n _))
   have hg:=y7h (decide (a<0)) (a.natAbs-b.natAbs) (a+b) (ycu a b hs (by omega)) (n:=n+1) (by omega)
   generalize a+b=c at hg ⊢
   generalize a.natAbs-b.natAbs=m at hp hg
   obtain ⟨r,hr,g0⟩:∃r:Int,(if b.natAbs<a.natAbs then (1:Int) else 0)=r∧(r≥0)=True:=by
    split
    ·exact ⟨1,rfl,by simp⟩
    ·exact ⟨0,rfl,by simp⟩
   rw [hr] at hc
   unfold sV zC zD at hg ⊢
   unfold zD at hp hc
   simp only [go_sem,Fn.y30,e1,hc,g0,hp,hg]
theorem ykf (a b:Int) (ha:dlen BT a.natAbs<2^38) (hb:dlen BT b.natAbs<2^38) {n:Nat} (hn:dlen BT a.natAbs+dlen BT b.natAbs+8≤n):evV E (n+1) Id.y2f [sV a,sV b]=some (.one (.int .i64 (cmpZ a b))):=by
 rw [y02 yey]
 obtain ⟨n,rfl⟩:∃k,n=k+1:=⟨n-1,by omega⟩
 have hab:=y01 (ycl a.natAbs b.natAbs (by omega) (n:=n) (by omega)) (can2 (y3n _) (y3n _))
 have hba:=y01 (ycl b.natAbs a.natAbs (by omega) (n:=n) (by omega)) (can2 (y3n _) (y3n _))
 unfold zD at hab hba
 unfold sV zC zD
 by_cases h1:a<0
 ·by_cases h2:b<0
  ·have e:cmpZ a b=cmpI b.natAbs a.natAbs:=by
    unfold cmpZ cmpI
    clear hab hba
    split
    ·rw [if_pos (by omega)]
    ·split
     ·rw [if_neg (by omega),if_pos (by omega)]
     ·rw [if_neg (by omega),if_neg (by omega)]
   rw [e,decide_eq_true h1,decide_eq_true h2]
   have n0:(!(true==true))=false:=rfl
   simp only [go_sem,Fn.y2f,n0,hba]
  ·have e:cmpZ a b=-1:=by unfold cmpZ;rw [if_pos (by omega)]
   rw [e,decide_eq_true h1,decide_eq_false h2]
   have n0:(!(true==false))=true:=rfl
   simp only [go_sem,Fn.y2f,n0]
 ·by_cases h2:b<0
  ·have e:cmpZ a b=1:=by unfold cmpZ;rw [if_neg (by omega),if_pos (by omega)]
   rw [e,decide_eq_false h1,decide_eq_true h2]
   have n0:(!(false==true))=true:=rfl
   simp only [go_sem,Fn.y2f,n0]
  ·have e:cmpZ a b=cmpI a.natAbs b.natAbs:=by
    unfold cmpZ cmpI
    clear hab hba
    split
    ·rw [if_pos (by omega)]
    ·split
     ·rw [if_neg (by omega),if_pos (by omega)]
     ·rw [if_neg (by omega),if_neg (by omega)]
   rw [e,decide_eq_false h1,decide_eq_false h2]
   have n0:(!(false==false))=false:=rfl
   simp only [go_sem,Fn.y2f,n0,hab]
end Go.Ev
namespace Go.Ev
open Go.Dig
theorem y8o {S:Nat} (a b:Rat) (ha:SmQ S a) (hb:SmQ S b) (hS:S≤2^30):Calling Id.y1j [.agg (qC a),.agg (qC b)] (.one (.int .i64 (cmpQ a b))):=
 (Ends.of (4*(S+S)+100) fun hn=>yeg a b ha hb (by omega) hn:Ends Id.y1j [.agg (qC a),.agg (qC b)] (.one (.int .i64 (cmpQ a b)))).call (can2 (y1b _) (y1b _))
theorem ybg (a:Rat):Calling Id.y2q [.agg (qC a)] (.one (.int .i64 (signI a.num))):=
 (Ends.of 1 fun {n} hn=>by obtain ⟨m,rfl⟩:∃m,n=m+1:=⟨n-1,by omega⟩;exact yn5 a m:Ends Id.y2q [.agg (qC a)] (.one (.int .i64 (signI a.num)))).call (can1 (y1b _))
structure SmSamp (s:Samp):Prop where
 load:SmQ 256 s.load
 angle:SmQ 256 s.angle
 speed:SmQ 256 s.speed
theorem Beat.sm (b:Beat):SmSamp b.s:=⟨Num.qS _,Num.qS _,Num.qS _⟩
structure SmBx (b:Bx):Prop where
 low:SmSamp b.low
 high:SmSamp b.high
theorem Rng.sm (b:Rng):SmBx b.b:=⟨Beat.sm _,Beat.sm _⟩
theorem yo3 (s:Samp):Ends Id.y1p [.agg s.c] (.agg s.c):=by
 refine .of 0 fun {n} hn=> ?_
 rw [y02 ybt]
 obtain ⟨c0,c1,c2,c3,c4,c5,c6,c7,c8,e,f0,f1,f2,f3,f4,f5,f6,f7,f8⟩:=y5x s
 rw [e]
 unfold Fz at*
 simp only [go_sem,Fn.y1p,f0,f1,f2,f3,f4,f5,f6,f7,f8]
theorem ydl (s:Samp):Calling Id.y1p [.agg s.c] (.agg s.c):=(yo3 s).call (can1' (.samp s))
def rightBx (b:Bx):Bool:=decide (cmpQ b.low.load b.high.load≤0)&&(decide (cmpQ b.low.angle b.high.angle≤0)&&decide (cmpQ b.low.speed b.high.speed≤0))
theorem yrw (b:Bx) (h:SmBx b):Ends Id.y2z [.agg b.c] (.one (.bool (rightBx b))):=by
 obtain ⟨x,y⟩:=b
 obtain ⟨⟨x1,x2,x3⟩,⟨y1,y2,y3⟩⟩:=h
 obtain ⟨N1,h1⟩:=ydl x
 obtain ⟨N2,h2⟩:=ydl y
 obtain ⟨N3,h3⟩:=y8o x.load y.load x1 y1 (by decide)
 obtain ⟨N4,h4⟩:=y8o x.angle y.angle x2 y2 (by decide)
 obtain ⟨N5,h5⟩:=y8o x.speed y.speed x3 y3 (by decide)
 refine .of (N1+N2+N3+N4+N5+6) fun {n} hn=> ?_
 have h1:=h1 n (by omega)
 have h2:=h2 n (by omega)
 have h3:=h3 n (by omega)
 have h4:=h4 n (by omega)
 have h5:=h5 n (by omega)
 rw [y02 ygx]
 unfold rightBx Bx.c Samp.c
 unfold Samp.c at h1 h2
 obtain ⟨a1,a2,a3,ea,-,-,-⟩:=y08 x.load
 obtain ⟨b1,b2,b3,eb,-,-,-⟩:=y08 x.angle
 obtain ⟨c1,c2,c3,ec,-,-,-⟩:=y08 x.speed
 obtain ⟨p1,p2,p3,ep,-,-,-⟩:=y08 y.load
 obtain ⟨q1,q2,q3,eq,-,-,-⟩:=y08 y.angle
 obtain ⟨r1,r2,r3,er,-,-,-⟩:=y08 y.speed
 simp only [ea,eb,ec,ep,eq,er,List.cons_append,List.nil_append] at h1 h2 h3 h4 h5 ⊢
 generalize cmpQ x.load y.load=k1 at*
 generalize cmpQ x.angle y.angle=k2 at*
 generalize cmpQ x.speed y.speed=k3 at*
 have t0:((0:Int)<3)=True:=by simp
 have t1:((1:Int)<3)=True:=by simp
 have t2:((2:Int)<3)=True:=by simp
 have t3:((3:Int)<3)=False:=by simp
 have w0:IntKind.i64.wrap (0+1)=1:=by decide
 have w1:IntKind.i64.wrap (1+1)=2:=by decide
 have w2:IntKind.i64.wrap (2+1)=3:=by decide
 have i0:natOf 0=some 0:=rfl
 have i1:natOf 1=some 1:=rfl
 have i2:natOf 2=some 2:=rfl
 have hlo:∀(ob:Nat→Option AObj) (b3' b4':Nat),ob b3'=some (.box [a1,a2,a3,b1,b2,b3,c1,c2,c3])→ob b4'=some (.box [p1,p2,p3,q1,q2,q3,r1,r2,r3])→∀nx,b3'<nx→b4'<nx→
   (∃X',k1≤0∧k2≤0∧k3≤0∧loopN (evC (evF E n) n Fn.y2h) n ⟨env [(3,.one (.box b3' 0)),(4,.one (.box b4' 0)),(12,.one (.int .i64 0))],ob,fz0,nx⟩=some (.ext 0,⟨env X',ob,fz0,nx⟩))∨
   (∃X',¬(k1≤0∧k2≤0∧k3≤0)∧loopN (evC (evF E n) n Fn.y2h) n ⟨env [(3,.one (.box b3' 0)),(4,.one (.box b4' 0)),(12,.one (.int .i64 0))],ob,fz0,nx⟩=some (.ret,⟨env ((2,.one (.bool false))::X'),ob,fz0,nx⟩)):=by
  intro ob b3' b4' o3 o4 nx l3 l4
  have l3:(b3'<nx)=True:=by simp [l3]
  have l4:(b4'<nx)=True:=by simp [l4]
  obtain ⟨n,rfl⟩:∃m,n=m+4:=⟨n-4,by omega⟩
  by_cases g1:k1≤0
  ·have g1':(k1>0)=False:=by simp only [eq_iff_iff,iff_false];omega
   have s0:evC (evF E (n+4)) (n+4) Fn.y2h ⟨env [(3,.one (.box b3' 0)),(4,.one (.box b4' 0)),(12,.one (.int .i64 0))],ob,fz0,nx⟩=some (.nrm,⟨env [(3,.one (.box b3' 0)),(4,.one (.box b4' 0)),(12,.one (.int .i64 1))],ob,fz0,nx⟩):=by
    simp only [go_sem,Fn.y2h,o3,o4,l3,l4,t0,i0,h3,g1',w0]
   by_cases g2:k2≤0
   ·have g2':(k2>0)=False:=by simp only [eq_iff_iff,iff_false];omega
    have s1:evC (evF E (n+4)) (n+4) Fn.y2h ⟨env [(3,.one (.box b3' 0)),(4,.one (.box b4' 0)),(12,.one (.int .i64 1))],ob,fz0,nx⟩=some (.nrm,⟨env [(3,.one (.box b3' 0)),(4,.one (.box b4' 0)),(12,.one (.int .i64 2))],ob,fz0,nx⟩):=by
     simp only [go_sem,Fn.y2h,o3,o4,l3,l4,t1,i1,h4,g2',w1]
    by_cases g3:k3≤0
    ·left
     have g3':(k3>0)=False:=by simp only [eq_iff_iff,iff_false];omega
     have s2:evC (evF E (n+4)) (n+4) Fn.y2h ⟨env [(3,.one (.box b3' 0)),(4,.one (.box b4' 0)),(12,.one (.int .i64 2))],ob,fz0,nx⟩=some (.nrm,⟨env [(3,.one (.box b3' 0)),(4,.one (.box b4' 0)),(12,.one (.int .i64 3))],ob,fz0,nx⟩):=by
      simp only [go_sem,Fn.y2h,o3,o4,l3,l4,t2,i2,h5,g3',w2]
     refine ⟨[(3,.one (.box b3' 0)),(4,.one (.box b4' 0)),(12,.one (.int .i64 3)),(13,.one (.bool false))],g1,g2,g3, ?_⟩
     rw [y05 s0,y05 s1,y05 s2]
     refine y06 ?_
     simp only [go_sem,Fn.y2h,t3]
    ·right
     have g3':(k3>0)=True:=by simp only [eq_iff_iff,iff_true];omega
     refine ⟨[],fun h=>g3 h.2.2, ?_⟩
     rw [y05 s0,y05 s1]
     refine y34 ?_
     simp only [go_sem,Fn.y2h,o3,o4,l3,l4,t2,i2,h5,g3']
   ·right
    have g2':(k2>0)=True:=by simp only [eq_iff_iff,iff_true];omega
    refine ⟨[],fun h=>g2 h.2.1, ?_⟩
    rw [y05 s0]
    refine y34 ?_
    simp only [go_sem,Fn.y2h,o3,o4,l3,l4,t1,i1,h4,g2']
  ·right
   have g1':(k1>0)=True:=by simp only [eq_iff_iff,iff_true];omega
   refine ⟨[],fun h=>g1 h.1, ?_⟩
   refine y34 ?_
   simp only [go_sem,Fn.y2h,o3,o4,l3,l4,t0,i0,h3,g1']
 have key:∀(ob:Nat→Option AObj) (b3' b4':Nat),ob b3'=some (.box [a1,a2,a3,b1,b2,b3,c1,c2,c3])→ob b4'=some (.box [p1,p2,p3,q1,q2,q3,r1,r2,r3])→∀nx,b3'<nx→b4'<nx→finV [.tmp 2] (thenC (evF E n) n (.seq (.reg false [⟨some 2,.mov (.c (.one (.bool true))),none,.no⟩] 0 [2]) .ret) (blkC 0 (loopN (evC (evF E n) n Fn.y2h) n ⟨env [(3,.one (.box b3' 0)),(4,.one (.box b4' 0)),(12,.one (.int .i64 0))],ob,fz0,nx⟩)))=some (.one (.bool (decide (k1≤0)&&(decide (k2≤0)&&decide (k3≤0))))):=by
  intro ob b3' b4' o3 o4 nx l3 l4
  rcases hlo ob b3' b4' o3 o4 nx l3 l4 with ⟨X',g1,g2,g3,hl⟩ | ⟨X',g,hl⟩
  ·simp only [go_sem,hl,g1,g2,g3]
  ·have e:(decide (k1≤0)&&(decide (k2≤0)&&decide (k3≤0)))=false:=by
    rw [←Bool.not_eq_true]
    simpa using g
   rw [e]
   simp only [go_sem,hl]
 simp only [go_sem,Fn.y2z,h1,h2]
 refine key _ _ _ ?_ ?_ _ ?_ ?_
 ·rfl
 ·rfl
 ·decide
 ·decide
theorem yra (b:Bx) (h:SmBx b):Calling Id.y2z [.agg b.c] (.one (.bool (rightBx b))):=(yrw b h).call (can1' (.bx b))
def amongB (q lo hi:Rat):Bool:=decide (cmpQ q lo≥0)&&decide (cmpQ q hi≤0)
theorem yr0 (q lo hi:Rat) (h1:SmQ 256 q) (h2:SmQ 256 lo) (h3:SmQ 256 hi):Ends Id.y4j [.agg (qC q),.agg (qC lo),.agg (qC hi)] (.one (.bool (amongB q lo hi))):=by
 obtain ⟨N1,k1⟩:=y8o q lo h1 h2 (by decide)
 obtain ⟨N2,k2⟩:=y8o q hi h1 h3 (by decide)
 refine .of (N1+N2) fun {n} hn=> ?_
 have k1:=k1 n (by omega)
 have k2:=k2 n (by omega)
 rw [y02 ymq]
 unfold amongB
 obtain ⟨a1,a2,a3,ea,-,-,-⟩:=y08 q
 obtain ⟨b1,b2,b3,eb,-,-,-⟩:=y08 lo
 obtain ⟨c1,c2,c3,ec,-,-,-⟩:=y08 hi
 simp only [ea,eb,ec] at k1 k2 ⊢
 generalize cmpQ q lo=x at*
 generalize cmpQ q hi=y at*
 by_cases g:x≥0
 ·simp only [go_sem,Fn.y4j,k1,k2,g]
 ·have g':(x≥0)=False:=by simp [g]
  simp only [go_sem,Fn.y4j,k1,k2,g']
theorem ycd (q lo hi:Rat) (h1:SmQ 256 q) (h2:SmQ 256 lo) (h3:SmQ 256 hi):Calling Id.y4j [.agg (qC q),.agg (qC lo),.agg (qC hi)] (.one (.bool (amongB q lo hi))):=
 (yr0 q lo hi h1 h2 h3).call fun x hx=>by
  simp only [List.mem_cons,List.not_mem_nil,or_false] at hx
  rcases hx with rfl | rfl | rfl<;>exact y1b _
def hasBx (b:Bx) (s:Samp):Bool:=amongB s.load b.low.load b.high.load&&(amongB s.angle b.low.angle b.high.angle&&amongB s.speed b.low.speed b.high.speed)
theorem yv7 (b:Bx) (s:Samp) (hb:SmBx b) (hs:SmSamp s):Ends Id.y3c [.agg b.c,.agg s.c] (.one (.bool (hasBx b s))):=by
 obtain ⟨N1,k1⟩:=ycd _ _ _ hs.load hb.low.load hb.high.load
 obtain ⟨N2,k2⟩:=ycd _ _ _ hs.angle hb.low.angle hb.high.angle
 obtain ⟨N3,k3⟩:=ycd _ _ _ hs.speed hb.low.speed hb.high.speed
 refine .of (N1+N2+N3) fun {n} hn=> ?_
 have k1:=k1 n (by omega)
 have k2:=k2 n (by omega)
 have k3:=k3 n (by omega)
 rw [y02 yj8]
 unfold hasBx
 obtain ⟨x,y⟩:=b
 unfold Bx.c Samp.c
 dsimp only at*
 obtain ⟨a1,a2,a3,ea,-,-,-⟩:=y08 x.load
 obtain ⟨b1,b2,b3,eb,-,-,-⟩:=y08 x.angle
 obtain ⟨c1,c2,c3,ec,-,-,-⟩:=y08 x.speed
 obtain ⟨p1,p2,p3,ep,-,-,-⟩:=y08 y.load
 obtain ⟨q1,q2,q3,eq,-,-,-⟩:=y08 y.angle
 obtain ⟨r1,r2,r3,er,-,-,-⟩:=y08 y.speed
 obtain ⟨u1,u2,u3,eu,-,-,-⟩:=y08 s.load
 obtain ⟨v1,v2,v3,ev,-,-,-⟩:=y08 s.angle
 obtain ⟨w1,w2,w3,ew,-,-,-⟩:=y08 s.speed
 simp only [ea,eb,ec,ep,eq,er,eu,ev,ew] at k1 k2 k3 ⊢
 generalize amongB s.load x.load y.load=z1 at*
 generalize amongB s.angle x.angle y.angle=z2 at*
 generalize amongB s.speed x.speed y.speed=z3 at*
 cases z1<;>cases z2<;>simp only [go_sem,Fn.y3c,k1,k2,k3]
theorem ywk (b:Bx) (s:Samp) (hb:SmBx b) (hs:SmSamp s):Calling Id.y3c [.agg b.c,.agg s.c] (.one (.bool (hasBx b s))):=(yv7 b s hb hs).call (can2 (CanL.bx b).agg (CanL.samp s).agg)
end Go.Ev
namespace Go.Ev
open Go.Dig
structure SmPt (p:Pt):Prop where
 x:SmQ 256 p.x
 z:SmQ 256 p.z
theorem Spot.sm (s:Spot):SmPt s.p:=⟨Num.qS _,Num.qS _⟩
theorem y5u (p:Pt):∃a b c d e f,qC p.x=[a,b,c]∧qC p.z=[d,e,f]∧p.c=[a,b,c,d,e,f]:=⟨_,_,_,_,_,_,rfl,rfl,rfl⟩
def incC:List Pt→Bool
 | a::b::r=>decide (cmpQ a.x b.x<0)&&incC (b::r)
 | _=>true
theorem yln {S:Nat} (hS:S≤2^30) (l:List Rat) (h:∀x∈l,SmQ S x):∃N,∀n,N≤n→∀a∈l,∀b∈l,∀(ob:Nat→Option AObj) (fz:Nat→Nat),callV (evF E n) Id.y1j [.agg (qC a),.agg (qC b)] ob fz=some (.fzd fz (.one (.int .i64 (cmpQ a b)))):=by
 refine ⟨4*(S+S)+101,fun n hn a ha b hb=> ?_⟩
 obtain ⟨m,rfl⟩:∃m,n=m+1:=⟨n-1,by omega⟩
 exact y01 (yeg a b (h a ha) (h b hb) (by omega) (n:=m) (by omega)) (can2 (y1b _) (y1b _))
theorem y1m {α:Type} {f:α→List AV} {k:Nat} (h:∀a,(f a).length=k) (l:List α):okSz k (l.map f)=true:=by
 cases l with
 | nil=>rfl
 | cons a r=>simp only [List.map_cons,okSz,h,Nat.beq_refl]
theorem yam (p:Pt):p.c.length=6:=rfl
theorem yfk {n:Nat} {ob:Nat→Option AObj} {fz:Nat→Nat} {nx:Nat} (l:List Pt) (hl:l.length<2^60) (hc:∀a∈l,∀b∈l,∀(ob:Nat→Option AObj) (fz:Nat→Nat),callV (evF E n) Id.y1j [.agg (qC a.x),.agg (qC b.x)] ob fz=some (.fzd fz (.one (.int .i64 (cmpQ a.x b.x))))):∀(m j:Nat),j+1+m=l.length→∀(X:List (Nat×SV)) (N:Nat),m<N→
  if incC (l.drop j)=true then ∃X',loopN (evC (evF E n) n Fn.y44) N ⟨env ((0,.one (.sl false (l.map Pt.c)))::(3,.one (.int .i64 ((j+1:Nat):Int)))::X),ob,fz,nx⟩=some (.ext 0,⟨env ((0,.one (.sl false (l.map Pt.c)))::X'),ob,fz,nx⟩)
  else ∃X',loopN (evC (evF E n) n Fn.y44) N ⟨env ((0,.one (.sl false (l.map Pt.c)))::(3,.one (.int .i64 ((j+1:Nat):Int)))::X),ob,fz,nx⟩=some (.ret,⟨env ((2,.one (.bool false))::X'),ob,fz,nx⟩)
 | 0,j,hj,X,N+1,hN=>by
  have h1:(((j+1:Nat):Int)<((l.length:Nat):Int))=False:=by simp only [eq_iff_iff,iff_false];omega
  have e:incC (l.drop j)=true:=by
   rw [List.drop_eq_getElem_cons (show j<l.length by omega),List.drop_eq_nil_of_le (by omega)]
   rfl
  rw [if_pos e]
  refine ⟨[(3,.one (.int .i64 ((j+1:Nat):Int))),(7,.one (.bool false))],y06 ?_⟩
  simp only [go_sem,Fn.y44,List.length_map,h1]
 | m+1,j,hj,X,N+1,hN=>by
  have hj1:j<l.length:=by omega
  have hj2:j+1<l.length:=by omega
  have h1:(((j+1:Nat):Int)<((l.length:Nat):Int))=True:=by simp only [eq_iff_iff,iff_true];omega
  have wk:IntKind.i64.wrap ((j+1+1:Nat):Int)=((j+1+1:Nat):Int):=wi64 (by omega)
  have w1:IntKind.i64.wrap (((j+1:Nat):Int)-1)=((j:Nat):Int):=by rw [wrap_i64 (by omega)];omega
  obtain ⟨a1,a2,a3,a4,a5,a6,ea,-,ea'⟩:=y5u l[j]
  obtain ⟨b1,b2,b3,b4,b5,b6,eb,-,eb'⟩:=y5u l[j+1]
  have g1:(l.map Pt.c)[j]? =some [a1,a2,a3,a4,a5,a6]:=by rw [List.getElem?_map,List.getElem?_eq_getElem hj1,Option.map_some,ea']
  have g2:(l.map Pt.c)[j+1]? =some [b1,b2,b3,b4,b5,b6]:=by rw [List.getElem?_map,List.getElem?_eq_getElem hj2,Option.map_some,eb']
  have hcc:=hc l[j] (by simp) l[j+1] (by simp)
  rw [ea,eb] at hcc
  have okz:okSz 6 (l.map Pt.c)=true:=y1m yam l
  have e:incC (l.drop j)=(decide (cmpQ l[j].x l[j+1].x<0)&&incC (l.drop (j+1))):=by
   rw [List.drop_eq_getElem_cons hj1,List.drop_eq_getElem_cons hj2]
   rfl
  rw [e]
  generalize cmpQ l[j].x l[j+1].x=k at*
  by_cases hk:k<0
  ·rw [decide_eq_true hk,Bool.true_and]
   have g3:(k≥0)=False:=by simp only [eq_iff_iff,iff_false];omega
   have hst:evC (evF E n) n Fn.y44 ⟨env ((0,.one (.sl false (l.map Pt.c)))::(3,.one (.int .i64 ((j+1:Nat):Int)))::X),ob,fz,nx⟩=some (.nrm,⟨env [(0,.one (.sl false (l.map Pt.c))),(3,.one (.int .i64 ((j+1+1:Nat):Int)))],ob,fz,nx⟩):=by
    simp only [go_sem,Fn.y44,List.length_map,h1,w1,g1,g2,okz,hcc,g3,add1,wk]
   rw [y05 hst]
   exact yfk l hl hc m (j+1) (by omega) [] N (by omega)
  ·rw [decide_eq_false hk,Bool.false_and,if_neg (by simp)]
   have g3:(k≥0)=True:=by simp only [eq_iff_iff,iff_true];omega
   refine ⟨[],y34 ?_⟩
   simp only [go_sem,Fn.y44,List.length_map,h1,w1,g1,g2,okz,hcc,g3]
def rightC (l:List Pt):Bool:=incC l&&(decide (1≤l.length)&&decide (l.length≤8))
theorem yp8 (l:List Pt) (hl:l.length<2^60) (h:∀p∈l,SmPt p):Ends Id.y1u [.one (.sl false (l.map Pt.c))] (.one (.bool (rightC l))):=by
 obtain ⟨N,hN⟩:=yln (S:=256) (by decide) (l.map Pt.x) (fun x hx=>by
  obtain ⟨p,hp,rfl⟩:=List.mem_map.1 hx
  exact (h p hp).x)
 refine .of (N+l.length+1) fun {n} hn=> ?_
 have hc:∀a∈l,∀b∈l,∀(ob:Nat→Option AObj) (fz:Nat→Nat),callV (evF E n) Id.y1j [.agg (qC a.x),.agg (qC b.x)] ob fz=some (.fzd fz (.one (.int .i64 (cmpQ a.x b.x)))):=fun a ha b hb=>hN n (by omega) a.x (List.mem_map_of_mem ha) b.x (List.mem_map_of_mem hb)
 rw [y02 ydc]
 unfold rightC
 have k1:(((l.length:Nat):Int)≥1)=(1≤l.length):=by rw [eq_iff_iff];omega
 have k2:(((l.length:Nat):Int)≤8)=(l.length≤8):=by rw [eq_iff_iff];omega
 rcases l with _ | ⟨p,r⟩
 ·have h1:((1:Int)<((0:Nat):Int))=False:=by simp
  have h2:(((0:Nat):Int)≥1)=False:=by simp
  have hlo:loopN (evC (evF E n) n Fn.y44) n ⟨env [(0,.one (.sl false [])),(3,.one (.int .i64 1))],ob0,fz0,0⟩=some (.ext 0,⟨env [(0,.one (.sl false [])),(3,.one (.int .i64 1)),(7,.one (.bool false))],ob0,fz0,0⟩):=by
   obtain ⟨m,rfl⟩:∃m,n=m+1:=⟨n-1,by omega⟩
   refine y06 ?_
   simp only [go_sem,Fn.y44,h1]
  have e1:(1≤0)=False:=by simp
  simp only [go_sem,Fn.y1u,hlo,h2,e1,incC]
 ·have hlo:=yfk (ob:=ob0) (fz:=fz0) (nx:=0) (p::r) hl hc r.length 0 (by simp;omega) [] n (by simp at hn;omega)
  rw [show ((0+1:Nat):Int)=1 from rfl,List.drop_zero] at hlo
  generalize p::r=l at*
  by_cases hi:incC l=true
  ·rw [if_pos hi] at hlo
   obtain ⟨X',hlo⟩:=hlo
   rw [hi,Bool.true_and]
   by_cases b1:1≤l.length<;>simp only [go_sem,Fn.y1u,List.length_map,hlo,k1,k2,b1]
  ·rw [if_neg hi] at hlo
   obtain ⟨X',hlo⟩:=hlo
   rw [Bool.not_eq_true] at hi
   rw [hi]
   simp only [go_sem,Fn.y1u,hlo]
theorem yot (l:List Pt) (hl:l.length<2^60) (h:∀p∈l,SmPt p):Calling Id.y1u [.one (.sl false (l.map Pt.c))] (.one (.bool (rightC l))):=(yp8 l hl h).call (can1 (.one _ (.sl _)))
def badC (l:List Pt):Bool:= !rightC l
theorem yp4 (l:List Pt) (hl:l.length<2^60) (h:∀p∈l,SmPt p):Ends Id.y4l [.one (.sl false (l.map Pt.c))] (.one (.bool (badC l))):=by
 obtain ⟨N,hN⟩:=yot l hl h
 refine .of N fun {n} hn=> ?_
 have hN:=hN n hn
 rw [y02 yjl]
 unfold badC
 simp only [go_sem,Fn.y4l,hN]
def badL (p:Pt):Bool:=decide (signI p.x.num<0) || decide (signI p.z.num<0)
theorem yoj (p:Pt):Ends Id.y4b [.agg p.c] (.one (.bool (badL p))):=by
 obtain ⟨N1,h1⟩:=ybg p.x
 obtain ⟨N2,h2⟩:=ybg p.z
 refine .of (N1+N2) fun {n} hn=> ?_
 have h1:=h1 n (by omega)
 have h2:=h2 n (by omega)
 rw [y02 yiw]
 unfold badL
 obtain ⟨a1,a2,a3,a4,a5,a6,ea,eb,ec⟩:=y5u p
 rw [ea] at h1
 rw [eb] at h2
 rw [ec]
 generalize signI p.x.num=x at*
 generalize signI p.z.num=y at*
 by_cases g:x<0
 ·simp only [go_sem,Fn.y4b,h1,h2,g]
 ·simp only [go_sem,Fn.y4b,h1,h2,g]
end Go.Ev
namespace Go.Ev
open Go.Dig
theorem yb0 {n:Nat} {ob:Nat→Option AObj} {fz:Nat→Nat} {nx:Nat} (f:FuncId) (bad:List Pt→Bool) (l:List (List Pt)) (hl:l.length<2^60) (hc:∀p∈l,∀(ob:Nat→Option AObj) (fz:Nat→Nat),callV (evF E n) f [.one (.sl false (p.map Pt.c))] ob fz=some (.fzd fz (.one (.bool (bad p))))):∀(m i:Nat),i+m=l.length→∀(X:List (Nat×SV)) (N:Nat),m<N→
  if (l.drop i).any bad=true then ∃(k:Int) (X':List (Nat×SV)),k≥0∧loopN (evC (evF E n) n Fn.y13) N ⟨env ((0,.one (.sl false (l.map (fun c:List Pt=>[AV.sl false (c.map Pt.c)]))))::(1,.one (.fn f [] []))::(7,.one (.int .i64 (l.length:Int)))::(8,.one (.int .i64 (i:Int)))::X),ob,fz,nx⟩=some (.ret,⟨env ((4,.one (.int .i64 k))::X'),ob,fz,nx⟩)
  else ∃X',loopN (evC (evF E n) n Fn.y13) N ⟨env ((0,.one (.sl false (l.map (fun c:List Pt=>[AV.sl false (c.map Pt.c)]))))::(1,.one (.fn f [] []))::(7,.one (.int .i64 (l.length:Int)))::(8,.one (.int .i64 (i:Int)))::X),ob,fz,nx⟩=some (.ext 0,⟨env X',ob,fz,nx⟩)
 | 0,i,hi,X,N+1,hN=>by
  have hi':i=l.length:=by omega
  subst hi'
  rw [List.drop_length,List.any_nil,if_neg (by simp)]
  have h1:(((l.length:Nat):Int)<((l.length:Nat):Int))=False:=by simp
  refine ⟨[(0,.one (.sl false (l.map (fun c:List Pt=>[AV.sl false (c.map Pt.c)])))),(1,.one (.fn f [] [])),(7,.one (.int .i64 (l.length:Int))),(8,.one (.int .i64 (l.length:Int))),(9,.one (.bool false))],y06 ?_⟩
  simp only [go_sem,Fn.y13,h1]
 | m+1,i,hi,X,N+1,hN=>by
  have hil:i<l.length:=by omega
  have h1:(((i:Nat):Int)<((l.length:Nat):Int))=True:=by simp;omega
  have wk:IntKind.i64.wrap ((i+1:Nat):Int)=((i+1:Nat):Int):=wi64 (by omega)
  have okz:okSz 1 (l.map (fun c:List Pt=>[AV.sl false (c.map Pt.c)]))=true:=y1m (f:=fun c:List Pt=>[AV.sl false (c.map Pt.c)]) (k:=1) (fun _=>rfl) l
  have hcc:=hc l[i] (by simp)
  rw [List.drop_eq_getElem_cons hil,List.any_cons]
  have gd:(l.map (fun c:List Pt=>[AV.sl false (c.map Pt.c)]))[i]? =some ((fun c:List Pt=>[AV.sl false (c.map Pt.c)]) l[i]):=by rw [List.getElem?_map,List.getElem?_eq_getElem hil];rfl
  generalize l[i]=p at*
  dsimp only at gd
  cases hb:bad p with
  | true=>
   rw [hb] at hcc
   rw [Bool.true_or,if_pos rfl]
   refine ⟨(i:Int),[],by omega,y34 ?_⟩
   simp only [go_sem,Fn.y13,h1,gd,okz,hcc]
  | false=>
   rw [hb] at hcc
   rw [Bool.false_or]
   have hst:evC (evF E n) n Fn.y13 ⟨env ((0,.one (.sl false (l.map (fun c:List Pt=>[AV.sl false (c.map Pt.c)]))))::(1,.one (.fn f [] []))::(7,.one (.int .i64 (l.length:Int)))::(8,.one (.int .i64 (i:Int)))::X),ob,fz,nx⟩=some (.nrm,⟨env [(0,.one (.sl false (l.map (fun c:List Pt=>[AV.sl false (c.map Pt.c)])))),(1,.one (.fn f [] [])),(7,.one (.int .i64 (l.length:Int))),(8,.one (.int .i64 ((i+1:Nat):Int)))],ob,fz,nx⟩):=by
    simp only [go_sem,Fn.y13,h1,gd,okz,hcc,add1,wk]
   rw [y05 hst]
   exact yb0 f bad l hl hc m (i+1) (by omega) [] N (by omega)
theorem ye8 (f:FuncId) (bad:List Pt→Bool) (l:List (List Pt)) (hl:l.length<2^60) (hc:∃N,∀n,N≤n→∀p∈l,∀(ob:Nat→Option AObj) (fz:Nat→Nat),callV (evF E n) f [.one (.sl false (p.map Pt.c))] ob fz=some (.fzd fz (.one (.bool (bad p))))):Ends Id.y0a [.one (.sl false (l.map (fun c:List Pt=>[AV.sl false (c.map Pt.c)]))),.one (.fn f [] [])] (.one (.bool (l.any bad))):=by
 obtain ⟨N,hN⟩:=hc
 refine .of (N+l.length+3) fun {n} hn=> ?_
 obtain ⟨n,rfl⟩:∃m,n=m+1:=⟨n-1,by omega⟩
 have hcn:CanS (.one (.fn f [] [])):=.one _ (.fn _)
 have hi:∃k:Int,decide (k≥0)=l.any bad∧evV E (n+1) Id.y0d [.one (.sl false (l.map (fun c:List Pt=>[AV.sl false (c.map Pt.c)]))),.one (.fn f [] [])]=some (.one (.int .i64 k)):=by
  rw [y02 y7s]
  have hlo:=yb0 (n:=n) (ob:=ob0) (fz:=fz0) (nx:=0) f bad l hl (hN n (by omega)) l.length 0 (by omega) [] n (by omega)
  rw [show ((0:Nat):Int)=0 from rfl,List.drop_zero] at hlo
  by_cases ha:l.any bad=true
  ·rw [if_pos ha] at hlo
   obtain ⟨k,X',hk,hlo⟩:=hlo
   refine ⟨k,by rw [ha];simpa using hk, ?_⟩
   simp only [go_sem,Fn.y0d,List.length_map,hlo]
  ·rw [if_neg ha] at hlo
   obtain ⟨X',hlo⟩:=hlo
   rw [Bool.not_eq_true] at ha
   refine ⟨-1,by rw [ha];rfl, ?_⟩
   simp only [go_sem,Fn.y0d,List.length_map,hlo]
 obtain ⟨k,hk,hi⟩:=hi
 have hic:=y01 hi (can2 (.one _ (.sl _)) hcn)
 rw [y02 y7i,←hk]
 simp only [go_sem,Fn.y0a,hic]
theorem ydi (f:FuncId) (bad:List Pt→Bool) (l:List (List Pt)) (hl:l.length<2^60) (hc:∃N,∀n,N≤n→∀p∈l,∀(ob:Nat→Option AObj) (fz:Nat→Nat),callV (evF E n) f [.one (.sl false (p.map Pt.c))] ob fz=some (.fzd fz (.one (.bool (bad p))))):Calling Id.y0a [.one (.sl false (l.map (fun c:List Pt=>[AV.sl false (c.map Pt.c)]))),.one (.fn f [] [])] (.one (.bool (l.any bad))):=
 (ye8 f bad l hl hc).call (can2 (.one _ (.sl _)) (.one _ (.fn _)))
theorem yb6 {n:Nat} {ob:Nat→Option AObj} {fz:Nat→Nat} {nx:Nat} (f:FuncId) (bad:Pt→Bool) (l:List (Pt)) (hl:l.length<2^60) (hc:∀p∈l,∀(ob:Nat→Option AObj) (fz:Nat→Nat),callV (evF E n) f [.agg p.c] ob fz=some (.fzd fz (.one (.bool (bad p))))):∀(m i:Nat),i+m=l.length→∀(X:List (Nat×SV)) (N:Nat),m<N→
  if (l.drop i).any bad=true then ∃(k:Int) (X':List (Nat×SV)),k≥0∧loopN (evC (evF E n) n Fn.y14) N ⟨env ((0,.one (.sl false (l.map Pt.c)))::(1,.one (.fn f [] []))::(7,.one (.int .i64 (l.length:Int)))::(8,.one (.int .i64 (i:Int)))::X),ob,fz,nx⟩=some (.ret,⟨env ((4,.one (.int .i64 k))::X'),ob,fz,nx⟩)
  else ∃X',loopN (evC (evF E n) n Fn.y14) N ⟨env ((0,.one (.sl false (l.map Pt.c)))::(1,.one (.fn f [] []))::(7,.one (.int .i64 (l.length:Int)))::(8,.one (.int .i64 (i:Int)))::X),ob,fz,nx⟩=some (.ext 0,⟨env X',ob,fz,nx⟩)
 | 0,i,hi,X,N+1,hN=>by
  have hi':i=l.length:=by omega
  subst hi'
  rw [List.drop_length,List.any_nil,if_neg (by simp)]
  have h1:(((l.length:Nat):Int)<((l.length:Nat):Int))=False:=by simp
  refine ⟨[(0,.one (.sl false (l.map Pt.c))),(1,.one (.fn f [] [])),(7,.one (.int .i64 (l.length:Int))),(8,.one (.int .i64 (l.length:Int))),(9,.one (.bool false))],y06 ?_⟩
  simp only [go_sem,Fn.y14,h1]
 | m+1,i,hi,X,N+1,hN=>by
  have hil:i<l.length:=by omega
  have h1:(((i:Nat):Int)<((l.length:Nat):Int))=True:=by simp;omega
  have wk:IntKind.i64.wrap ((i+1:Nat):Int)=((i+1:Nat):Int):=wi64 (by omega)
  have okz:okSz 6 (l.map Pt.c)=true:=y1m yam l
  have hcc:=hc l[i] (by simp)
  rw [List.drop_eq_getElem_cons hil,List.any_cons]
  have gd:(l.map Pt.c)[i]? =some (Pt.c l[i]):=by rw [List.getElem?_map,List.getElem?_eq_getElem hil];rfl
  generalize l[i]=p at*
  obtain ⟨a1,a2,a3,a4,a5,a6,-,-,ec⟩:=y5u p
  rw [ec] at gd hcc
  cases hb:bad p with
  | true=>
   rw [hb] at hcc
   rw [Bool.true_or,if_pos rfl]
   refine ⟨(i:Int),[],by omega,y34 ?_⟩
   simp only [go_sem,Fn.y14,h1,gd,okz,hcc]
  | false=>
   rw [hb] at hcc
   rw [Bool.false_or]
   have hst:evC (evF E n) n Fn.y14 ⟨env ((0,.one (.sl false (l.map Pt.c)))::(1,.one (.fn f [] []))::(7,.one (.int .i64 (l.length:Int)))::(8,.one (.int .i64 (i:Int)))::X),ob,fz,nx⟩=some (.nrm,⟨env [(0,.one (.sl false (l.map Pt.c))),(1,.one (.fn f [] [])),(7,.one (.int .i64 (l.length:Int))),(8,.one (.int .i64 ((i+1:Nat):Int)))],ob,fz,nx⟩):=by
    simp only [go_sem,Fn.y14,h1,gd,okz,hcc,add1,wk]
   rw [y05 hst]
   exact yb6 f bad l hl hc m (i+1) (by omega) [] N (by omega)
theorem ye4 (f:FuncId) (bad:Pt→Bool) (l:List (Pt)) (hl:l.length<2^60) (hc:∃N,∀n,N≤n→∀p∈l,∀(ob:Nat→Option AObj) (fz:Nat→Nat),callV (evF E n) f [.agg p.c] ob fz=some (.fzd fz (.one (.bool (bad p))))):Ends Id.y0b [.one (.sl false (l.map Pt.c)),.one (.fn f [] [])] (.one (.bool (l.any bad))):=by
 obtain ⟨N,hN⟩:=hc
 refine .of (N+l.length+3) fun {n} hn=> ?_
 obtain ⟨n,rfl⟩:∃m,n=m+1:=⟨n-1,by omega⟩
 have hcn:CanS (.one (.fn f [] [])):=.one _ (.fn _)
 have hi:∃k:Int,decide (k≥0)=l.any bad∧evV E (n+1) Id.y0c [.one (.sl false (l.map Pt.c)),.one (.fn f [] [])]=some (.one (.int .i64 k)):=by
  rw [y02 y7z]
  have hlo:=yb6 (n:=n) (ob:=ob0) (fz:=fz0) (nx:=0) f bad l hl (hN n (by omega)) l.length 0 (by omega) [] n (by omega)
  rw [show ((0:Nat):Int)=0 from rfl,List.drop_zero] at hlo
  by_cases ha:l.any bad=true
  ·rw [if_pos ha] at hlo
   obtain ⟨k,X',hk,hlo⟩:=hlo
   refine ⟨k,by rw [ha];simpa using hk, ?_⟩
   simp only [go_sem,Fn.y0c,List.length_map,hlo]
  ·rw [if_neg ha] at hlo
   obtain ⟨X',hlo⟩:=hlo
   rw [Bool.not_eq_true] at ha
   refine ⟨-1,by rw [ha];rfl, ?_⟩
   simp only [go_sem,Fn.y0c,List.length_map,hlo]
 obtain ⟨k,hk,hi⟩:=hi
 have hic:=y01 hi (can2 (.one _ (.sl _)) hcn)
 rw [y02 y7j,←hk]
 simp only [go_sem,Fn.y0b,hic]
theorem ydt (f:FuncId) (bad:Pt→Bool) (l:List (Pt)) (hl:l.length<2^60) (hc:∃N,∀n,N≤n→∀p∈l,∀(ob:Nat→Option AObj) (fz:Nat→Nat),callV (evF E n) f [.agg p.c] ob fz=some (.fzd fz (.one (.bool (bad p))))):Calling Id.y0b [.one (.sl false (l.map Pt.c)),.one (.fn f [] [])] (.one (.bool (l.any bad))):=
 (ye4 f bad l hl hc).call (can2 (.one _ (.sl _)) (.one _ (.fn _)))
structure SmGuard (g:Guard):Prop where
 box:SmBx g.box
 f:g.from_<256
 t:g.to<256
structure SmDev (d:Dev):Prop where
 gs:∀g∈d.guards,SmGuard g
 cs:∀c∈d.curves,∀p∈c,SmPt p
 ls:∀p∈d.limits,SmPt p
 st:SmQ 256 d.step
 gl:d.guards.length<2^20
 cl:d.curves.length<2^20
 cll:∀c∈d.curves,c.length<2^20
 ll:d.limits.length<2^20
def badG (g:Guard):Bool:=decide (5≤g.from_) || (decide (5≤g.to) || (decide (g.from_=g.to) || (!rightBx g.box || (decide (g.hold<1) || decide (g.hold>8)))))
theorem ybj (g:Guard):∃c0 c1 c2 c3 c4 c5 c6 c7 c8 c9 c10 c11 c12 c13 c14 c15 c16 c17,g.box.c=[c0,c1,c2,c3,c4,c5,c6,c7,c8,c9,c10,c11,c12,c13,c14,c15,c16,c17]∧g.c=[.int .u8 (g.from_:Int),.int .u8 (g.to:Int),c0,c1,c2,c3,c4,c5,c6,c7,c8,c9,c10,c11,c12,c13,c14,c15,c16,c17,.int .i64 g.hold]:=
 ⟨_,_,_,_,_,_,_,_,_,_,_,_,_,_,_,_,_,_,rfl,rfl⟩
theorem yov {n:Nat} {ob:Nat→Option AObj} {nx i:Nat} (l:List Guard) (hl:l.length<2^20) (g:Guard) (gd:l[i]? =some g) (hil:i<l.length) (hc:∀(ob:Nat→Option AObj) (fz:Nat→Nat),callV (evF E n) Id.y2z [.agg g.box.c] ob fz=some (.fzd fz (.one (.bool (rightBx g.box))))) (x1:SV) (X:List (Nat×SV)):
  ∃ob':Nat→Option AObj,(∀id,id<nx→ob' id=ob id)∧evC (evF E n) n Fn.y49 ⟨env ((1,x1)::(29,.one (.sl false (l.map Guard.c)))::(30,.one (.int .i64 (l.length:Int)))::(31,.one (.int .i64 (i:Int)))::X),ob,fz0,nx⟩=
   if badG g=true then some (.ret,⟨env [(2,.one (.int .i64 2))],ob',fz0,nx+4⟩) else some (.nrm,⟨env [(1,x1),(29,.one (.sl false (l.map Guard.c))),(30,.one (.int .i64 (l.length:Int))),(31,.one (.int .i64 ((i+1:Nat):Int)))],ob',fz0,nx+4⟩):=by
 have h1:(((i:Nat):Int)<((l.length:Nat):Int))=True:=by simp;omega
 have wk:IntKind.i64.wrap ((i+1:Nat):Int)=((i+1:Nat):Int):=wi64 (by omega)
 have okz:okSz 21 (l.map Guard.c)=true:=y1m (f:=Guard.c) (k:=21) (fun _=>rfl) l
 have ge:(l.map Guard.c)[i]? =some g.c:=by rw [List.getElem?_map,gd];rfl
 obtain ⟨c0,c1,c2,c3,c4,c5,c6,c7,c8,c9,c10,c11,c12,c13,c14,c15,c16,c17,eb,ec⟩:=ybj g
 rw [eb] at hc
 rw [ec] at ge
 refine ⟨upd (upd ob (nx+2) (.box [.int .u8 0,.int .u8 0,.bool false,.nils,.nils,.bool false,.nils,.nils,.bool false,.nils,.nils,.bool false,.nils,.nils,.bool false,.nils,.nils,.bool false,.nils,.nils,.int .i64 0])) (nx+2) (.box [.int .u8 (g.from_:Int),.int .u8 (g.to:Int),c0,c1,c2,c3,c4,c5,c6,c7,c8,c9,c10,c11,c12,c13,c14,c15,c16,c17,.int .i64 g.hold]),fun id h=>by rw [y00 (by omega),y00 (by omega)], ?_⟩
 unfold badG
 generalize g.from_=fr at*
 generalize g.to=to at*
 generalize rightBx g.box=rb at*
 generalize g.hold=ho at*
 have q1:(((fr:Nat):Int)≥5)=(5≤fr):=by rw [eq_iff_iff];omega
 have q2:(((to:Nat):Int)≥5)=(5≤to):=by rw [eq_iff_iff];omega
 have q3:(((fr:Nat):Int)==((to:Nat):Int))=decide (fr=to):=by
  by_cases h:fr=to
  ·subst h;simp
  ·rw [decide_eq_false h];simp only [beq_eq_false_iff_ne,ne_eq];omega
 by_cases p1:5≤fr
 ·simp only [go_sem,Fn.y49,h1,ge,okz,hc,q1,p1]
 by_cases p2:5≤to
 ·simp only [go_sem,Fn.y49,h1,ge,okz,hc,q1,q2,p1,p2]
 by_cases p3:fr=to
 ·have p3':(fr=to)=True:=eq_true p3
  simp only [go_sem,Fn.y49,h1,ge,okz,hc,q1,q2,q3,p1,p2,p3']
 cases rb with
 | false=>simp only [go_sem,Fn.y49,h1,ge,okz,hc,q1,q2,q3,p1,p2,p3]
 | true=>
  by_cases p4:ho<1
  ·simp only [go_sem,Fn.y49,h1,ge,okz,hc,q1,q2,q3,p1,p2,p3,p4]
  by_cases p5:ho>8
  ·simp only [go_sem,Fn.y49,h1,ge,okz,hc,q1,q2,q3,p1,p2,p3,p4,p5]
  ·simp only [go_sem,Fn.y49,h1,ge,okz,hc,q1,q2,q3,p1,p2,p3,p4,p5,add1,wk]
theorem yh8 {n:Nat} (l:List Guard) (hl:l.length<2^20) (hc:∀g∈l,∀(ob:Nat→Option AObj) (fz:Nat→Nat),callV (evF E n) Id.y2z [.agg g.box.c] ob fz=some (.fzd fz (.one (.bool (rightBx g.box))))) (x1:SV):∀(m i:Nat),i+m=l.length→∀(ob:Nat→Option AObj) (nx:Nat) (X:List (Nat×SV)) (N:Nat),m<N→
  ∃(ob':Nat→Option AObj) (nx':Nat) (X':List (Nat×SV)),(∀id,id<nx→ob' id=ob id)∧((l.drop i).any badG=true→loopN (evC (evF E n) n Fn.y49) N ⟨env ((1,x1)::(29,.one (.sl false (l.map Guard.c)))::(30,.one (.int .i64 (l.length:Int)))::(31,.one (.int .i64 (i:Int)))::X),ob,fz0,nx⟩=
   some (.ret,⟨env ((2,.one (.int .i64 2))::X'),ob',fz0,nx'⟩))∧((l.drop i).any badG=false→loopN (evC (evF E n) n Fn.y49) N ⟨env ((1,x1)::(29,.one (.sl false (l.map Guard.c)))::(30,.one (.int .i64 (l.length:Int)))::(31,.one (.int .i64 (i:Int)))::X),ob,fz0,nx⟩=some (.ext 0,⟨env ((1,x1)::X'),ob',fz0,nx'⟩))
 | 0,i,hi,ob,nx,X,N+1,hN=>by
  have hi':i=l.length:=by omega
  subst hi'
  rw [List.drop_length,List.any_nil]
  have h1:(((l.length:Nat):Int)<((l.length:Nat):Int))=False:=by simp
  refine ⟨ob,nx,[(29,.one (.sl false (l.map Guard.c))),(30,.one (.int .i64 (l.length:Int))),(31,.one (.int .i64 (l.length:Int))),(32,.one (.bool false))],fun _ _=>rfl,fun h=>by simp at h,fun _=>y06 ?_⟩
  simp only [go_sem,Fn.y49,h1]
 | m+1,i,hi,ob,nx,X,N+1,hN=>by
  have hil:i<l.length:=by omega
  obtain ⟨ob1,hf,hr⟩:=yov (ob:=ob) (nx:=nx) (i:=i) l hl l[i] (by simp) hil (hc _ (by simp)) x1 X
  rw [List.drop_eq_getElem_cons hil,List.any_cons]
  by_cases hb:badG l[i]=true
  ·rw [if_pos hb] at hr
   rw [hb,Bool.true_or]
   exact ⟨ob1,nx+4,[],hf,fun _=>y34 hr,fun h=>by simp at h⟩
  ·rw [if_neg hb] at hr
   rw [Bool.not_eq_true] at hb
   rw [hb,Bool.false_or]
   obtain ⟨ob',nx',X',hf',h,h'⟩:=yh8 l hl hc x1 m (i+1) (by omega) ob1 (nx+4) [] N (by omega)
   exact ⟨ob',nx',X',fun id h=>by rw [hf' id (by omega),hf id h],fun e=>by rw [y05 hr];exact h e,fun e=>by rw [y05 hr];exact h' e⟩
def rightD (d:Dev):Bool:= !(decide (16<d.guards.length) || (decide (d.curves.length≠5) || (decide (d.limits.length≠5) || decide (signI d.step.num≤0))))&&(!d.guards.any badG&&(!d.curves.any badC&& !d.limits.any badL))
def errD (d:Dev):Int:=if rightD d=true then 0 else 2
def chkT:ACode:=match Fn.y3l.code with | .seq _ (.seq _ (.seq _ t))=>t | _=>.skip
theorem yqn (d:Dev) (h:SmDev d):Ends Id.y3l [.agg d.c] (.one (.int .i64 (errD d))):=by
 obtain ⟨N1,k1⟩:=ybg d.step
 obtain ⟨N2,k2⟩:∃N,∀n,N≤n→∀g∈d.guards,∀(ob:Nat→Option AObj) (fz:Nat→Nat),callV (evF E n) Id.y2z [.agg g.box.c] ob fz=some (.fzd fz (.one (.bool (rightBx g.box)))):=by
  have hg:=fun g hg=>(h.gs g hg).box
  revert hg
  generalize d.guards=l
  intro hg
  induction l with
  | nil=>exact ⟨0,fun _ _ _ h=>by simp at h⟩
  | cons c r ih=>
   obtain ⟨Na,ka⟩:=yra c.box (hg c (by simp))
   obtain ⟨Nb,kb⟩:=ih (fun c hc=>hg c (by simp [hc]))
   refine ⟨Na+Nb,fun n hn y hy=> ?_⟩
   rcases List.mem_cons.1 hy with rfl | e
   ·exact ka n (by omega)
   ·exact kb n (by omega) y e
 obtain ⟨N3,k3⟩:=ydi Id.y4l badC d.curves (Nat.lt_trans h.cl (by decide)) (by
  have hg:=h.cs
  have hl:=h.cll
  revert hg hl
  generalize d.curves=l
  intro hg hl
  induction l with
  | nil=>exact ⟨0,fun _ _ _ h=>by simp at h⟩
  | cons c r ih=>
   obtain ⟨Na,ka⟩:=(yp4 c (Nat.lt_trans (hl c (by simp)) (by decide)) (hg c (by simp))).call (can1 (.one _ (.sl _)))
   obtain ⟨Nb,kb⟩:=ih (fun c hc=>hg c (by simp [hc])) (fun c hc=>hl c (by simp [hc]))
   refine ⟨Na+Nb,fun n hn y hy=> ?_⟩
   rcases List.mem_cons.1 hy with rfl | e
   ·exact ka n (by omega)
   ·exact kb n (by omega) y e)
 obtain ⟨N4,k4⟩:=ydt Id.y4b badL d.limits (Nat.lt_trans h.ll (by decide)) (y82 (fun p:Pt=>(yoj p).call (can1' (CanL.pt p))) d.limits)
 refine .of (N1+N2+N3+N4+d.guards.length+1) fun {n} hn=> ?_
 have k1:=k1 n (by omega)
 have k2:=k2 n (by omega)
 have k3:=k3 n (by omega)
 have k4:=k4 n (by omega)
 rw [y02 ylu]
 have hgl:=h.gl
 unfold errD rightD Dev.c
 obtain ⟨a1,a2,a3,ea,-,-,-⟩:=y08 d.step
 rw [ea] at k1 ⊢
 generalize signI d.step.num=sg at*
 have q1:(((d.guards.length:Nat):Int)>16)=(16<d.guards.length):=by rw [eq_iff_iff];omega
 have q2:(((d.curves.length:Nat):Int) !=5)=decide (d.curves.length≠5):=by
  by_cases h:d.curves.length=5
  ·simp [h]
  ·rw [decide_eq_true h];simp only [bne_iff_ne,ne_eq];omega
 have q3:(((d.limits.length:Nat):Int) !=5)=decide (d.limits.length≠5):=by
  by_cases h:d.limits.length=5
  ·simp [h]
  ·rw [decide_eq_true h];simp only [bne_iff_ne,ne_eq];omega
 by_cases p1:16<d.guards.length
 ·simp only [go_sem,Fn.y3l,List.length_map,q1,p1]
 by_cases p2:d.curves.length≠5
 ·rw [decide_eq_true p2] at q2 ⊢
  simp only [go_sem,Fn.y3l,List.length_map,q1,q2,p1]
 rw [decide_eq_false p2] at q2 ⊢
 by_cases p3:d.limits.length≠5
 ·rw [decide_eq_true p3] at q3 ⊢
  simp only [go_sem,Fn.y3l,List.length_map,q1,q2,q3,p1]
 rw [decide_eq_false p3] at q3 ⊢
 by_cases p4:sg≤0
 ·simp only [go_sem,Fn.y3l,List.length_map,q1,q2,q3,p1,k1,p4]
 have hlo:=fun ob nx=>yh8 (n:=n) d.guards hgl k2 (.one (.box 0 0)) d.guards.length 0 (by omega) ob nx [] n (by omega)
 have key:∀(ob:Nat→Option AObj),ob 0=some (.box ([.sl false (d.guards.map Guard.c),.sl false (d.curves.map fun s=>[.sl false (s.map Pt.c)]),.sl false (d.limits.map Pt.c)]++[a1,a2,a3]))→∀nx,0<nx→
   finV Fn.y3l.res (thenC (evF E n) n chkT (blkC 0 (loopN (evC (evF E n) n Fn.y49) n ⟨env [(1,.one (.box 0 0)),(29,.one (.sl false (d.guards.map Guard.c))),(30,.one (.int .i64 (d.guards.length:Int))),(31,.one (.int .i64 0))],ob,fz0,nx⟩)))=some (.one (.int .i64 (if (!d.guards.any badG&&(!d.curves.any badC&& !d.limits.any badL))=true then 0 else 2))):=by
  intro ob o0 nx hnx
  obtain ⟨ob',nx',X',hf,hl,hl'⟩:=hlo ob nx
  rw [show ((0:Nat):Int)=0 from rfl,List.drop_zero] at hl hl'
  have o0':ob' 0=_:=(hf 0 hnx).trans o0
  unfold chkT Fn.y3l
  cases hg:d.guards.any badG with
  | true=>
   have hl:=hl hg
   simp only [go_sem,hl]
  | false=>
   have hl:=hl' hg
   cases hc:d.curves.any badC with
   | true=>
    rw [hc] at k3
    simp only [go_sem,hl,o0',k3]
   | false=>
    rw [hc] at k3
    cases hm:d.limits.any badL<;>rw [hm] at k4<;>simp only [go_sem,hl,o0',k3,k4]
 have e:(!(decide (16<d.guards.length) || (false || (false || decide (sg≤0))))&&(!d.guards.any badG&&(!d.curves.any badC&& !d.limits.any badL)))=(!d.guards.any badG&&(!d.curves.any badC&& !d.limits.any badL)):=by
  rw [decide_eq_false p1,decide_eq_false p4];rfl
 rw [e]
 unfold Fn.y3l
 simp only [go_sem,List.length_map,q1,q2,q3,p1,k1,p4]
 refine key _ ?_ _ ?_
 ·rfl
 ·decide
theorem yqt (d:Dev) (h:SmDev d):Calling Id.y3l [.agg d.c] (.one (.int .i64 (errD d))):=(yqn d h).call (can1' (.dev d))
def mayI (d:Dev) (l:List Samp):Int:=if errD d=0 then (if l.length≤1024 then 0 else 5) else errD d
theorem yvr (d:Dev) (h:SmDev d) (l:List Samp):Ends Id.y58 [.agg d.c,.one (.sl false (l.map Samp.c))] (.one (.int .i64 (mayI d l))):=by
 obtain ⟨N1,k1⟩:=yqt d h
 refine .of (N1+1) fun {n} hn=> ?_
 have k1:=k1 n (by omega)
 rw [y02 yrv]
 unfold mayI
 unfold Dev.c at k1 ⊢
 obtain ⟨a1,a2,a3,ea,-,-,-⟩:=y08 d.step
 simp only [ea,List.cons_append,List.nil_append] at k1 ⊢
 generalize errD d=e at*
 by_cases he:e=0
 ·have e1:(e !=0)=false:=by simp [he]
  have q1:(((l.length:Nat):Int)>1024)=(¬l.length≤1024):=by rw [eq_iff_iff];omega
  rw [if_pos he]
  by_cases p:l.length≤1024
  ·simp only [go_sem,Fn.y58,k1,e1,List.length_map,q1,p,not_true_eq_false]
  ·simp only [go_sem,Fn.y58,k1,e1,List.length_map,q1,p,not_false_eq_true]
 ·have e1:(e !=0)=true:=by simp [he]
  rw [if_neg he]
  simp only [go_sem,Fn.y58,k1,e1]
theorem yg3 (d:Dev) (h:SmDev d) (l:List Samp):Calling Id.y58 [.agg d.c,.one (.sl false (l.map Samp.c))] (.one (.int .i64 (mayI d l))):=(yvr d h l).call (can2 (CanL.dev d).agg (.one _ (.sl _)))
end Go.Ev
