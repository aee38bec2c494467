import Derived.Test.YtclakmennjjomaaGreatP3
set_option linter.all false
namespace Go.Ev
open Go.Dig
def OutR (ob:Nat→Option AObj) (nx:Nat) (x:AV) (o:List Nat):Prop:=
 (o=[]∧x=.nils)∨∃id ver,x=.rsl id ver 1 0 o.length false∧ob id=some (.row 1 (intE o) ver)∧id<nx
theorem yr4 {ob:Nat→Option AObj} {nx:Nat} {x:AV} {o:List Nat} (h:OutR ob nx x o) (fz:Nat→Nat):∃fz',frz ob DEPTH fz x=some (fz',.sl false (intE o)):=by
 rcases h with ⟨rfl,rfl⟩ | ⟨id,ver,rfl,hid,_⟩
 ·exact ⟨fz,rfl⟩
 ·have hb:Nat.ble (0+o.length) (intE o).length=true:=by simp [intE]
  refine ⟨raise fz id (0+o.length), ?_⟩
  rw [show DEPTH=6+1+1 from rfl,y9c,y4d hid]
  simp only [hb,cond_true]
  rw [((yi5 o).sub 0 o.length).frz ob 6]
  simp only [List.drop_zero,yen,List.take_length]
theorem yor {ob:Nat→Option AObj} {nx:Nat} {x:AV} {o:List Nat} (h:OutR ob nx x o) (fz:Nat→Nat):∃fz',frzS ob fz (.one x)=some (fz',.one (.sl false (intE o))):=by
 obtain ⟨fz',h⟩:=yr4 h fz
 exact ⟨fz',by simp only [frzS,h]⟩
theorem yux {n:Nat} {ob:Nat→Option AObj} {nx:Nat} {x:AV} {o:List Nat} (h:OutR ob nx x o) (hs:o.length<2^60) (hd:∀d∈o,d<BT) (hn:o.length+2≤n) (fz:Nat→Nat):∃fz',callV (evF E n) Id.y23 [.one x] ob fz=some (.fzd fz' (.one (zD (val BT o)))):=by
 obtain ⟨m,rfl⟩:∃m,n=m+1:=⟨n-1,by omega⟩
 obtain ⟨fz',h⟩:=yor h fz
 refine ⟨fz', ?_⟩
 rw [y68]
 simp only [mapFz,h,ykt o hs hd (show o.length+1≤m by omega),Option.map_some]
theorem y70 (o:List Nat) (d:Nat):intE o++[[AV.int .i64 (d:Int)]]=intE (o++[d]):=yq3 o [d]
theorem y8n (ob:Nat→Option AObj) (q q2 d nx':Nat) (h:q2<nx') (y:AObj):OutR (upd (upd ob q y) q2 (.row 1 [[AV.int .i64 (d:Int)]] 0)) nx' (.rsl q2 0 1 0 1 false) [d]:=
 .inr ⟨q2,0,rfl,upd_same _ _ _,h⟩
theorem y8f {ob:Nat→Option AObj} {id ver q d nx':Nat} {o:List Nat} (h:id<nx') (y:AObj):OutR (upd (upd ob q y) id (.row 1 (intE (o++[d])) (ver+1))) nx' (.rsl id (ver+1) 1 0 (o.length+1) false) (o++[d]):=
 .inr ⟨id,ver+1,by simp,upd_same _ _ _,h⟩
theorem y6c {ob:Nat→Option AObj} {id ver q:Nat} {es:List (List AV)} (hid:ob id=some (.row 1 es ver)) (hq:id≠q) (y:AObj):rowAt (upd ob q y) id ver=some (1,es):=by
 refine y4d ?_
 rw [y00 hq];exact hid
def zC (z:Int):List AV:=[.bool (decide (z<0)),zD z.natAbs]
def sV (z:Int):SV:=.agg (zC z)
theorem y1y (z:Int):CanS (sV z):=.agg _ fun x hx=>by
 simp only [zC,List.mem_cons,List.not_mem_nil,or_false] at hx
 rcases hx with rfl | rfl
 ·exact .bool _
 ·exact .sl _
theorem yhd (m:Nat):((((digs BT m).length:Nat):Int)>0)=(m≠0):=by
 rw [eq_iff_iff]
 constructor
 ·intro h e
  subst e
  rw [digs_zero] at h
  simp at h
 ·intro h
  have:=y4p BT2 h
  have:(digs BT m).length≠0:=fun e=>this (List.length_eq_zero_iff.1 e)
  omega
theorem y123 (neg:Bool) (m:Nat):zC (sgn neg m)=[.bool (neg&&decide (m≠0)),zD m]:=by
 unfold zC sgn
 cases neg with
 | false=>simp
 | true=>
  simp only [if_true,Int.natAbs_neg,Int.natAbs_natCast,Bool.true_and]
  have:decide (-(m:Int)<0)=decide (m≠0):=by
   rw [decide_eq_decide]
   omega
  rw [this]
theorem yjl (neg:Bool) (m n:Nat):evV E (n+1) Id.y0p [.one (.bool neg),.one (zD m)]=some (sV (sgn neg m)):=by
 rw [y03 yec]
 unfold sV
 rw [y123]
 unfold zD
 cases neg with
 | true=>simp only [go_sem,Fn.y0p,yhd]
 | false=>simp only [go_sem,Fn.y0p,yhd]
theorem y7o (neg:Bool) (m:Nat) (z:Int) (hz:sgn neg m=z) {n:Nat} (hn:1≤n) (ob:Nat→Option AObj) (fz:Nat→Nat):callV (evF E n) Id.y0p [.one (.bool neg),.one (zD m)] ob fz=some (.fzd fz (sV z)):=by
 obtain ⟨k,rfl⟩:∃k,n=k+1:=⟨n-1,by omega⟩
 rw [←hz]
 exact y01 (yjl neg m k) (can2 (ykr _) (y3j _)) ob fz
section
variable {F:Caller} {fuel:Nat} {fz:Nat→Nat}
theorem yo3 {ob:Nat→Option AObj} {nx:Nat} (ds:List Nat) (fr:Nat) (hl:ds.length≤fr+4) (hs:ds.length<2^60) (hd:∀d∈ds,d<BT):∀(m k:Nat),k=fr+m→k≤ds.length→∀(X:List (Nat×SV)) (N:Nat),m<N→∃X',
  loopN (evC F fuel Fn.y7p) N ⟨env ((0,.one (.sl false (intE ds)))::(1,.one (.int .i64 (fr:Int)))::(5,.one (.int .i64 (val BT (ds.drop k):Int)))::(6,.one (.int .i64 ((k:Int)-1)))::X),ob,fz,nx⟩=
   some (.ext 0,⟨env ((0,.one (.sl false (intE ds)))::(1,.one (.int .i64 (fr:Int)))::(5,.one (.int .i64 (val BT (ds.drop fr):Int)))::X'),ob,fz,nx⟩)
 | 0,k,hk,hkl,X,N+1,hN=>by
  have hk':k=fr:=by omega
  subst hk'
  have h1:(((k:Nat):Int)-1≥((k:Nat):Int))=False:=by simp only [ge_iff_le,eq_iff_iff,iff_false];omega
  refine ⟨[(6,.one (.int .i64 ((k:Int)-1))),(12,.one (.bool false))],y06 ?_⟩
  simp only [go_sem,Fn.y7p,h1]
 | m+1,k,hk,hkl,X,N+1,hN=>by
  obtain ⟨j,rfl⟩:∃j,k=j+1:=⟨k-1,by omega⟩
  have h0:(((j+1:Nat):Int)-1)=(j:Nat):=by omega
  have h1:(((j:Nat):Int)≥((fr:Nat):Int))=True:=by simp only [ge_iff_le,eq_iff_iff,iff_true];omega
  have hjl:j<ds.length:=by omega
  have gd:ds[j]? =some ds[j]:=by simp
  have e:ds.drop j=ds[j]::ds.drop (j+1):=List.drop_eq_getElem_cons hjl
  have hb:val BT (ds.drop j)<10000000000000000:=by
   have h2:=y64 BT2 (ds.drop j) (fun d h=>hd d (List.mem_of_mem_drop h))
   have h3:BT^(ds.drop j).length≤BT^4:=Nat.pow_le_pow_right (by decide) (by simp;omega)
   exact Nat.lt_of_lt_of_le h2 (Nat.le_trans h3 (by decide))
  have hv:val BT (ds.drop j)=ds[j]+10000*val BT (ds.drop (j+1)):=by rw [e];rfl
  rw [hv] at hb
  have wm:IntKind.i64.wrap ((val BT (ds.drop (j+1)):Int)*10000)=((val BT (ds.drop (j+1))*10000:Nat):Int):=by
   rw [show ((val BT (ds.drop (j+1)):Int)*10000)=((val BT (ds.drop (j+1))*10000:Nat):Int) from (Int.natCast_mul _ 10000).symm]
   exact wi64 (by omega)
  have wa:IntKind.i64.wrap (((val BT (ds.drop (j+1))*10000:Nat):Int)+(ds[j]:Int))=(val BT (ds.drop j):Int):=by
   rw [addi64 _ _ (by omega),hv]
   congr 1
   omega
  have wj:IntKind.i64.wrap ((j:Int)-1)=(j:Int)-1:=wrap_i64 (by omega)
  obtain ⟨X',h⟩:=yo3 ds fr hl hs hd m j (by omega) (by omega) [] N (by omega)
  refine ⟨X', ?_⟩
  rw [←h]
  refine y07 ?_
  generalize val BT (ds.drop j)=v1 at wa ⊢
  generalize val BT (ds.drop (j+1))=v0 at wm wa ⊢
  generalize v0*10000=v2 at wm wa
  simp only [go_sem,Fn.y7p,h0,h1,gd,wm,wa,wj]
end
theorem yfe (a fr:Nat) (hl:dlen BT a≤fr+4) (hf:fr≤dlen BT a) (hs:dlen BT a<2^60) {n:Nat} (hn:dlen BT a+1≤n):evV E (n+1) Id.y3a [.one (zD a),.one (.int .i64 (fr:Int))]=some (.one (.int .i64 (val BT ((digs BT a).drop fr):Int))):=by
 rw [y03 yhu]
 unfold dlen at hl hf hs hn
 obtain ⟨X',h⟩:=yo3 (F:=evF E n) (fuel:=n) (ob:=ob0) (fz:=fz0) (nx:=0) (digs BT a) fr hl hs (y29 BT2 a) ((digs BT a).length-fr) (digs BT a).length (by omega) (Nat.le_refl _) [] n (by omega)
 rw [List.drop_length,val,show ((0:Nat):Int)=0 from rfl] at h
 have hw:IntKind.i64.wrap (((digs BT a).length:Int)-1)=((digs BT a).length:Int)-1:=wrap_i64 (by omega)
 unfold zD
 generalize val BT ((digs BT a).drop fr)=v at h ⊢
 simp only [go_sem,Fn.y3a,hw,h]
theorem yrw (x y b:Nat) (hx:x<10000) (hy:y<10000) (hb:b≤1):∃(d b':Nat),d<10000∧b'≤1∧d+y+b=x+10000*b'∧(b'=0→((x:Int)-b-y)=(d:Int))∧(b'=1→∃z:Int,((x:Int)-b-y)=z∧(z<0)=True∧IntKind.i64.wrap (z+10000)=(d:Int)):=by
 by_cases h:y+b≤x
 ·exact ⟨x-b-y,0,by omega,by omega,by omega,fun _=>by omega,fun h=>by omega⟩
 ·exact ⟨x+10000-b-y,1,by omega,by omega,by omega,fun h=>by omega,fun _=>⟨_,rfl,by simp;omega,by rw [wrap_i64 (by omega)];omega⟩⟩
section
variable {F:Caller} {fuel:Nat} {fz:Nat→Nat}
theorem yq8 {ob:Nat→Option AObj} {nx:Nat} (ds es:List Nat) (i b:Nat) (hil:i<ds.length) (hs:ds.length<2^40) (hd:∀d∈ds,d<BT) (he:∀d∈es,d<BT) (hb:b≤1) (o:List Nat) (hol:o.length=i) (x:AV) (hO:OutR ob nx x o) (X:List (Nat×SV)):∃(d b':Nat) (x':AV) (ob':Nat→Option AObj),
  evC F fuel Fn.y2o ⟨env ((0,.one (.sl false (intE ds)))::(1,.one (.sl false (intE es)))::(5,.one x)::(6,.one (.int .i64 (b:Int)))::(7,.one (.int .i64 (i:Int)))::X),ob,fz,nx⟩=
   some (.nrm,⟨env [(0,.one (.sl false (intE ds))),(1,.one (.sl false (intE es))),(5,.one x'),(6,.one (.int .i64 (b':Int))),(7,.one (.int .i64 ((i+1:Nat):Int)))],ob',fz,nx+5⟩)∧OutR ob' (nx+5) x' (o++[d])∧d<BT∧b'≤1∧d+es.getD i 0+b=ds[i]+10000*b':=by
 have gd:ds[i]? =some ds[i]:=by simp
 have hx:ds[i]<10000:=hd _ (by simp)
 have hy:es.getD i 0<10000:=by
  rw [List.getD]
  cases h:es[i]? with
  | none=>simp
  | some y=>exact he y (List.mem_of_getElem? h)
 obtain ⟨d,b',h1,h2,h3,h4,h5⟩:=yrw ds[i] (es.getD i 0) b hx hy hb
 have hlt:(((i:Nat):Int)<((ds.length:Nat):Int))=True:=by simp;omega
 have wk:IntKind.i64.wrap ((i+1:Nat):Int)=((i+1:Nat):Int):=wi64 (by omega)
 have hd1:[[AV.int .i64 (d:Int)]]=intE [d]:=rfl
 have dn:(((d:Nat):Int)<0)=False:=by simp
 have hb':b'=0∨b'=1:=by omega
 have z0:((0:Nat):Int)=0:=rfl
 have z1:((1:Nat):Int)=1:=rfl
 generalize ds[i]=xd at*
 by_cases hie:i<es.length
 ·have ge:es[i]? =some es[i]:=by simp
  have hey:es.getD i 0=es[i]:=by rw [List.getD,ge];rfl
  rw [hey] at h3 h4 h5 hy ⊢
  have g2:(((i:Nat):Int)<((es.length:Nat):Int))=True:=by simp;omega
  generalize es[i]=y at*
  have w1:IntKind.i64.wrap ((xd:Int)-(b:Int))=(xd:Int)-(b:Int):=wrap_i64 (by omega)
  have w2:IntKind.i64.wrap ((xd:Int)-(b:Int)-(y:Int))=(xd:Int)-(b:Int)-(y:Int):=wrap_i64 (by omega)
  rcases hb' with rfl | rfl
  ·have w2:=w2.trans (h4 rfl)
   rcases hO with ⟨rfl,rfl⟩ | ⟨id,ver,rfl,hid,hlt'⟩
   ·refine ⟨d,0,_,_, ?_,y8n ob (nx+2) (nx+3) d _ (by omega) (.row 1 [[AV.int .i64 (d:Int)]] 0),h1,by omega,h3⟩
    simp only [go_sem,Fn.y2o,hlt,gd,w1,g2,ge,w2,dn,add1,wk,okSz,ROOM,Nat.reduceBEq,z0]
   ·have hl8:(o.length+1)*8≤140737488355328:=by omega
    have hrow:=y6c hid (show id≠nx+2 by omega) (.row 1 [[AV.int .i64 (d:Int)]] 0)
    refine ⟨d,0,_,_, ?_,y8f (ob:=ob) (id:=id) (ver:=ver) (q:=nx+2) (d:=d) (nx':=nx+5) (by omega) (.row 1 [[AV.int .i64 (d:Int)]] 0),h1,by omega,h3⟩
    simp only [go_sem,Fn.y2o,hlt,gd,w1,g2,ge,w2,dn,add1,wk,okSz,ROOM,Nat.reduceBEq,hrow,hl8,y70,z0]
  ·obtain ⟨z,e1,e2,e3⟩:=h5 rfl
   have w2:=w2.trans e1
   rcases hO with ⟨rfl,rfl⟩ | ⟨id,ver,rfl,hid,hlt'⟩
   ·refine ⟨d,1,_,_, ?_,y8n ob (nx+2) (nx+3) d _ (by omega) (.row 1 [[AV.int .i64 (d:Int)]] 0),h1,by omega,h3⟩
    simp only [go_sem,Fn.y2o,hlt,gd,w1,g2,ge,w2,e2,e3,add1,wk,okSz,ROOM,Nat.reduceBEq,z1]
   ·have hl8:(o.length+1)*8≤140737488355328:=by omega
    have hrow:=y6c hid (show id≠nx+2 by omega) (.row 1 [[AV.int .i64 (d:Int)]] 0)
    refine ⟨d,1,_,_, ?_,y8f (ob:=ob) (id:=id) (ver:=ver) (q:=nx+2) (d:=d) (nx':=nx+5) (by omega) (.row 1 [[AV.int .i64 (d:Int)]] 0),h1,by omega,h3⟩
    simp only [go_sem,Fn.y2o,hlt,gd,w1,g2,ge,w2,e2,e3,add1,wk,okSz,ROOM,Nat.reduceBEq,hrow,hl8,y70,z1]
 ·have hey:es.getD i 0=0:=by rw [List.getD,List.getElem?_eq_none (by omega)];rfl
  rw [hey] at h3 h4 h5 hy ⊢
  have g2:(((i:Nat):Int)<((es.length:Nat):Int))=False:=by simp;omega
  have w1:IntKind.i64.wrap ((xd:Int)-(b:Int))=(xd:Int)-(b:Int)-((0:Nat):Int):=by rw [wrap_i64 (by omega)];omega
  rcases hb' with rfl | rfl
  ·have w1:=w1.trans (h4 rfl)
   rcases hO with ⟨rfl,rfl⟩ | ⟨id,ver,rfl,hid,hlt'⟩
   ·refine ⟨d,0,_,_, ?_,y8n ob (nx+2) (nx+3) d _ (by omega) (.row 1 [[AV.int .i64 (d:Int)]] 0),h1,by omega,h3⟩
    simp only [go_sem,Fn.y2o,hlt,gd,w1,g2,dn,add1,wk,okSz,ROOM,Nat.reduceBEq,z0]
   ·have hl8:(o.length+1)*8≤140737488355328:=by omega
    have hrow:=y6c hid (show id≠nx+2 by omega) (.row 1 [[AV.int .i64 (d:Int)]] 0)
    refine ⟨d,0,_,_, ?_,y8f (ob:=ob) (id:=id) (ver:=ver) (q:=nx+2) (d:=d) (nx':=nx+5) (by omega) (.row 1 [[AV.int .i64 (d:Int)]] 0),h1,by omega,h3⟩
    simp only [go_sem,Fn.y2o,hlt,gd,w1,g2,dn,add1,wk,okSz,ROOM,Nat.reduceBEq,hrow,hl8,y70,z0]
  ·obtain ⟨z,e1,e2,e3⟩:=h5 rfl
   have w1:=w1.trans e1
   rcases hO with ⟨rfl,rfl⟩ | ⟨id,ver,rfl,hid,hlt'⟩
   ·refine ⟨d,1,_,_, ?_,y8n ob (nx+2) (nx+3) d _ (by omega) (.row 1 [[AV.int .i64 (d:Int)]] 0),h1,by omega,h3⟩
    simp only [go_sem,Fn.y2o,hlt,gd,w1,g2,e2,e3,add1,wk,okSz,ROOM,Nat.reduceBEq,z1]
   ·have hl8:(o.length+1)*8≤140737488355328:=by omega
    have hrow:=y6c hid (show id≠nx+2 by omega) (.row 1 [[AV.int .i64 (d:Int)]] 0)
    refine ⟨d,1,_,_, ?_,y8f (ob:=ob) (id:=id) (ver:=ver) (q:=nx+2) (d:=d) (nx':=nx+5) (by omega) (.row 1 [[AV.int .i64 (d:Int)]] 0),h1,by omega,h3⟩
    simp only [go_sem,Fn.y2o,hlt,gd,w1,g2,e2,e3,add1,wk,okSz,ROOM,Nat.reduceBEq,hrow,hl8,y70,z1]
theorem yix (ds es:List Nat) (hs:ds.length<2^40) (hd:∀d∈ds,d<BT) (he:∀d∈es,d<BT):∀(m i:Nat),i+m=ds.length→∀(ob:Nat→Option AObj) (nx b:Nat) (o:List Nat) (x:AV) (X:List (Nat×SV)),b≤1→o.length=i→(∀d∈o,d<BT)→OutR ob nx x o→val BT o+val BT (es.take i)=val BT (ds.take i)+BT^i*b→∀N,m<N→
  ∃(o':List Nat) (x':AV) (ob':Nat→Option AObj) (nx' b':Nat) (X':List (Nat×SV)),loopN (evC F fuel Fn.y2o) N ⟨env ((0,.one (.sl false (intE ds)))::(1,.one (.sl false (intE es)))::(5,.one x)::(6,.one (.int .i64 (b:Int)))::(7,.one (.int .i64 (i:Int)))::X),ob,fz,nx⟩=
   some (.ext 0,⟨env ((0,.one (.sl false (intE ds)))::(1,.one (.sl false (intE es)))::(5,.one x')::X'),ob',fz,nx'⟩)∧OutR ob' nx' x' o'∧(∀d∈o',d<BT)∧o'.length=ds.length∧b'≤1∧val BT o'+val BT (es.take ds.length)=val BT ds+BT^ds.length*b'
 | 0,i,hi,ob,nx,b,o,x,X,hb,hol,hod,hO,hinv,N+1,hN=>by
  have hi':i=ds.length:=by omega
  subst hi'
  rw [List.take_length] at hinv
  refine ⟨o,x,ob,nx,b,[(6,.one (.int .i64 (b:Int))),(7,.one (.int .i64 (ds.length:Int))),(12,.one (.bool false))],y06 ?_,hO,hod,hol,hb,hinv⟩
  have h1:(((ds.length:Nat):Int)<((ds.length:Nat):Int))=False:=by simp
  simp only [go_sem,Fn.y2o,h1]
 | m+1,i,hi,ob,nx,b,o,x,X,hb,hol,hod,hO,hinv,N+1,hN=>by
  have hil:i<ds.length:=by omega
  obtain ⟨d,b',x',ob',hst,hO',hdl,hb',hdig⟩:=yq8 (F:=F) (fuel:=fuel) (fz:=fz) ds es i b hil hs hd he hb o hol x hO X
  rw [y07 hst]
  refine yix ds es hs hd he m (i+1) (by omega) ob' (nx+5) b' (o++[d]) x' [] hb' (by simp [hol]) ?_ hO' ?_ N (by omega)
  ·intro z hz
   rcases List.mem_append.1 hz with h | h
   ·exact hod z h
   ·simp only [List.mem_cons,List.not_mem_nil,or_false] at h;rw [h];exact hdl
  ·have gd:ds[i]? =some ds[i]:=by simp
   have td:ds.take (i+1)=ds.take i++[ds[i]]:=by rw [List.take_add_one,gd];rfl
   have te:val BT (es.take (i+1))=val BT (es.take i)+BT^i*es.getD i 0:=by
    rw [List.take_add_one,List.getD]
    cases h:es[i]? with
    | none=>
     simp only [Option.toList_none,List.append_nil,Option.getD_none,Nat.mul_zero,Nat.add_zero]
    | some y=>
     have hl:i<es.length:=(List.getElem?_eq_some_iff.1 h).1
     rw [Option.toList_some,y0i,List.length_take,Nat.min_eq_left (by omega)]
     rfl
   rw [td,te,y0i,y0i,hol,List.length_take,Nat.min_eq_left (by omega),Nat.pow_succ]
   have e1:BT^i*d+BT^i*es.getD i 0+BT^i*b=BT^i*ds[i]+BT^i*BT*b':=by
    rw [Nat.mul_assoc (BT^i) BT,←Nat.mul_add,←Nat.mul_add,←Nat.mul_add,hdig]
    rfl
   omega
end
theorem yat (a b:Nat) (hab:b≤a) (ha:dlen BT a<2^40) {n:Nat} (hn:dlen BT a+4≤n):evV E (n+1) Id.y2b [.one (zD a),.one (zD b)]=some (.one (zD (a-b))):=by
 rw [y03 yet]
 have hlen:dlen BT b≤dlen BT a:=y5u BT2 hab
 unfold dlen at ha hn hlen
 obtain ⟨o',x',ob',nx',b',X',hloop,h1,h2,h3,h4,h5⟩:=yix (F:=evF E n) (fuel:=n) (fz:=fz0) (digs BT a) (digs BT b) ha (y29 BT2 a) (y29 BT2 b) (digs BT a).length 0 (by omega) ob0 0 0 [] .nils [] (by omega) rfl (fun _ h=>by simp at h) (.inl ⟨rfl,rfl⟩) (by simp [val]) n (by omega)
 rw [List.take_of_length_le hlen,y1k BT2,y1k BT2] at h5
 have hlt:=y64 BT2 o' h2
 rw [h3] at hlt
 have hb0:b'=0:=by
  rcases Nat.lt_or_ge b' 1 with h | h
  ·omega
  ·have:BT^(digs BT a).length*1≤BT^(digs BT a).length*b':=Nat.mul_le_mul_left _ h
   omega
 subst hb0
 have hv:val BT o'=a-b:=by rw [Nat.mul_zero] at h5;omega
 obtain ⟨fz',htrim⟩:=yux (n:=n) h1 (by omega) h2 (by omega) fz0
 rw [hv] at htrim
 rw [show ((0:Nat):Int)=0 from rfl] at hloop
 unfold zD at htrim ⊢
 simp only [go_sem,Fn.y2b,hloop,htrim]
end Go.Ev
namespace Go.Ev
open Go.Dig
theorem yv4 {ob:Nat→Option AObj} {nx:Nat} {x:AV} {o:List Nat} (h:OutR ob nx x o) (neg:Bool) (fz:Nat→Nat):∃fz',frzS ob fz (.agg [.bool neg,x])=some (fz',.agg [.bool neg,.sl false (intE o)]):=by
 obtain ⟨fz',h⟩:=yr4 h fz
 refine ⟨fz', ?_⟩
 simp only [frzS,mapFz,h,show frz ob DEPTH fz (.bool neg)=some (fz,.bool neg) from rfl]
theorem yvd (z:Int) (h1:-9223372036854775808≤z) (h2:z<9223372036854775808):∃(k z':Int) (d:Nat),z.tmod 10000=k∧((k<0)=(k<0))∧(if k<0 then IntKind.i64.wrap (0-k) else k)=(d:Int)∧IntKind.i64.wrap (z.tdiv 10000)=z'∧d=z.natAbs%10000∧z'.natAbs=z.natAbs / 10000∧-9223372036854775808≤z'∧z'<9223372036854775808:=by
 obtain ⟨m,hm⟩:∃m:Nat,m=z.natAbs:=⟨_,rfl⟩
 by_cases hz:z<0
 ·have e:z=-((m:Nat):Int):=by omega
  have t1:z.tmod 10000=-((m%10000:Nat):Int):=by rw [e,Int.neg_tmod,show ((10000:Int))=((10000:Nat):Int) from rfl,←Int.ofNat_tmod]
  have t2:z.tdiv 10000=-((m / 10000:Nat):Int):=by rw [e,Int.neg_tdiv,show ((10000:Int))=((10000:Nat):Int) from rfl,←Int.ofNat_tdiv]
  have w2:IntKind.i64.wrap (z.tdiv 10000)=-((m / 10000:Nat):Int):=by rw [t2];exact wrap_i64 (by omega)
  refine ⟨_,_,m%10000,t1,rfl, ?_,w2,by rw [hm],by rw [hm];omega,by omega,by omega⟩
  split
  ·rw [wrap_i64 (by omega)];omega
  ·omega
 ·have e:z=((m:Nat):Int):=by omega
  have t1:z.tmod 10000=((m%10000:Nat):Int):=by rw [e,show ((10000:Int))=((10000:Nat):Int) from rfl,←Int.ofNat_tmod]
  have t2:z.tdiv 10000=((m / 10000:Nat):Int):=by rw [e,show ((10000:Int))=((10000:Nat):Int) from rfl,←Int.ofNat_tdiv]
  have w2:IntKind.i64.wrap (z.tdiv 10000)=((m / 10000:Nat):Int):=by rw [t2];exact wrap_i64 (by omega)
  refine ⟨_,_,m%10000,t1,rfl, ?_,w2,by rw [hm],by rw [hm];omega,by omega,by omega⟩
  rw [if_neg (by omega)]
section
variable {F:Caller} {fuel:Nat} {fz:Nat→Nat}
theorem ys8 {ob:Nat→Option AObj} {nx:Nat} (hnx:2≤nx) (z:Int) (hz:z≠0) (h1:-9223372036854775808≤z) (h2:z<9223372036854775808) (neg:Bool) (o:List Nat) (hol:o.length<2^40) (x:AV) (hO:OutR ob nx x o) (hb:ob 1=some (.box [.bool neg,x])) (hb0:ob 0=some (.box [.bool false,.nils])) (X:List (Nat×SV)):∃(z':Int) (x':AV) (ob':Nat→Option AObj),
  evC F fuel Fn.y4k ⟨env ((0,.one (.int .i64 z))::(2,.one (.box 0 0))::(3,.one (.box 1 0))::X),ob,fz,nx⟩=
   some (.nrm,⟨env [(0,.one (.int .i64 z')),(2,.one (.box 0 0)),(3,.one (.box 1 0))],ob',fz,nx+7⟩)∧OutR ob' (nx+7) x' (o++[z.natAbs%10000])∧ob' 1=some (.box [.bool neg,x'])∧ob' 0=some (.box [.bool false,.nils])∧z'.natAbs=z.natAbs / 10000∧-9223372036854775808≤z'∧z'<9223372036854775808:=by
 obtain ⟨k,z',d,e1,_,e3,e4,e5,e6,e7,e8⟩:=yvd z h1 h2
 rw [←e5]
 have hne:(z !=0)=true:=by simp only [bne_iff_ne,ne_eq];exact hz
 have t0:((10000:Int)=0)=False:=by simp
 have p14:(1=nx+4)=False:=by simp only [eq_iff_iff,iff_false];omega
 have p13:(1=nx+3)=False:=by simp only [eq_iff_iff,iff_false];omega
 rcases hO with ⟨rfl,rfl⟩ | ⟨id,ver,rfl,hid,hlt'⟩
 ·have fin:OutR (upd (upd (upd ob (nx+3) (.row 1 [[AV.int .i64 (d:Int)]] 0)) (nx+4) (.row 1 [[AV.int .i64 (d:Int)]] 0)) 1 (.box [.bool neg,.rsl (nx+4) 0 1 0 1 false])) (nx+7) (.rsl (nx+4) 0 1 0 1 false) ([]++[d]):=by
   refine .inr ⟨nx+4,0,rfl, ?_,by omega⟩
   rw [y00 (by omega),upd_same]
   rfl
  refine ⟨z',_,_, ?_,fin,upd_same _ _ _,by rw [y00 (by omega),y00 (by omega),y00 (by omega)];exact hb0,e6,e7,e8⟩
  by_cases hk:k<0
  ·have g:(k<0)=True:=by simp [hk]
   rw [if_pos hk] at e3
   simp only [go_sem,Fn.y4k,hne,t0,e1,g,e3,e4,hb,p14,p13,okSz,ROOM,Nat.reduceBEq]
  ·have g:(k<0)=False:=by simp [hk]
   rw [if_neg hk] at e3
   subst e3
   simp only [go_sem,Fn.y4k,hne,t0,e1,g,e4,hb,p14,p13,okSz,ROOM,Nat.reduceBEq]
 ·have hid1:id≠1:=fun e=>by rw [e,hb] at hid;cases hid
  have hid0:id≠0:=fun e=>by rw [e,hb0] at hid;cases hid
  have p1d:(1=id)=False:=by simp only [eq_iff_iff,iff_false];omega
  have hl8:(o.length+1)*8≤140737488355328:=by omega
  have hrow:=y6c hid (show id≠nx+3 by omega) (.row 1 [[AV.int .i64 (d:Int)]] 0)
  have fin:OutR (upd (upd (upd ob (nx+3) (.row 1 [[AV.int .i64 (d:Int)]] 0)) id (.row 1 (intE (o++[d])) (ver+1))) 1 (.box [.bool neg,.rsl id (ver+1) 1 0 (o.length+1) false])) (nx+7) (.rsl id (ver+1) 1 0 (o.length+1) false) (o++[d]):=by
   refine .inr ⟨id,ver+1,by simp, ?_,by omega⟩
   rw [y00 hid1,upd_same]
  refine ⟨z',_,_, ?_,fin,upd_same _ _ _,by rw [y00 (by omega),y00 (Ne.symm hid0),y00 (by omega)];exact hb0,e6,e7,e8⟩
  by_cases hk:k<0
  ·have g:(k<0)=True:=by simp [hk]
   rw [if_pos hk] at e3
   simp only [go_sem,Fn.y4k,hne,t0,e1,g,e3,e4,hb,p1d,p13,okSz,ROOM,Nat.reduceBEq,hrow,hl8,y70]
  ·have g:(k<0)=False:=by simp [hk]
   rw [if_neg hk] at e3
   subst e3
   simp only [go_sem,Fn.y4k,hne,t0,e1,g,e4,hb,p1d,p13,okSz,ROOM,Nat.reduceBEq,hrow,hl8,y70]
theorem yvf (neg:Bool):∀(m:Nat) (z:Int) (ob:Nat→Option AObj) (nx:Nat) (o:List Nat) (x:AV) (X:List (Nat×SV)),z.natAbs<BT^m→2≤nx→-9223372036854775808≤z→z<9223372036854775808→o.length+m<2^40→OutR ob nx x o→ob 1=some (.box [.bool neg,x])→ob 0=some (.box [.bool false,.nils])→∀N,m<N→
  ∃(x':AV) (ob':Nat→Option AObj) (nx':Nat) (X':List (Nat×SV)),loopN (evC F fuel Fn.y4k) N ⟨env ((0,.one (.int .i64 z))::(2,.one (.box 0 0))::(3,.one (.box 1 0))::X),ob,fz,nx⟩=
   some (.ext 0,⟨env ((2,.one (.box 0 0))::(3,.one (.box 1 0))::X'),ob',fz,nx'⟩)∧OutR ob' nx' x' (o++digs BT z.natAbs)∧ob' 1=some (.box [.bool neg,x'])∧ob' 0=some (.box [.bool false,.nils]):=by
 intro m
 induction m with
 | zero=>
  intro z ob nx o x X hm hnx h1 h2 hol hO hb hb0 N hN
  have hz:z=0:=by rw [Nat.pow_zero] at hm;omega
  subst hz
  obtain ⟨M,rfl⟩:∃M,N=M+1:=⟨N-1,by omega⟩
  refine ⟨x,ob,nx,[(0,.one (.int .i64 0)),(9,.one (.bool false))], ?_,by rw [show (0:Int).natAbs=0 from rfl,digs_zero,List.append_nil];exact hO,hb,hb0⟩
  have e:env ((2,SV.one (.box 0 0))::(3,.one (.box 1 0))::[(0,.one (.int .i64 0)),(9,.one (.bool false))])=env [(0,.one (.int .i64 0)),(2,.one (.box 0 0)),(3,.one (.box 1 0)),(9,.one (.bool false))]:=by
   funext j
   simp only [ymy]
   by_cases h0:0=j
   ·subst h0;rfl
   ·by_cases h2:2=j
    ·subst h2;rfl
    ·by_cases h3:3=j
     ·subst h3;rfl
     ·simp only [h0,h2,h3,if_false]
  rw [e]
  refine y06 ?_
  have hne:((0:Int) !=0)=false:=rfl
  simp only [go_sem,Fn.y4k,hne]
 | succ m ih=>
  intro z ob nx o x X hm hnx h1 h2 hol hO hb hb0 N hN
  obtain ⟨M,rfl⟩:∃M,N=M+1:=⟨N-1,by omega⟩
  by_cases hz:z=0
  ·exact ih z ob nx o x X (by rw [hz];exact Nat.pow_pos (by decide)) hnx h1 h2 (by omega) hO hb hb0 (M+1) (by omega)
  ·obtain ⟨z',x',ob',hst,a1,a2,a3,a4,a5,a6⟩:=ys8 (F:=F) (fuel:=fuel) (fz:=fz) hnx z hz h1 h2 neg o (by omega) x hO hb hb0 X
   have hz':z'.natAbs<BT^m:=by
    rw [a4]
    rw [Nat.pow_succ] at hm
    exact Nat.div_lt_of_lt_mul (by rw [Nat.mul_comm];exact hm)
   obtain ⟨x2,ob2,nx2,X2,hl,b1,b2,b3⟩:=ih z' ob' (nx+7) (o++[z.natAbs%10000]) x' [] hz' (by omega) a5 a6 (by simp;omega) a1 a2 a3 M (by omega)
   refine ⟨x2,ob2,nx2,X2,by rw [y07 hst];exact hl, ?_,b2,b3⟩
   rw [y6n BT2 (show z.natAbs≠0 by omega)]
   rw [a4,List.append_assoc] at b1
   exact b1
end
theorem y94 (z:Int) (h1:-9223372036854775808≤z) (h2:z<9223372036854775808) {n:Nat} (hn:8≤n):evV E (n+1) Id.y1s [.one (.int .i64 z)]=some (sV z):=by
 rw [y03 yg9]
 have hm:z.natAbs<BT^5:=by
  have:(10000000000000000000:Nat)≤BT^5:=by decide
  omega
 obtain ⟨x',ob',nx',X',hloop,b1,b2,b3⟩:=yvf (F:=evF E n) (fuel:=n) (fz:=fz0) (decide (z<0)) 5 z (upd (upd ob0 0 (.box [.bool false,.nils])) 1 (.box [.bool (decide (z<0)),.nils])) 2 [] .nils [] hm (by omega) h1 h2 (by decide) (.inl ⟨rfl,rfl⟩) rfl rfl n (by omega)
 rw [List.nil_append] at b1
 have b1':OutR (upd ob' 0 (.box [.bool (decide (z<0)),x'])) nx' x' (digs BT z.natAbs):=by
  rcases b1 with ⟨e1,e2⟩ | ⟨id,ver,e1,e2,e3⟩
  ·exact .inl ⟨e1,e2⟩
  ·refine .inr ⟨id,ver,e1, ?_,e3⟩
   rw [y00 (fun e=>by rw [e,b3] at e2;cases e2)]
   exact e2
 obtain ⟨fz',hfr⟩:=yv4 b1' (decide (z<0)) fz0
 unfold sV zC zD
 simp only [go_sem,Fn.y1s,hloop,b2,b3,hfr]
end Go.Ev
namespace Go.Ev
open Go.Dig
theorem tmodT (x:Nat):((x:Int)).tmod 10000=((x%10000:Nat):Int):=by
 rw [show ((10000:Int))=((10000:Nat):Int) from rfl,←Int.ofNat_tmod]
theorem tdivT (x:Nat) (h:x<9223372036854775808):IntKind.i64.wrap ((x:Int).tdiv 10000)=((x / 10000:Nat):Int):=by
 rw [show ((10000:Int))=((10000:Nat):Int) from rfl,←Int.ofNat_tdiv]
 exact wi64 (by omega)
theorem ysc (u c x y:Nat) (hu:u<10000) (hc:c<10000) (hx:x<10000) (hy:y<10000):∃s p t r q:Nat,IntKind.i64.wrap ((u:Int)+(c:Int))=(s:Int)∧IntKind.i64.wrap ((x:Int)*(y:Int))=(p:Int)∧IntKind.i64.wrap ((s:Int)+(p:Int))=(t:Int)∧((t:Int)).tmod 10000=(r:Int)∧IntKind.i64.wrap ((t:Int).tdiv 10000)=(q:Int)∧
  r<10000∧q<10000∧r+10000*q=u+c+x*y:=by
 have hp:x*y≤9999*9999:=Nat.mul_le_mul (by omega) (by omega)
 refine ⟨u+c,x*y,u+c+x*y,(u+c+x*y)%10000,(u+c+x*y) / 10000,addi64 _ _ (by omega), ?_,addi64 _ _ (by omega),tmodT _,tdivT _ (by omega),Nat.mod_lt _ (by decide),by omega,by omega⟩
 rw [←Int.natCast_mul]
 exact wi64 (by omega)
section
variable {F:Caller} {fuel:Nat} {ob:Nat→Option AObj} {fz:Nat→Nat} {nx:Nat}
theorem yeq {id T i x:Nat} (hfz:fz id=0) (ds es:List Nat) (hxi:ds[i]? =some x) (hT:T<2^60) (hx:x<BT) (he:∀d∈es,d<BT) (hi:i+es.length<T) (V:Nat):∀(m k:Nat),k+m=es.length→∀(o:List Nat) (c:Nat) (X:List (Nat×SV)),o.length=T→(∀d∈o,d<BT)→c<BT→o[i+es.length]? =some 0→
  val BT o+BT^(i+k)*c=V+BT^i*(x*val BT (es.take k))→∀N,m+1<N→∃(o':List Nat) (X':List (Nat×SV)),
  loopN (evC F fuel Fn.y4e) N ⟨env ((0,.one (.sl false (intE ds)))::(1,.one (.sl false (intE es)))::(5,.one (.rsl id 0 1 0 T false))::(6,.one (.int .i64 (i:Int)))::(7,.one (.int .i64 (c:Int)))::(8,.one (.int .i64 (k:Int)))::X),upd ob id (.row 1 (intE o) 0),fz,nx⟩=
   some (.ext 2,⟨env ((0,.one (.sl false (intE ds)))::(1,.one (.sl false (intE es)))::(5,.one (.rsl id 0 1 0 T false))::(6,.one (.int .i64 (i:Int)))::X'),upd ob id (.row 1 (intE o') 0),fz,nx⟩)∧
   o'.length=T∧(∀d∈o',d<BT)∧val BT o'=V+BT^i*(x*val BT es)∧∀j,i+es.length<j→o'[j]? =o[j]?
 | 0,k,hk,o,c,X,ho,hod,hc,hz,hinv,N,hN=>by
  have hk':k=es.length:=by omega
  subst hk'
  rw [List.take_length] at hinv
  obtain ⟨M,rfl⟩:∃M,N=M+2:=⟨N-2,by omega⟩
  have h1:(((es.length:Nat):Int)<((es.length:Nat):Int))=False:=by simp
  have h1':(((es.length+1:Nat):Int)<((es.length:Nat):Int))=False:=by simp only [eq_iff_iff,iff_false];omega
  by_cases hc0:c=0
  ·subst hc0
   have g:(((0:Nat):Int)>0)=False:=by simp
   refine ⟨o,[(7,.one (.int .i64 ((0:Nat):Int))),(8,.one (.int .i64 (es.length:Int))),(29,.one (.bool false))],y06 ?_,ho,hod,by rw [Nat.mul_zero,Nat.add_zero] at hinv;exact hinv,fun _ _=>rfl⟩
   simp only [go_sem,Fn.y4e,h1,g]
  ·have g:(((c:Nat):Int)>0)=True:=by simp;omega
   have g0:(((0:Nat):Int)>0)=False:=by simp
   have t0:((10000:Int)=0)=False:=by simp
   have wi:IntKind.i64.wrap ((i:Int)+(es.length:Int))=((i+es.length:Nat):Int):=addi64 _ _ (by omega)
   have ws:IntKind.i64.wrap (((0:Nat):Int)+(c:Int))=(c:Int):=by rw [addi64 _ _ (by unfold BT at hc;omega),Nat.zero_add]
   have wr:((c:Int)).tmod 10000=(c:Int):=by rw [tmodT,Nat.mod_eq_of_lt (show c<10000 from hc)]
   have wq:IntKind.i64.wrap ((c:Int).tdiv 10000)=((0:Nat):Int):=by rw [tdivT _ (by unfold BT at hc;omega),Nat.div_eq_of_lt (show c<10000 from hc)]
   have wk:IntKind.i64.wrap ((es.length+1:Nat):Int)=((es.length+1:Nat):Int):=wi64 (by omega)
   have hst:evC F fuel Fn.y4e ⟨env ((0,.one (.sl false (intE ds)))::(1,.one (.sl false (intE es)))::(5,.one (.rsl id 0 1 0 T false))::(6,.one (.int .i64 (i:Int)))::(7,.one (.int .i64 (c:Int)))::(8,.one (.int .i64 (es.length:Int)))::X),upd ob id (.row 1 (intE o) 0),fz,nx⟩=
     some (.nrm,⟨env [(0,.one (.sl false (intE ds))),(1,.one (.sl false (intE es))),(5,.one (.rsl id 0 1 0 T false)),(6,.one (.int .i64 (i:Int))),(7,.one (.int .i64 ((0:Nat):Int))),(8,.one (.int .i64 ((es.length+1:Nat):Int)))],upd ob id (.row 1 (intE (o.set (i+es.length) c)) 0),fz,nx⟩):=by
    simp only [go_sem,Fn.y4e,h1,g,wi,hi,hz,ws,wr,wq,t0,hfz,add1,wk]
   refine ⟨o.set (i+es.length) c,[(7,.one (.int .i64 ((0:Nat):Int))),(8,.one (.int .i64 ((es.length+1:Nat):Int))),(29,.one (.bool false))], ?_,by simp [ho], ?_, ?_, ?_⟩
   ·rw [y07 hst]
    refine y06 ?_
    simp only [go_sem,Fn.y4e,h1',g0]
   ·intro d hd
    rcases List.mem_or_eq_of_mem_set hd with h | h
    ·exact hod d h
    ·rw [h];exact hc
   ·have hset:=yb0 BT o (i+es.length) c 0 hz
    rw [Nat.mul_zero,Nat.add_zero] at hset
    rw [hset,hinv]
   ·intro j hj
    rw [List.getElem?_set_ne (by omega)]
 | m+1,k,hk,o,c,X,ho,hod,hc,hz,hinv,N,hN=>by
  obtain ⟨M,rfl⟩:∃M,N=M+1:=⟨N-1,by omega⟩
  have hke:k<es.length:=by omega
  have hio:i+k<o.length:=by omega
  have hikT:i+k<T:=by omega
  have ge:es[k]? =some es[k]:=by simp
  have go':o[i+k]? =some o[i+k]:=by simp
  obtain ⟨s,p,t,r,q,s1,s2,s3,s4,s5,s6,s7,s8⟩:=ysc o[i+k] c x es[k] (hod _ (by simp)) hc hx (he _ (by simp))
  have h1:(((k:Nat):Int)<((es.length:Nat):Int))=True:=by simp;omega
  have t0:((10000:Int)=0)=False:=by simp
  have wi:IntKind.i64.wrap ((i:Int)+(k:Int))=((i+k:Nat):Int):=addi64 _ _ (by omega)
  have wk:IntKind.i64.wrap ((k+1:Nat):Int)=((k+1:Nat):Int):=wi64 (by omega)
  have hst:evC F fuel Fn.y4e ⟨env ((0,.one (.sl false (intE ds)))::(1,.one (.sl false (intE es)))::(5,.one (.rsl id 0 1 0 T false))::(6,.one (.int .i64 (i:Int)))::(7,.one (.int .i64 (c:Int)))::(8,.one (.int .i64 (k:Int)))::X),upd ob id (.row 1 (intE o) 0),fz,nx⟩=
    some (.nrm,⟨env [(0,.one (.sl false (intE ds))),(1,.one (.sl false (intE es))),(5,.one (.rsl id 0 1 0 T false)),(6,.one (.int .i64 (i:Int))),(7,.one (.int .i64 (q:Int))),(8,.one (.int .i64 ((k+1:Nat):Int)))],upd ob id (.row 1 (intE (o.set (i+k) r)) 0),fz,nx⟩):=by
   simp only [go_sem,Fn.y4e,h1,wi,hikT,go',s1,hxi,ge,s2,s3,s4,s5,t0,hfz,add1,wk]
  have hset:=yb0 BT o (i+k) r o[i+k] go'
  obtain ⟨o',X',hl,a1,a2,a3,a4⟩:=yeq hfz ds es hxi hT hx he hi V m (k+1) (by omega) (o.set (i+k) r) q [] (by simp [ho]) (by
   intro d hd
   rcases List.mem_or_eq_of_mem_set hd with h | h
   ·exact hod d h
   ·rw [h];exact s6) s7 (by rw [List.getElem?_set_ne (by omega)];exact hz) (by
   have te:es.take (k+1)=es.take k++[es[k]]:=by rw [List.take_add_one,ge];rfl
   rw [te,y0i,List.length_take,Nat.min_eq_left (by omega),←Nat.add_assoc,Nat.pow_succ,Nat.mul_add,Nat.mul_add]
   have e1:BT^(i+k)*r+BT^(i+k)*BT*q=BT^(i+k)*o[i+k]+BT^(i+k)*c+BT^(i+k)*(x*es[k]):=by
    rw [Nat.mul_assoc (BT^(i+k)) BT,←Nat.mul_add,←Nat.mul_add,←Nat.mul_add,show BT*q=10000*q from rfl,s8]
   have e2:BT^i*(x*(BT^k*es[k]))=BT^(i+k)*(x*es[k]):=by
    rw [Nat.pow_add,Nat.mul_left_comm x,←Nat.mul_assoc]
   rw [e2]
   omega) M (by omega)
  refine ⟨o',X',by rw [y07 hst];exact hl,a1,a2,a3,fun j hj=> ?_⟩
  rw [a4 j hj,List.getElem?_set_ne (by omega)]
theorem yf1 {id T:Nat} (hfz:fz id=0) (ds es:List Nat) (hTe:T=ds.length+es.length) (hT:T<2^60) (hd:∀d∈ds,d<BT) (he:∀d∈es,d<BT) (hfuel:es.length+1<fuel):∀(m i:Nat),i+m=ds.length→∀(o:List Nat) (X:List (Nat×SV)),o.length=T→(∀d∈o,d<BT)→
  val BT o=val BT (ds.take i)*val BT es→(∀j,i+es.length≤j→j<T→o[j]? =some 0)→∀N,m<N→∃(o':List Nat) (X':List (Nat×SV)),
  loopN (evC F fuel Fn.y65) N ⟨env ((0,.one (.sl false (intE ds)))::(1,.one (.sl false (intE es)))::(5,.one (.rsl id 0 1 0 T false))::(6,.one (.int .i64 (i:Int)))::X),upd ob id (.row 1 (intE o) 0),fz,nx⟩=
   some (.ext 0,⟨env ((0,.one (.sl false (intE ds)))::(1,.one (.sl false (intE es)))::(5,.one (.rsl id 0 1 0 T false))::X'),upd ob id (.row 1 (intE o') 0),fz,nx⟩)∧o'.length=T∧(∀d∈o',d<BT)∧val BT o'=val BT ds*val BT es
 | 0,i,hi,o,X,ho,hod,hinv,hz,N+1,hN=>by
  have hi':i=ds.length:=by omega
  subst hi'
  rw [List.take_length] at hinv
  refine ⟨o,[(6,.one (.int .i64 (ds.length:Int))),(19,.one (.bool false))],y06 ?_,ho,hod,hinv⟩
  have h1:(((ds.length:Nat):Int)<((ds.length:Nat):Int))=False:=by simp
  simp only [go_sem,Fn.y65,h1]
 | m+1,i,hi,o,X,ho,hod,hinv,hz,N+1,hN=>by
  have hil:i<ds.length:=by omega
  have gd:ds[i]? =some ds[i]:=by simp
  obtain ⟨o1,X1,a1,a2,a3,a4,a5⟩:=yeq (F:=F) (fuel:=fuel) (ob:=ob) (nx:=nx) (id:=id) (T:=T) (i:=i) (x:=ds[i]) hfz ds es gd hT (hd _ (by simp)) he (by omega) (val BT o) es.length 0 (by omega) o 0 [] ho hod (by decide) (hz _ (Nat.le_refl _) (by omega)) (by simp [val]) fuel hfuel
  rw [show ((0:Nat):Int)=0 from rfl] at a1
  have h1:(((i:Nat):Int)<((ds.length:Nat):Int))=True:=by simp;omega
  have wk:IntKind.i64.wrap ((i+1:Nat):Int)=((i+1:Nat):Int):=wi64 (by omega)
  have hst:evC F fuel Fn.y65 ⟨env ((0,.one (.sl false (intE ds)))::(1,.one (.sl false (intE es)))::(5,.one (.rsl id 0 1 0 T false))::(6,.one (.int .i64 (i:Int)))::X),upd ob id (.row 1 (intE o) 0),fz,nx⟩=
    some (.nrm,⟨env [(0,.one (.sl false (intE ds))),(1,.one (.sl false (intE es))),(5,.one (.rsl id 0 1 0 T false)),(6,.one (.int .i64 ((i+1:Nat):Int)))],upd ob id (.row 1 (intE o1) 0),fz,nx⟩):=by
   simp only [go_sem,Fn.y65,h1,a1,add1,wk]
  rw [y07 hst]
  refine yf1 hfz ds es hTe hT hd he hfuel m (i+1) (by omega) o1 [] a2 a3 ?_ ?_ N (by omega)
  ·have td:ds.take (i+1)=ds.take i++[ds[i]]:=by rw [List.take_add_one,gd];rfl
   rw [td,y0i,List.length_take,Nat.min_eq_left (by omega),Nat.add_mul,←hinv,Nat.mul_assoc,a4]
  ·intro j hj hjT
   rw [a5 j (by omega)]
   exact hz j (by omega) hjT
end
theorem yjf (a b:Nat) (ha:dlen BT a<2^40) (hb:dlen BT b<2^40) {n:Nat} (hn:dlen BT a+dlen BT b+6≤n):evV E (n+1) Id.y39 [.one (zD a),.one (zD b)]=some (.one (zD (a*b))):=by
 rw [y03 yez]
 unfold dlen at ha hb hn
 have zrep:∀k,val BT (List.replicate k 0)=0:=by
  intro k
  induction k with
  | zero=>rfl
  | succ k ih=>rw [List.replicate_succ,val,ih,Nat.mul_zero]
 obtain ⟨o',X',hloop,h2,h3,h4⟩:=yf1 (F:=evF E n) (fuel:=n) (ob:=ob0) (fz:=fz0) (nx:=7) (id:=5) (T:=(digs BT a).length+(digs BT b).length) rfl (digs BT a) (digs BT b) rfl (by omega) (y29 BT2 a) (y29 BT2 b) (by omega)
  (digs BT a).length 0 (by omega) (List.replicate ((digs BT a).length+(digs BT b).length) 0) [] (by simp) (fun d hd=>by rw [(List.mem_replicate.1 hd).2];decide) (by rw [zrep,List.take_zero,val,Nat.zero_mul]) (fun j _ hj=>by simp [hj]) n (by omega)
 rw [y1k BT2,y1k BT2] at h4
 rw [show ((0:Nat):Int)=0 from rfl] at hloop
 have hnr:=yf4 (n:=n) (id:=5) (ver:=0) (full:=false) (ob:=upd ob0 5 (.row 1 (intE o') 0)) (fz:=fz0) o' (by rw [h2];omega) h3 (by rw [h2];omega) y52
 rw [h4,h2] at hnr
 unfold zD at hnr
 have wl:IntKind.i64.wrap (((digs BT a).length+(digs BT b).length:Nat):Int)=(((digs BT a).length+(digs BT b).length:Nat):Int):=wi64 (by omega)
 have l2:(digs BT a).length+(digs BT b).length≤9223372036854775807:=by omega
 have l3:8*((digs BT a).length+(digs BT b).length)≤281474976710656:=by omega
 unfold zD
 simp only [go_sem,Fn.y39,←Int.natCast_add,wl,l2,l3,yhg,hloop,hnr]
end Go.Ev
namespace Go.Ev
open Go.Dig
theorem yz1 {B:Nat} (hB:2≤B) (x fr:Nat) (hf:fr≤dlen B x):val B ((digs B x).drop fr)=x / B^fr:=by
 have h:=yc9 B (digs B x) fr hf
 rw [y1k hB] at h
 have hl:=y64 hB ((digs B x).take fr) (fun d hd=>y29 hB x d (List.mem_of_mem_take hd))
 rw [List.length_take,Nat.min_eq_left (show fr≤(digs B x).length from hf)] at hl
 have hp:0<B^fr:=Nat.pow_pos (by omega)
 conv=>rhs;rw [h]
 rw [Nat.add_mul_div_left _ _ hp,Nat.div_eq_of_lt hl,Nat.zero_add]
theorem guess_le (R b w:Nat) (hb:0<b) (hw:0<w):R / w / (b / w+1)≤R / b:=by
 rw [Nat.le_div_iff_mul_le hb]
 have h1:b<(b / w+1)*w:=by
  have:=Nat.div_add_mod b w
  have h2:=Nat.mod_lt b hw
  rw [Nat.add_mul,Nat.one_mul,Nat.mul_comm]
  omega
 calc R / w / (b / w+1)*b≤R / w / (b / w+1)*((b / w+1)*w):=Nat.mul_le_mul_left _ (Nat.le_of_lt h1)
  _=R / w / (b / w+1)*(b / w+1)*w:=(Nat.mul_assoc _ _ _).symm
  _≤R / w*w:=Nat.mul_le_mul_right _ (Nat.div_mul_le_self _ _)
  _≤R:=Nat.div_mul_le_self _ _
section
variable {ob:Nat→Option AObj} {fz:Nat→Nat} {nx:Nat}
theorem ys6 {n:Nat} (b:Nat) (hb:0<b) (x0 x7 x8:SV):∀(r k:Nat) (X:List (Nat×SV)),dlen BT r<2^40→dlen BT r+6≤n→k+r / b<100000→∀N,r / b<N→∃X',
  loopN (evC (evF E (n+1)) (n+1) Fn.y5v) N ⟨env ((0,x0)::(1,.one (zD b))::(6,.one (zD r))::(7,x7)::(8,x8)::(9,.one (.int .i64 (k:Int)))::X),ob,fz,nx⟩=
   some (.ext 2,⟨env ((0,x0)::(1,.one (zD b))::(6,.one (zD (r%b)))::(7,x7)::(8,x8)::(9,.one (.int .i64 ((k+r / b:Nat):Int)))::X'),ob,fz,nx⟩):=by
 intro r
 induction r using Nat.strongRecOn with
 | _ r ih=>
  intro k X hd hn hk N hN
  obtain ⟨M,rfl⟩:∃M,N=M+1:=⟨N-1,(Nat.sub_add_cancel (Nat.lt_of_le_of_lt (Nat.zero_le _) hN)).symm⟩
  have habs:=y01 (ydo r b (by omega) (n:=n) (by omega)) (can2 (y3j _) (y3j _)) ob fz
  by_cases hlt:r<b
  ·have hc:(cmpI r b≥0)=False:=by
    simp only [cmpI,if_pos hlt,eq_iff_iff,iff_false];decide
   refine ⟨[(63,.one (.bool false))],y06 ?_⟩
   rw [Nat.mod_eq_of_lt hlt,Nat.div_eq_of_lt hlt,Nat.add_zero]
   simp only [go_sem,Fn.y5v,habs,hc]
  ·have hle:b≤r:=by omega
   have hc:(cmpI r b≥0)=True:=by
    simp only [cmpI,if_neg hlt,eq_iff_iff,iff_true]
    split<;>decide
   have hmin:=y01 (yat r b hle hd (n:=n) (by omega)) (can2 (y3j _) (y3j _)) ob fz
   have e1:r / b=(r-b) / b+1:=Nat.div_eq_sub_div hb hle
   have e2:r%b=(r-b)%b:=Nat.mod_eq_sub_mod hle
   obtain ⟨q,hq⟩:∃q,q=(r-b) / b:=⟨_,rfl⟩
   rw [e1,←hq] at hk hN
   have wk:IntKind.i64.wrap ((k+1:Nat):Int)=((k+1:Nat):Int):=wi64 (by omega)
   have hst:evC (evF E (n+1)) (n+1) Fn.y5v ⟨env ((0,x0)::(1,.one (zD b))::(6,.one (zD r))::(7,x7)::(8,x8)::(9,.one (.int .i64 (k:Int)))::X),ob,fz,nx⟩=
     some (.nrm,⟨env [(0,x0),(1,.one (zD b)),(6,.one (zD (r-b))),(7,x7),(8,x8),(9,.one (.int .i64 ((k+1:Nat):Int)))],ob,fz,nx⟩):=by
    simp only [go_sem,Fn.y5v,habs,hc,hmin,add1,wk]
   have hdl:dlen BT (r-b)≤dlen BT r:=y5u BT2 (Nat.sub_le _ _)
   obtain ⟨X',h⟩:=ih (r-b) (by omega) (k+1) [] (by omega) (by omega) (by rw [←hq];omega) M (by rw [←hq];omega)
   refine ⟨X', ?_⟩
   rw [y07 hst,h,e1,e2,←hq,show k+1+q=k+(q+1) by omega]
end
def oA:ACode:=match Fn.y0t with | .seq a _=>a | _=>.skip
def oB:ACode:=match Fn.y0t with | .seq _ (.seq (.block _ (.seq b _)) _)=>b | _=>.skip
def oC:ACode:=match Fn.y0t with | .seq _ (.seq (.block _ (.seq _ (.seq c _))) _)=>c | _=>.skip
def oG:ACode:=match Fn.y0t with | .seq _ (.seq (.block _ (.seq _ (.seq _ (.seq g _)))) _)=>g | _=>.skip
def oM:ACode:=match Fn.y0t with | .seq _ (.seq (.block _ (.seq _ (.seq _ (.seq _ (.seq m _))))) _)=>m | _=>.skip
def oS:ACode:=match Fn.y0t with | .seq _ (.seq (.block _ (.seq _ (.seq _ (.seq _ (.seq _ (.seq _ s)))))) _)=>s | _=>.skip
def oI:ACode:=match Fn.y0t with | .seq _ (.seq _ i)=>i | _=>.skip
theorem yjh:Fn.y0t=.seq oA (.seq (.block 1 (.seq oB (.seq oC (.seq oG (.seq oM (.seq (.block 2 (.loop Fn.y5v)) oS)))))) oI):=rfl
theorem ysk (n R b:Nat) (hb:0<b) (hRq:R / b<BT) (hRl:dlen BT R≤dlen BT b+1) (hbl:dlen BT b<2^39) (hn:2*dlen BT b+200000≤n):∃k:Nat,k≤R / b∧∀(ob:Nat→Option AObj) (fz:Nat→Nat) (nx:Nat) (X:List (Nat×SV)) (x0 x7 x8:SV),∃X2,evC (evF E (n+1)) (n+1) oG
  ⟨env ((0,x0)::(1,.one (zD b))::(6,.one (zD R))::(7,x7)::(8,x8)::(9,.one (.int .i64 0))::X),ob,fz,nx⟩=some (.nrm,⟨env ((0,x0)::(1,.one (zD b))::(6,.one (zD R))::(7,x7)::(8,x8)::(9,.one (.int .i64 (k:Int)))::X2),ob,fz,nx⟩):=by
 unfold oG Fn.y0t
 by_cases h3:dlen BT b≤3
 ·refine ⟨R / b,Nat.le_refl _,fun ob fz nx X x0 x7 x8=>⟨[], ?_⟩⟩
  have t1:=y01 (yfe R 0 (by omega) (Nat.zero_le _) (by omega) (n:=n) (by omega)) (can2 (y3j _) (y26 _ _)) ob fz
  have t2:=y01 (yfe b 0 (by omega) (Nat.zero_le _) (by omega) (n:=n) (by omega)) (can2 (y3j _) (y26 _ _)) ob fz
  rw [List.drop_zero,y1k BT2,show ((0:Nat):Int)=0 from rfl] at t1 t2
  have hb4:(((digs BT b).length:Int)≤3)=True:=by simp only [eq_iff_iff,iff_true];unfold dlen at h3;omega
  have hb0:(((b:Nat):Int)=0)=False:=by simp only [eq_iff_iff,iff_false];omega
  have wq:IntKind.i64.wrap (((R:Nat):Int).tdiv (b:Int))=((R / b:Nat):Int):=by
   rw [←Int.ofNat_tdiv];exact wi64 (by unfold BT at hRq;omega)
  unfold zD at t1 t2 ⊢
  simp only [go_sem,hb4,t1,t2,hb0,wq]
 ·have hb4:(((digs BT b).length:Int)≤3)=False:=by simp only [eq_iff_iff,iff_false];unfold dlen at h3;omega
  by_cases hge:dlen BT b≤dlen BT R
  ·obtain ⟨w,hw⟩:∃w,w=BT^(dlen BT b-3):=⟨_,rfl⟩
   have hwp:0<w:=by rw [hw];exact Nat.pow_pos (by decide)
   refine ⟨R / w / (b / w+1),guess_le R b w hb hwp,fun ob fz nx X x0 x7 x8=>⟨[], ?_⟩⟩
   have t1:=y01 (yfe R (dlen BT b-3) (by omega) (by omega) (by omega) (n:=n) (by omega)) (can2 (y3j _) (y26 _ _)) ob fz
   have t2:=y01 (yfe b (dlen BT b-3) (by omega) (by omega) (by omega) (n:=n) (by omega)) (can2 (y3j _) (y26 _ _)) ob fz
   rw [yz1 BT2 _ _ (by omega),←hw] at t1 t2
   have hbw:b / w<1000000000000:=by
    have h1:=y6x BT2 b
    refine Nat.div_lt_of_lt_mul (Nat.lt_of_lt_of_le h1 ?_)
    rw [hw,show dlen BT b=dlen BT b-3+3 by omega,Nat.pow_add,show dlen BT b-3+3-3=dlen BT b-3 by omega]
    exact Nat.mul_le_mul_left _ (by decide)
   have hgl:(((digs BT R).length:Int)≥((digs BT b).length:Int))=True:=by simp only [ge_iff_le,eq_iff_iff,iff_true];unfold dlen at hge;omega
   have w3:IntKind.i64.wrap (((digs BT b).length:Int)-3)=((dlen BT b-3:Nat):Int):=by rw [wrap_i64 (by unfold dlen at hbl;omega)];unfold dlen at h3 ⊢;omega
   have w4:IntKind.i64.wrap ((b / w+1:Nat):Int)=((b / w+1:Nat):Int):=wi64 (Nat.lt_of_le_of_lt (Nat.succ_le_of_lt hbw) (by decide))
   have hb0:(((b / w+1:Nat):Int)=0)=False:=by simp only [eq_iff_iff,iff_false];exact Int.natCast_ne_zero.2 (Nat.succ_ne_zero _)
   have hgk:=guess_le R b w hb hwp
   have wq:IntKind.i64.wrap (((R / w:Nat):Int).tdiv ((b / w+1:Nat):Int))=((R / w / (b / w+1):Nat):Int):=by
    rw [←Int.ofNat_tdiv];exact wi64 (Nat.lt_of_le_of_lt hgk (Nat.lt_trans hRq (by decide)))
   generalize dlen BT b-3=fr at t1 t2 w3
   generalize R / w / (b / w+1)=kk at wq ⊢
   generalize R / w=rw' at t1 wq
   generalize b / w=bw at t2 w4 hb0 wq
   unfold zD at t1 t2 ⊢
   simp only [go_sem,hb4,hgl,w3,t1,t2,add1,w4,hb0,wq]
  ·refine ⟨0,Nat.zero_le _,fun ob fz nx X x0 x7 x8=>⟨[(40,.one (.bool false))], ?_⟩⟩
   have hgl:(((digs BT R).length:Int)≥((digs BT b).length:Int))=False:=by simp only [ge_iff_le,eq_iff_iff,iff_false];unfold dlen at hge;omega
   have z0:((0:Nat):Int)=0:=rfl
   unfold zD
   simp only [go_sem,hb4,hgl,z0]
def RestIs (x:SV) (r:Nat):Prop:=x=.one (zD r)∨(r=0∧x=.one .nils)
section
variable {ob:Nat→Option AObj} {fz:Nat→Nat} {nx:Nat}
theorem yxp {n:Nat} {i:Nat} (us:List Nat) (b rest d R:Nat) (hR:R=d+BT*rest) (hd:d<BT) (x1 x7 xr:SV) (hxr:RestIs xr rest) (gu:us[i]? =some d) (hrl:dlen BT rest<2^39) (hn:dlen BT rest+10≤n) (X:List (Nat×SV)):
  ∃(ob':Nat→Option AObj) (fz':Nat→Nat),(∀id,id<nx→ob' id=ob id)∧(∀id,id<nx→fz' id=fz id)∧evC (evF E (n+1)) (n+1) oB ⟨env ((0,.one (.sl false (intE us)))::(1,x1)::(6,xr)::(7,x7)::(8,.one (.int .i64 (i:Int)))::X),ob,fz,nx⟩=
   some (.nrm,⟨env [(0,.one (.sl false (intE us))),(1,x1),(6,.one (zD R)),(7,x7),(8,.one (.int .i64 (i:Int)))],ob',fz',nx+9⟩):=by
 have hcd:∀x∈d::digs BT rest,x<BT:=by
  intro x hx
  rcases List.mem_cons.1 hx with rfl | h
  ·exact hd
  ·exact y29 BT2 rest x h
 have hkp:(((i:Nat):Int)≥0)=True:=by simp
 have hob:∀(y:AObj) id,id<nx→upd ob (nx+4) y id=ob id:=fun y id h=>y00 (by omega)
 have hfz:∀m id,id<nx→raise fz (nx+4) m id=fz id:=fun m id h=>ybf (by omega)
 have hval:val BT ([d]++digs BT rest)=R:=by rw [hR];show d+BT*val BT (digs BT rest)=_;rw [y1k BT2]
 have ht:=fun ob fz v h=>yf4 (n:=n+1) (id:=nx+4) (ver:=v) (full:=false) (ob:=ob) (fz:=fz) ([d]++digs BT rest) (by unfold dlen at hrl;simp;omega) hcd (by unfold dlen at hn;simp;omega) h
 rw [hval] at ht
 have key:∃v x,(xr=.one x∧x=v)∧(v=.nils∧digs BT rest=[]∨v=.sl false (intE (digs BT rest))):=by
  rcases hxr with rfl | ⟨rfl,rfl⟩
  ·exact ⟨_,_,⟨rfl,rfl⟩,.inr rfl⟩
  ·exact ⟨_,_,⟨rfl,rfl⟩,.inl ⟨rfl,digs_zero _⟩⟩
 obtain ⟨v,_,⟨rfl,rfl⟩,hv⟩:=key
 unfold oB Fn.y0t
 unfold dlen at hrl hn
 generalize digs BT rest=ds at*
 have e1:[[AV.int .i64 (d:Int)]]=intE [d]:=rfl
 rcases ds with _ | ⟨e,es⟩
 ·have e2:intE []=[]:=rfl
  have ht:=fun ob fz h=>ht ob fz 0 h
  simp only [List.append_nil] at ht
  rcases hv with ⟨rfl,_⟩ | rfl
  ·refine ⟨upd ob (nx+4) (.row 1 [[AV.int .i64 (d:Int)]] 0),raise fz (nx+4) 1,hob _,hfz _, ?_⟩
   have ht:=ht (upd ob (nx+4) (.row 1 [[AV.int .i64 (d:Int)]] 0)) fz y52
   simp only [List.length_cons,List.length_nil,Nat.zero_add] at ht
   simp only [go_sem,gu,hkp,ht]
  ·refine ⟨upd ob (nx+4) (.row 1 [[AV.int .i64 (d:Int)]] 0),raise fz (nx+4) 1,hob _,hfz _, ?_⟩
   have ht:=ht (upd ob (nx+4) (.row 1 [[AV.int .i64 (d:Int)]] 0)) fz y52
   simp only [List.length_cons,List.length_nil,Nat.zero_add] at ht
   simp only [go_sem,gu,hkp,e2,show okSz 1 ([]:List (List AV))=true from rfl,ht]
 ·rcases hv with ⟨_,h⟩ | rfl
  ·exact absurd h (by simp)
  ·have e2:intE (e::es)=[AV.int .i64 (e:Int)]::intE es:=rfl
   have hl8:(1+(es.length+1))*8≤140737488355328:=by simp only [List.length_cons] at hrl;omega
   refine ⟨upd ob (nx+4) (.row 1 ([AV.int .i64 (d:Int)]::[AV.int .i64 (e:Int)]::intE es) 1),raise fz (nx+4) (1+(es.length+1)),hob _,hfz _, ?_⟩
   have ht:=ht (upd ob (nx+4) (.row 1 ([AV.int .i64 (d:Int)]::[AV.int .i64 (e:Int)]::intE es) 1)) fz 1 y52
   rw [show ([d]++e::es).length=1+(es.length+1) by simp;omega] at ht
   simp only [go_sem,gu,hkp,e2,show okSz 1 ([AV.int .i64 (e:Int)]::intE es)=true from rfl,hl8,ROOM,ht]
theorem yxa {n:Nat} (b R k:Nat) (hk:k≤R / b) (hb:0<b) (hkl:R / b<BT) (hbl:dlen BT b<2^39) (hRl:dlen BT R≤dlen BT b+1) (hn:2*dlen BT b+200000≤n) (x0 x7 x8:SV) (X:List (Nat×SV)):∃X',
  evC (evF E (n+1)) (n+1) oM ⟨env ((0,x0)::(1,.one (zD b))::(6,.one (zD R))::(7,x7)::(8,x8)::(9,.one (.int .i64 (k:Int)))::X),ob,fz,nx⟩=
   some (.nrm,⟨env ((0,x0)::(1,.one (zD b))::(6,.one (zD (R-b*k)))::(7,x7)::(8,x8)::(9,.one (.int .i64 (k:Int)))::X'),ob,fz,nx⟩):=by
 have hkB:k<BT:=Nat.lt_of_le_of_lt hk hkl
 have hz:=y01 (y94 (k:Int) (by omega) (by unfold BT at hkB;omega) (n:=n) (by omega)) (can1 (y26 _ _)) ob fz
 have hbk:b*k≤R:=by
  have:=Nat.mul_div_le R b
  exact Nat.le_trans (Nat.mul_le_mul_left _ hk) this
 have hkd:dlen BT k≤1:=y5n BT2 (by rw [Nat.pow_one];exact hkB)
 have ht:=y01 (yjf b k (by omega) (by omega) (n:=n) (by omega)) (can2 (y3j _) (y3j _)) ob fz
 have hm:=y01 (yat R (b*k) hbk (by omega) (n:=n) (by omega)) (can2 (y3j _) (y3j _)) ob fz
 refine ⟨[], ?_⟩
 unfold oM Fn.y0t
 have e:sV (k:Int)=.agg [.bool false,zD k]:=by
  have h0:decide ((k:Int)<0)=false:=by simp
  simp only [sV,zC,h0,Int.natAbs_natCast]
 rw [e] at hz
 simp only [go_sem,hz,ht,hm]
end
end Go.Ev
namespace Go.Ev
open Go.Dig
section
variable {ob:Nat→Option AObj} {fz:Nat→Nat} {nx:Nat}
theorem ys3 {n:Nat} {idq i:Nat} (us qs:List Nat) (b rest d:Nat) (hb:0<b) (hrest:rest<b) (xr:SV) (hxr:RestIs xr rest) (hi:i<us.length) (hqs:qs.length=us.length) (hs:us.length<2^39) (gu:us[i]? =some d) (hd:d<BT) (hbl:dlen BT b<2^38) (hidq:idq<nx) (hfq:fz idq=0) (hq:ob idq=some (.row 1 (intE qs) 0)) (hn:2*dlen BT b+200000≤n) (X:List (Nat×SV)):
  ∃(ob':Nat→Option AObj) (fz':Nat→Nat) (X':List (Nat×SV)),evC (evF E (n+1)) (n+1) Fn.y0t ⟨env ((0,.one (.sl false (intE us)))::(1,.one (zD b))::(6,xr)::(7,.one (.rsl idq 0 1 0 us.length false))::(8,.one (.int .i64 (i:Int)))::X),ob,fz,nx⟩=
   some (.nrm,⟨env ((0,.one (.sl false (intE us)))::(1,.one (zD b))::(6,.one (zD ((d+BT*rest)%b)))::(7,.one (.rsl idq 0 1 0 us.length false))::(8,.one (.int .i64 ((i:Int)-1)))::X'),ob',fz',nx+9⟩)∧fz' idq=0∧ob' idq=some (.row 1 (intE (qs.set i ((d+BT*rest) / b))) 0)∧(d+BT*rest) / b<BT:=by
 obtain ⟨R,hR⟩:∃R,R=d+BT*rest:=⟨_,rfl⟩
 rw [←hR]
 have hRb:R<BT*b:=by
  have:BT*rest+BT≤BT*b:=by rw [←Nat.mul_succ];exact Nat.mul_le_mul_left _ hrest
  omega
 have hRq:R / b<BT:=Nat.div_lt_of_lt_mul (by rw [Nat.mul_comm];exact hRb)
 have hRl:dlen BT R≤dlen BT b+1:=by
  refine y5n BT2 (Nat.lt_of_lt_of_le hRb ?_)
  rw [Nat.pow_succ,Nat.mul_comm]
  exact Nat.mul_le_mul_right _ (Nat.le_of_lt (y6x BT2 b))
 have hrl:dlen BT rest≤dlen BT b:=y5u BT2 (Nat.le_of_lt hrest)
 have hkp:(((i:Nat):Int)≥0)=True:=by simp
 have wi:IntKind.i64.wrap ((i:Int)-1)=(i:Int)-1:=wrap_i64 (by omega)
 obtain ⟨k,hk,hG⟩:=ysk n R b hb hRq hRl (by omega) hn
 obtain ⟨ob',fz',hob,hfz,hB⟩:=yxp (ob:=ob) (fz:=fz) (nx:=nx) (n:=n) (i:=i) us b rest d R hR hd (.one (zD b)) (.one (.rsl idq 0 1 0 us.length false)) xr hxr gu (by omega) (by omega) [(17,.one (.bool true))]
 obtain ⟨X2,hG⟩:=hG ob' fz' (nx+9) [] (.one (.sl false (intE us))) (.one (.rsl idq 0 1 0 us.length false)) (.one (.int .i64 (i:Int)))
 obtain ⟨X3,hM⟩:=yxa (ob:=ob') (fz:=fz') (nx:=nx+9) b R k hk hb hRq (by omega) hRl hn (.one (.sl false (intE us))) (.one (.rsl idq 0 1 0 us.length false)) (.one (.int .i64 (i:Int))) X2
 have hbk:b*k≤R:=Nat.le_trans (Nat.mul_le_mul_left _ hk) (Nat.mul_div_le R b)
 have hdm:R=b*k+(R-b*k):=by omega
 have hq1:k+(R-b*k) / b=R / b:=by
  have h1:(R-b*k) / b=R / b-k:=Nat.sub_mul_div R b k
  rw [h1];exact Nat.add_sub_cancel' hk
 have hr1:(R-b*k)%b=R%b:=by
  have h1:(b*k+(R-b*k))%b=(R-b*k)%b:=Nat.mul_add_mod _ _ _
  rw [←hdm] at h1;exact h1.symm
 have hk2:k+(R-b*k) / b<100000:=by rw [hq1];exact Nat.lt_trans hRq (by decide)
 obtain ⟨X4,hL⟩:=ys6 (ob:=ob') (fz:=fz') (nx:=nx+9) (n:=n) b hb (.one (.sl false (intE us))) (.one (.rsl idq 0 1 0 us.length false)) (.one (.int .i64 (i:Int))) (R-b*k) k X3 (Nat.lt_of_le_of_lt (y5u BT2 (Nat.sub_le _ _)) (by omega)) (Nat.le_trans (Nat.add_le_add_right (y5u BT2 (Nat.sub_le R (b*k))) _) (by omega)) hk2 (n+1) (Nat.lt_of_le_of_lt (Nat.le_trans (Nat.le_add_left _ k) (Nat.le_of_lt hk2)) (by omega))
 rw [hq1,hr1] at hL
 have hq':ob' idq=some (.row 1 (intE qs) 0):=by rw [hob _ hidq];exact hq
 have hf':fz' idq=0:=by rw [hfz _ hidq];exact hfq
 have hrw:rowAt ob' idq 0=some (1,intE qs):=y4d hq'
 refine ⟨upd ob' idq (.row 1 (intE (qs.set i (R / b))) 0),fz',[], ?_,hf',upd_same _ _ _,hRq⟩
 rw [yjh]
 have hA:evC (evF E (n+1)) (n+1) oA ⟨env ((0,.one (.sl false (intE us)))::(1,.one (zD b))::(6,xr)::(7,.one (.rsl idq 0 1 0 us.length false))::(8,.one (.int .i64 (i:Int)))::X),ob,fz,nx⟩=
   some (.nrm,⟨env [(0,.one (.sl false (intE us))),(1,.one (zD b)),(6,xr),(7,.one (.rsl idq 0 1 0 us.length false)),(8,.one (.int .i64 (i:Int))),(17,.one (.bool true))],ob,fz,nx⟩):=by
  unfold oA Fn.y0t
  simp only [go_sem,hkp]
 have hC:evC (evF E (n+1)) (n+1) oC ⟨env [(0,.one (.sl false (intE us))),(1,.one (zD b)),(6,.one (zD R)),(7,.one (.rsl idq 0 1 0 us.length false)),(8,.one (.int .i64 (i:Int)))],ob',fz',nx+9⟩=
   some (.nrm,⟨env [(0,.one (.sl false (intE us))),(1,.one (zD b)),(6,.one (zD R)),(7,.one (.rsl idq 0 1 0 us.length false)),(8,.one (.int .i64 (i:Int))),(9,.one (.int .i64 0))],ob',fz',nx+9⟩):=by
  unfold oC Fn.y0t
  simp only [go_sem]
 have hS:evC (evF E (n+1)) (n+1) oS ⟨env ((0,.one (.sl false (intE us)))::(1,.one (zD b))::(6,.one (zD (R%b)))::(7,.one (.rsl idq 0 1 0 us.length false))::(8,.one (.int .i64 (i:Int)))::(9,.one (.int .i64 ((R / b:Nat):Int)))::X4),ob',fz',nx+9⟩=
   some (.nrm,⟨env [(0,.one (.sl false (intE us))),(1,.one (zD b)),(6,.one (zD (R%b))),(7,.one (.rsl idq 0 1 0 us.length false)),(8,.one (.int .i64 (i:Int)))],upd ob' idq (.row 1 (intE (qs.set i (R / b))) 0),fz',nx+9⟩):=by
  unfold oS Fn.y0t
  have hiq:i<qs.length:=by omega
  have gq:qs[i]? =some qs[i]:=by simp
  generalize qs[i]=qi at gq
  simp only [go_sem,hi,hrw,hq',hf',gq]
 have hI:evC (evF E (n+1)) (n+1) oI ⟨env [(0,.one (.sl false (intE us))),(1,.one (zD b)),(6,.one (zD (R%b))),(7,.one (.rsl idq 0 1 0 us.length false)),(8,.one (.int .i64 (i:Int)))],upd ob' idq (.row 1 (intE (qs.set i (R / b))) 0),fz',nx+9⟩=
   some (.nrm,⟨env [(0,.one (.sl false (intE us))),(1,.one (zD b)),(6,.one (zD (R%b))),(7,.one (.rsl idq 0 1 0 us.length false)),(8,.one (.int .i64 ((i:Int)-1)))],upd ob' idq (.row 1 (intE (qs.set i (R / b))) 0),fz',nx+9⟩):=by
  unfold oI Fn.y0t
  simp only [go_sem,wi]
 simp only [x_seq,hA,y4u,yfi,hB,hC,hG,hM,ynm,hL,y7c,yhs,hS,hI,go_sem]
theorem ym3 {n:Nat} {idq:Nat} (us:List Nat) (b:Nat) (hb:0<b) (hs:us.length<2^39) (hus:∀d∈us,d<BT) (hbl:dlen BT b<2^38) (hn:2*dlen BT b+200000≤n):∀(m:Nat),m≤us.length→∀(ob:Nat→Option AObj) (fz:Nat→Nat) (nx:Nat) (qs:List Nat) (rest:Nat) (xr:SV) (X:List (Nat×SV)),idq<nx→fz idq=0→ob idq=some (.row 1 (intE qs) 0)→qs.length=us.length→(∀d∈qs,d<BT)→rest<b→RestIs xr rest→val BT (qs.drop m)*b+rest=val BT (us.drop m)→∀N,m<N→
  ∃(ob':Nat→Option AObj) (fz':Nat→Nat) (nx':Nat) (qs':List Nat) (rest':Nat) (xr':SV) (X':List (Nat×SV)),loopN (evC (evF E (n+1)) (n+1) Fn.y0t) N ⟨env ((0,.one (.sl false (intE us)))::(1,.one (zD b))::(6,xr)::(7,.one (.rsl idq 0 1 0 us.length false))::(8,.one (.int .i64 ((m:Int)-1)))::X),ob,fz,nx⟩=
   some (.ext 0,⟨env ((0,.one (.sl false (intE us)))::(1,.one (zD b))::(6,xr')::(7,.one (.rsl idq 0 1 0 us.length false))::X'),ob',fz',nx'⟩)∧fz' idq=0∧ob' idq=some (.row 1 (intE qs') 0)∧qs'.length=us.length∧(∀d∈qs',d<BT)∧rest'<b∧RestIs xr' rest'∧val BT qs'*b+rest'=val BT us
 | 0,_,ob,fz,nx,qs,rest,xr,X,h1,h2,h3,h4,h5,h6,h7,h8,N+1,_=>by
  refine ⟨ob,fz,nx,qs,rest,xr,[(8,.one (.int .i64 (-1))),(17,.one (.bool false))],y06 ?_,h2,h3,h4,h5,h6,h7,by simpa using h8⟩
  have e:(((0:Nat):Int)-1)=-1:=rfl
  have g:((-1:Int)≥0)=False:=by simp
  rw [yjh]
  unfold oA Fn.y0t
  simp only [go_sem,e,g]
 | m+1,hm,ob,fz,nx,qs,rest,xr,X,h1,h2,h3,h4,h5,h6,h7,h8,N+1,hN=>by
  have gu:us[m]? =some us[m]:=by simp
  have hd:us[m]<BT:=hus _ (by simp)
  have e:((m+1:Nat):Int)-1=(m:Int):=by omega
  obtain ⟨ob',fz',X',hr,a1,a2,a3⟩:=ys3 (n:=n) us qs b rest us[m] hb h6 xr h7 (by omega) h4 hs gu hd hbl h1 h2 h3 hn X
  rw [e,y07 hr]
  refine ym3 us b hb hs hus hbl hn m (by omega) ob' fz' (nx+9) _ _ _ X' (by omega) a1 a2 (by simp [h4]) ?_ (Nat.mod_lt _ hb) (.inl rfl) ?_ N (by omega)
  ·intro d hd
   rcases List.mem_or_eq_of_mem_set hd with h | h
   ·exact h5 d h
   ·rw [h];exact a3
  ·have hmq:m<(qs.set m ((us[m]+BT*rest) / b)).length:=by simp;omega
   rw [List.drop_eq_getElem_cons hmq,List.drop_eq_getElem_cons (show m<us.length by omega)]
   have e1:(qs.set m ((us[m]+BT*rest) / b))[m]=(us[m]+BT*rest) / b:=by simp
   rw [e1,List.drop_set_of_lt (by omega),val,val,←h8]
   have hdm:=Nat.div_add_mod (us[m]+BT*rest) b
   generalize (us[m]+BT*rest) / b=q at*
   generalize (us[m]+BT*rest)%b=r at*
   rw [Nat.add_mul,Nat.mul_add,Nat.mul_assoc,Nat.mul_comm q b]
   omega
end
theorem yeg (a b:Nat) (hb:0<b) (ha:dlen BT a<2^38) (hbl:dlen BT b<2^38) {n:Nat} (hn:dlen BT a+2*dlen BT b+200001≤n):evV E (n+1) Id.y2s [.one (zD a),.one (zD b)]=some (.tup [.one (zD (a / b)),.one (zD (a%b))]):=by
 obtain ⟨n,rfl⟩:∃k,n=k+1:=⟨n-1,by omega⟩
 rw [y03 ygh]
 have hal:(digs BT a).length=dlen BT a:=rfl
 obtain ⟨ob',fz',nx',qs',rest',xr',X',hloop,h2,h3,h4,h5,h6,h7,h8⟩:=ym3 (n:=n) (idq:=2) (digs BT a) b hb (by omega) (y29 BT2 a) hbl (by omega) (digs BT a).length (Nat.le_refl _) (upd ob0 2 (.row 1 (intE (List.replicate (digs BT a).length 0)) 0)) fz0 4 (List.replicate (digs BT a).length 0) 0 (.one .nils) [] (by omega) rfl (upd_same _ _ _) (by simp) (fun d hd=>by rw [(List.mem_replicate.1 hd).2];decide) hb (.inr ⟨rfl,rfl⟩) (by simp [val]) (n+1) (by omega)
 rw [y1k BT2] at h8
 have hq:val BT qs'=a / b:=by
  rw [←h8,Nat.mul_comm,Nat.mul_add_div hb,Nat.div_eq_of_lt h6,Nat.add_zero]
 have hr:rest'=a%b:=by
  rw [←h8,Nat.mul_comm,Nat.mul_add_mod,Nat.mod_eq_of_lt h6]
 have hnr:=yf4 (n:=n+1) (id:=2) (ver:=0) (full:=false) (ob:=ob') (fz:=fz') qs' (by rw [h4];omega) h5 (by rw [h4];omega) (y4d h3)
 rw [h4,hq] at hnr
 have wl:IntKind.i64.wrap (((digs BT a).length:Int)-1)=((digs BT a).length:Int)-1:=wrap_i64 (by omega)
 have l2:(digs BT a).length≤9223372036854775807:=by omega
 have l3:8*(digs BT a).length≤281474976710656:=by omega
 unfold zD at hnr hloop ⊢
 rcases h7 with rfl | ⟨rfl,rfl⟩
 ·rw [hr] at hloop
  unfold zD at hloop
  simp only [go_sem,Fn.y2s,wl,l2,l3,yhg,hloop,hnr]
 ·rw [←hr,digs_zero]
  have e0:intE []=[]:=rfl
  simp only [go_sem,Fn.y2s,wl,l2,l3,yhg,hloop,hnr,e0]
end Go.Ev
namespace Go.Ev
open Go.Dig
section
variable {F:Caller} {fuel:Nat} {fz:Nat→Nat} {ob:Nat→Option AObj} {nx:Nat}
theorem ygw {id:Nat} {sg:AV} (ds:List Nat) (hl:ds.length≤4) (hd:∀d∈ds,d<BT) (hob:ob id=some (.box [sg,.sl false (intE ds)])):∀(k:Nat),k≤ds.length→∀(X:List (Nat×SV)) (N:Nat),k<N→∃X',
  loopN (evC F fuel Fn.y7h) N ⟨env ((1,.one (.box id 0))::(4,.one (.int .i64 (val BT (ds.drop k):Int)))::(5,.one (.int .i64 ((k:Int)-1)))::X),ob,fz,nx⟩=
   some (.ext 0,⟨env ((1,.one (.box id 0))::(4,.one (.int .i64 (val BT ds:Int)))::X'),ob,fz,nx⟩)
 | 0,hk,X,N+1,hN=>by
  have h1:((-1:Int)≥0)=False:=by simp
  have e:(((0:Nat):Int)-1)=-1:=rfl
  refine ⟨[(5,.one (.int .i64 (-1))),(15,.one (.bool false))],y06 ?_⟩
  rw [List.drop_zero,e]
  simp only [go_sem,Fn.y7h,h1]
 | j+1,hk,X,N+1,hN=>by
  have h0:(((j+1:Nat):Int)-1)=(j:Nat):=by omega
  have h1:(((j:Nat):Int)≥0)=True:=by simp
  have hjl:j<ds.length:=by omega
  have gd:ds[j]? =some ds[j]:=by simp
  have e:ds.drop j=ds[j]::ds.drop (j+1):=List.drop_eq_getElem_cons hjl
  have hb:val BT (ds.drop j)<10000000000000000:=by
   have h2:=y64 BT2 (ds.drop j) (fun d h=>hd d (List.mem_of_mem_drop h))
   have h3:BT^(ds.drop j).length≤BT^4:=Nat.pow_le_pow_right (by decide) (by simp;omega)
   exact Nat.lt_of_lt_of_le h2 (Nat.le_trans h3 (by decide))
  have hv:val BT (ds.drop j)=ds[j]+10000*val BT (ds.drop (j+1)):=by rw [e];rfl
  rw [hv] at hb
  have wm:IntKind.i64.wrap ((val BT (ds.drop (j+1)):Int)*10000)=((val BT (ds.drop (j+1))*10000:Nat):Int):=by
   rw [show ((val BT (ds.drop (j+1)):Int)*10000)=((val BT (ds.drop (j+1))*10000:Nat):Int) from (Int.natCast_mul _ 10000).symm]
   exact wi64 (by omega)
  have wa:IntKind.i64.wrap (((val BT (ds.drop (j+1))*10000:Nat):Int)+(ds[j]:Int))=(val BT (ds.drop j):Int):=by
   rw [addi64 _ _ (by omega),hv]
   congr 1
   omega
  have wj:IntKind.i64.wrap ((j:Int)-1)=(j:Int)-1:=wrap_i64 (by omega)
  obtain ⟨X',h⟩:=ygw ds hl hd hob j (by omega) [] N (by omega)
  refine ⟨X', ?_⟩
  rw [←h]
  refine y07 ?_
  generalize val BT (ds.drop j)=v1 at wa ⊢
  generalize val BT (ds.drop (j+1))=v0 at wm wa ⊢
  generalize v0*10000=v2 at wm wa
  simp only [go_sem,Fn.y7h,h0,h1,hob,gd,wm,wa,wj]
end
def smallR (x:Nat):SV:=if dlen BT x≤4 then .tup [.one (.int .i64 (x:Int)),.one (.bool true)] else .tup [.one (.int .i64 0),.one (.bool false)]
theorem yj3 (x:Nat) (sg:Bool) (hx:dlen BT x<2^60) {n:Nat} (hn:6≤n):evV E (n+1) Id.y2u [.agg [.bool sg,zD x]]=some (smallR x):=by
 rw [y03 yev]
 unfold smallR
 by_cases h:dlen BT x≤4
 ·rw [if_pos h]
  unfold dlen at h
  have hg:(((digs BT x).length:Int)>4)=False:=by simp only [eq_iff_iff,iff_false];omega
  have hw:IntKind.i64.wrap (((digs BT x).length:Int)-1)=((digs BT x).length:Int)-1:=wrap_i64 (by omega)
  obtain ⟨X',hl⟩:=ygw (F:=evF E n) (fuel:=n) (fz:=fz0) (nx:=3) (id:=0) (sg:=.bool sg) (ob:=upd ob0 0 (.box [.bool sg,.sl false (intE (digs BT x))])) (digs BT x) h (y29 BT2 x) (upd_same _ _ _) (digs BT x).length (Nat.le_refl _) [] n (by omega)
  rw [List.drop_length,y1k BT2,val,show ((0:Nat):Int)=0 from rfl] at hl
  unfold zD
  simp only [go_sem,Fn.y2u,hg,hw,hl]
 ·rw [if_neg h]
  unfold dlen at h
  have hg:(((digs BT x).length:Int)>4)=True:=by simp only [eq_iff_iff,iff_true];omega
  unfold zD
  simp only [go_sem,Fn.y2u,hg]
section
variable {F:Caller} {fuel:Nat} {fz:Nat→Nat} {ob:Nat→Option AObj} {nx:Nat}
theorem ysg (x4:SV):∀(y x:Nat) (X:List (Nat×SV)) (N:Nat),y<N→∃X',
  loopN (evC F fuel Fn.y58) N ⟨env ((4,x4)::(7,.one (.int .i64 (x:Int)))::(9,.one (.int .i64 (y:Int)))::X),ob,fz,nx⟩=
   some (.ext 2,⟨env ((4,x4)::(7,.one (.int .i64 (Nat.gcd x y:Int)))::X'),ob,fz,nx⟩):=by
 intro y
 induction y using Nat.strongRecOn with
 | _ y ih=>
  intro x X N hN
  obtain ⟨M,rfl⟩:∃M,N=M+1:=⟨N-1,by omega⟩
  by_cases hy:y=0
  ·subst hy
   have h1:(((0:Nat):Int) !=0)=false:=rfl
   refine ⟨[(9,.one (.int .i64 ((0:Nat):Int))),(37,.one (.bool false))],y06 ?_⟩
   rw [Nat.gcd_zero_right]
   simp only [go_sem,Fn.y58,h1]
  ·have h1:(((y:Nat):Int) !=0)=true:=by simp;omega
   have h0:(((y:Nat):Int)=0)=False:=by simp only [eq_iff_iff,iff_false];omega
   have hr:((x:Int)).tmod (y:Int)=((x%y:Nat):Int):=(Int.ofNat_tmod x y).symm
   have hst:evC F fuel Fn.y58 ⟨env ((4,x4)::(7,.one (.int .i64 (x:Int)))::(9,.one (.int .i64 (y:Int)))::X),ob,fz,nx⟩=some (.nrm,⟨env [(4,x4),(7,.one (.int .i64 (y:Int))),(9,.one (.int .i64 ((x%y:Nat):Int)))],ob,fz,nx⟩):=by
    simp only [go_sem,Fn.y58,h1,h0,hr]
   rw [y07 hst]
   have hlt:x%y<y:=Nat.mod_lt _ (by omega)
   have:Nat.gcd y (x%y)=Nat.gcd x y:=by rw [Nat.gcd_comm y (x%y),←Nat.gcd_rec,Nat.gcd_comm]
   rw [←this]
   exact ih (x%y) hlt y [] M (by omega)
def KR (S:Nat):Nat:=2^S+6*S+20000000000000000
theorem y10 {x S:Nat} (h:x<2^S):dlen BT x≤S:=by
 refine y5n BT2 (Nat.lt_of_lt_of_le h ?_)
 exact Nat.pow_le_pow_left (by decide) S
theorem ylm {x:Nat} (h:dlen BT x≤4):x<10000000000000000:=by
 have h1:=y6x BT2 x
 exact Nat.lt_of_lt_of_le h1 (Nat.le_trans (Nat.pow_le_pow_right (by decide) h) (by decide))
theorem yv0 {n id S:Nat} (hS:S<2^37) (hn:KR S≤n) (hob:∃cs,ob id=some (.box cs)∧cs.length=2):∀(y x:Nat) (X:List (Nat×SV)) (N:Nat),x<2^S→y<2^S→y<N→ 
  (∃X',loopN (evC (evF E (n+1)) (n+1) Fn.y4b) N ⟨env ((4,.one (.box id 0))::(5,.one (zD x))::(6,.one (zD y))::X),ob,fz,nx⟩=
   some (.ext 0,⟨env ((4,.one (.box id 0))::(5,.one (zD (Nat.gcd x y)))::X'),ob,fz,nx⟩))∨
  (∃X',loopN (evC (evF E (n+1)) (n+1) Fn.y4b) N ⟨env ((4,.one (.box id 0))::(5,.one (zD x))::(6,.one (zD y))::X),ob,fz,nx⟩=
   some (.ret,⟨env ((4,.one (.box id 0))::X'),upd ob id (.box (zC (Nat.gcd x y:Nat))),fz,nx⟩)):=by
 intro y
 induction y using Nat.strongRecOn with
 | _ y ih=>
  intro x X N hx hy hN
  obtain ⟨M,rfl⟩:∃M,N=M+1:=⟨N-1,by omega⟩
  have hyl:=yhd y
  have hK:6*S+20000000000000000≤n:=Nat.le_trans (Nat.add_le_add_right (Nat.le_add_left _ _) _) hn
  have dx:=y10 hx
  have dy:=y10 hy
  by_cases hy0:y=0
  ·subst hy0
   left
   refine ⟨[(6,.one (zD 0)),(19,.one (.bool false))],y06 ?_⟩
   rw [Nat.gcd_zero_right]
   have e:(0≠0)=False:=by simp
   rw [e] at hyl
   unfold zD
   simp only [go_sem,Fn.y4b,hyl]
  ·have e:(y≠0)=True:=by simp [hy0]
   rw [e] at hyl
   have s1:=y01 (yj3 x false (by omega) (n:=n) (by omega)) (can1 (.agg _ fun v hv=>by
    simp only [List.mem_cons,List.not_mem_nil,or_false] at hv
    rcases hv with rfl | rfl
    ·exact .bool _
    ·exact .sl _)) ob fz
   have s2:=y01 (yj3 y false (by omega) (n:=n) (by omega)) (can1 (.agg _ fun v hv=>by
    simp only [List.mem_cons,List.not_mem_nil,or_false] at hv
    rcases hv with rfl | rfl
    ·exact .bool _
    ·exact .sl _)) ob fz
   by_cases hsm:dlen BT x≤4∧dlen BT y≤4
   ·right
    obtain ⟨h4,h5⟩:=hsm
    unfold smallR at s1 s2
    rw [if_pos h4] at s1
    rw [if_pos h5] at s2
    have hy5:=ylm h5
    have hlt5:x%y<y:=Nat.mod_lt _ (by omega)
    obtain ⟨X',hin⟩:=ysg (F:=evF E (n+1)) (fuel:=n+1) (fz:=fz) (ob:=ob) (nx:=nx) (.one (.box id 0)) (x%y) y [] n (by omega)
    have hge:Nat.gcd y (x%y)=Nat.gcd x y:=by rw [Nat.gcd_comm y (x%y),←Nat.gcd_rec,Nat.gcd_comm]
    rw [hge] at hin
    have h1:(((y:Nat):Int) !=0)=true:=by simp;omega
    have h0:(((y:Nat):Int)=0)=False:=by simp only [eq_iff_iff,iff_false];omega
    have hr:((x:Int)).tmod (y:Int)=((x%y:Nat):Int):=(Int.ofNat_tmod x y).symm
    have hst:evC (evF E (n+1)) (n+1) Fn.y58 ⟨env [(4,.one (.box id 0)),(5,.one (zD x)),(6,.one (zD y)),(7,.one (.int .i64 (x:Int))),(9,.one (.int .i64 (y:Int))),(35,.one (.bool true))],ob,fz,nx⟩=some (.nrm,⟨env [(4,.one (.box id 0)),(7,.one (.int .i64 (y:Int))),(9,.one (.int .i64 ((x%y:Nat):Int)))],ob,fz,nx⟩):=by
     simp only [go_sem,Fn.y58,h1,h0,hr]
    have hin:=(y07 (N:=n) hst).trans hin
    have hx4:=ylm h4
    have hg:Nat.gcd x y<10000000000000000:=Nat.lt_of_le_of_lt (Nat.gcd_le_right x (by omega)) hy5
    have hz:=y01 (y94 (Nat.gcd x y:Int) (by omega) (by omega) (n:=n) (by omega)) (can1 (y26 _ _)) ob fz
    obtain ⟨cs,hb1,hb2⟩:=hob
    refine ⟨[],y8h ?_⟩
    unfold sV at hz
    obtain ⟨c1,c2,rfl⟩:∃c1 c2,cs=[c1,c2]:=by
     rcases cs with _ | ⟨c1,_ | ⟨c2,_ | ⟨c3,r⟩⟩⟩
     ·simp at hb2
     ·simp at hb2
     ·exact ⟨c1,c2,rfl⟩
     ·simp at hb2
    unfold zC at hz ⊢
    unfold zD at s1 s2 hz hin ⊢
    simp only [go_sem,Fn.y4b,hyl,s1,s2,hin,hz,hb1]
   ·have hov:=y01 (yeg x y (by omega) (by omega) (by omega) (n:=n) (by omega)) (can2 (y3j _) (y3j _)) ob fz
    have hst:∃X1,evC (evF E (n+1)) (n+1) Fn.y4b ⟨env ((4,.one (.box id 0))::(5,.one (zD x))::(6,.one (zD y))::X),ob,fz,nx⟩=some (.nrm,⟨env ((4,.one (.box id 0))::(5,.one (zD y))::(6,.one (zD (x%y)))::X1),ob,fz,nx⟩):=by
     refine ⟨[], ?_⟩
     unfold smallR at s1 s2
     by_cases h4:dlen BT x≤4
     ·have h5:¬dlen BT y≤4:=fun h=>hsm ⟨h4,h⟩
      rw [if_pos h4] at s1
      rw [if_neg h5] at s2
      unfold zD at s1 s2 hov ⊢
      simp only [go_sem,Fn.y4b,hyl,s1,s2,hov]
     ·rw [if_neg h4] at s1
      by_cases h5:dlen BT y≤4
      ·rw [if_pos h5] at s2
       unfold zD at s1 s2 hov ⊢
       simp only [go_sem,Fn.y4b,hyl,s1,s2,hov]
      ·rw [if_neg h5] at s2
       unfold zD at s1 s2 hov ⊢
       simp only [go_sem,Fn.y4b,hyl,s1,s2,hov]
    obtain ⟨X1,hst⟩:=hst
    rw [y07 hst]
    have hlt:x%y<y:=Nat.mod_lt _ (by omega)
    have hge:Nat.gcd y (x%y)=Nat.gcd x y:=by rw [Nat.gcd_comm y (x%y),←Nat.gcd_rec,Nat.gcd_comm]
    rw [←hge]
    exact ih (x%y) hlt y X1 M hy (by omega) (by omega)
end
theorem yyf (a b:Int) {S:Nat} (ha:a.natAbs<2^S) (hb:b.natAbs<2^S) (hS:S<2^37) {n:Nat} (hn:KR S+1≤n):evV E (n+1) Id.y3h [sV a,sV b]=some (sV (Nat.gcd a.natAbs b.natAbs:Nat)):=by
 obtain ⟨n,rfl⟩:∃k,n=k+1:=⟨n-1,by omega⟩
 rw [y03 ygf]
 have hK:b.natAbs<n+1:=by unfold KR at hn;omega
 have h:=yv0 (n:=n) (id:=2) (S:=S) (fz:=fz0) (nx:=3) (ob:=upd (upd (upd ob0 0 (.box (zC a))) 1 (.box (zC b))) 2 (.box [.bool false,.nils])) hS (by omega) ⟨_,upd_same _ _ _,rfl⟩ b.natAbs a.natAbs [] (n+1) ha hb hK
 unfold sV zC at*
 rcases h with ⟨X',h⟩ | ⟨X',h⟩
 ·unfold zD at h ⊢
  have e0:decide (((Nat.gcd a.natAbs b.natAbs:Nat):Int)<0)=false:=by simp
  rw [Int.natAbs_natCast,e0]
  simp only [go_sem,Fn.y3h,h]
 ·unfold zD at h ⊢
  simp only [go_sem,Fn.y3h,h]
end Go.Ev
namespace Go.Ev
open Go.Dig
def aggS:Option ((Nat→Nat)×List AV)→Option ((Nat→Nat)×SV)
 | some p=>some (p.1,.agg p.2)
 | none=>none
theorem ylk (p:(Nat→Nat)×List AV):aggS (some p)=some (p.1,.agg p.2):=Eq.trans rfl rfl
theorem ylg (ob:Nat→Option AObj) (fz:Nat→Nat) (cs:List AV):frzS ob fz (.agg cs)=aggS (mapFz (frz ob DEPTH) fz cs):=by
 simp only [frzS]
 cases mapFz (frz ob DEPTH) fz cs<;>rfl
theorem ylq (ob:Nat→Option AObj) (fz:Nat→Nat) (b:Bool):frz ob DEPTH fz (.bool b)=some (fz,.bool b):=Eq.trans rfl rfl
theorem yxj (ob:Nat→Option AObj) (fz:Nat→Nat) (k:IntKind) (b:Int):frz ob DEPTH fz (.int k b)=some (fz,.int k b):=Eq.trans rfl rfl
theorem yyp (ob:Nat→Option AObj) (fz:Nat→Nat) (b:ByteArray):frz ob DEPTH fz (.str b)=some (fz,.str b):=Eq.trans rfl rfl
theorem y11h (ob:Nat→Option AObj) (fz:Nat→Nat) (f:Bool) (es:List (List AV)):frz ob DEPTH fz (.sl f es)=some (fz,.sl false es):=Eq.trans rfl rfl
theorem yl6 (ob:Nat→Option AObj) (fz:Nat→Nat):frz ob DEPTH fz .nils=some (fz,.sl false []):=Eq.trans rfl rfl
attribute [go_sem] ylk ylg ylq yxj yyp y11h yl6
theorem yqq (z:Int):sgn (!decide (z<0)) z.natAbs=-z:=by
 unfold sgn
 by_cases h:z<0
 ·rw [decide_eq_true h,Bool.not_true,if_neg (by simp)];omega
 ·rw [decide_eq_false h,Bool.not_false,if_pos rfl];omega
theorem yhp (z:Int) {n:Nat} (hn:1≤n):evV E (n+1) Id.y36 [sV z]=some (sV (-z)):=by
 rw [y03 ygg]
 have hs:=y7o (!decide (z<0)) z.natAbs (-z) (yqq z) hn
 unfold sV zC zD at hs ⊢
 simp only [go_sem,Fn.y36,hs]
theorem ywz (a b:Bool):(!(a==b))=(a !=b):=rfl
theorem y6h (a b:Int) (ha:dlen BT a.natAbs<2^40) (hb:dlen BT b.natAbs<2^40) {n:Nat} (hn:dlen BT a.natAbs+dlen BT b.natAbs+7≤n):evV E (n+1) Id.y18 [sV a,sV b]=some (sV (a*b)):=by
 rw [y03 yge]
 obtain ⟨n,rfl⟩:∃k,n=k+1:=⟨n-1,by omega⟩
 have ht:=y01 (yjf a.natAbs b.natAbs ha hb (n:=n) (by omega)) (can2 (y3j _) (y3j _))
 have hs:=y7o (decide (a<0) !=decide (b<0)) (a.natAbs*b.natAbs) (a*b) (yqp a b) (n:=n+1) (by omega)
 generalize a*b=c at hs ⊢
 generalize a.natAbs*b.natAbs=m at ht hs
 unfold sV zC zD at hs ⊢
 unfold zD at ht
 simp only [go_sem,Fn.y18,ht,yfm,ywz,hs]
def rC (q:Rat):List AV:=zC q.num++zC (q.den:Int)
def rV (q:Rat):SV:=.agg (rC q)
theorem y7l (q:Rat):CanS (rV q):=.agg _ fun x hx=>by
 simp only [rC,zC,List.mem_append,List.mem_cons,List.not_mem_nil,or_false] at hx
 rcases hx with (rfl | rfl) | (rfl | rfl)
 ·exact .bool _
 ·exact .sl _
 ·exact .bool _
 ·exact .sl _
theorem rC_eq (q:Rat):rC q=[.bool (decide (q.num<0)),zD q.num.natAbs,.bool (decide ((q.den:Int)<0)),zD q.den]:=by
 unfold rC zC
 rw [Int.natAbs_natCast]
 rfl
theorem yhm (q:Rat) (hd:dlen BT q.den<2^60) {n:Nat} (hn:1≤n):evV E (n+1) Id.y0d [rV q]=some (sV (q.den:Int)):=by
 rw [y03 ya9]
 have h0:((((digs BT q.den).length:Nat):Int)==0)=false:=by
  have:=y4p BT2 (Nat.pos_iff_ne_zero.1 q.den_pos)
  have:(digs BT q.den).length≠0:=fun e=>this (List.length_eq_zero_iff.1 e)
  simp only [beq_eq_false_iff_ne,ne_eq];omega
 unfold rV sV
 rw [rC_eq]
 unfold zC zD
 rw [Int.natAbs_natCast]
 simp only [go_sem,Fn.y0d,h0]
theorem yri {z w:Int} (hw:w≠0) (h:w<0):ofQ z w hw=Rat.normalize (-z) (-w).natAbs (by omega):=by
 unfold ofQ
 have e:(decide (z<0) !=decide (w<0))= !decide (z<0):=by rw [decide_eq_true h];cases decide (z<0)<;>rfl
 have e2:=yqq z
 congr 1
 ·rw [e,e2]
 ·omega
theorem yrh {z w:Int} (hw:w≠0) (h:¬w<0):ofQ z w hw=Rat.normalize z w.natAbs (by omega):=by
 unfold ofQ
 have e:(decide (z<0) !=decide (w<0))=decide (z<0):=by rw [decide_eq_false h];cases decide (z<0)<;>rfl
 congr 1
 rw [e,y7i z]
theorem ybb (S:Nat):6*S+20000000000000000≤KR S:=Nat.add_le_add_right (Nat.le_add_left _ _) _
theorem ybc (z w:Int) (hw:0<w) {S:Nat} (hz:z.natAbs<2^S) (hws:w.natAbs<2^S) (hS:S<2^37) {n:Nat} (hn:KR S+3≤n) (neg:Bool) (a b:Int) (hab:(neg=false∧a=z∧b=w)∨(neg=true∧-a=z∧-b=w)):evV E (n+1) Id.y1d [sV a,sV b]=some (rV (Rat.normalize z w.natAbs (by omega))):=by
 rw [y03 yh2]
 have hK:=ybb S
 obtain ⟨n,rfl⟩:∃k,n=k+1:=⟨n-1,by omega⟩
 have dz:=y10 hz
 have dw:=y10 hws
 have hgc:=y01 (yyf z w hz hws hS (n:=n) (by omega)) (can2 (y1y _) (y1y _))
 obtain ⟨e1,e2⟩:=ydj z w.natAbs (by omega)
 generalize Rat.normalize z w.natAbs _=q at e1 e2
 obtain ⟨g,hg⟩:∃g,g=z.natAbs.gcd w.natAbs:=⟨_,rfl⟩
 rw [←hg] at hgc e1 e2
 have hgp:0<g:=by rw [hg];exact Nat.gcd_pos_of_pos_right _ (by omega)
 have hgl:g≤w.natAbs:=by rw [hg];exact Nat.gcd_le_right _ (by omega)
 have dg:dlen BT g≤S:=Nat.le_trans (y5u BT2 hgl) dw
 have n1:=y01 (yhp a (n:=n) (by omega)) (can1 (y1y _))
 have n2:=y01 (yhp b (n:=n) (by omega)) (can1 (y1y _))
 have hb:decide (b<0)=neg:=by
  rcases hab with ⟨rfl,rfl,rfl⟩ | ⟨rfl,rfl,rfl⟩
  ·simp;omega
  ·simp;omega
 have hw0:decide (w<0)=false:=by simp;omega
 have hq0:decide ((q.den:Int)<0)=false:=by simp
 have hg0:decide ((g:Int)<0)=false:=by simp
 unfold rV
 rw [rC_eq,hq0]
 by_cases hg1:g=1
 ·subst hg1
  have hdig:digs BT 1=[1]:=by
   rw [y6n BT2 (by decide)]
   rw [show (1:Nat) / BT=0 from rfl,digs_zero]
   rfl
  rw [Nat.div_one] at e1 e2
  rw [y7i] at e1
  have e3:intE [1]=[[AV.int .i64 1]]:=rfl
  have e4:(((1:Nat):Int)==1)=true:=rfl
  have e5:((1:Int)==1)=true:=rfl
  have n0:natOf 0=some 0:=rfl
  rw [e1,e2]
  rcases hab with ⟨rfl,rfl,rfl⟩ | ⟨rfl,h1,h2⟩
  ·unfold sV zC at hgc ⊢
   rw [Int.natAbs_natCast,hg0,hw0] at hgc
   unfold zD at hgc ⊢
   rw [hdig,e3] at hgc
   simp only [go_sem,Fn.y1d,hb,hgc,e4,e5,n0]
  ·rw [h1] at n1
   rw [h2] at n2
   unfold sV zC at hgc n1 n2 ⊢
   rw [Int.natAbs_natCast,hg0,hw0] at hgc
   rw [hw0] at n2
   rw [hb] at n2
   unfold zD at hgc n1 n2 ⊢
   rw [hdig,e3] at hgc
   simp only [go_sem,Fn.y1d,hb,n1,n2,hgc,e4,e5,n0]
 ·have hz2:=y01 (yeg z.natAbs g hgp (by omega) (by omega) (n:=n) (by omega)) (can2 (y3j _) (y3j _))
  have hw2:=y01 (yeg w.natAbs g hgp (by omega) (by omega) (n:=n) (by omega)) (can2 (y3j _) (y3j _))
  have s1:=y7o (decide (z<0)) (z.natAbs / g) q.num e1.symm (n:=n+1) (by omega)
  have s2:=y7o false (w.natAbs / g) (q.den:Int) (by rw [e2];rfl) (n:=n+1) (by omega)
  generalize z.natAbs / g=zg at hz2 s1
  generalize w.natAbs / g=wg at hw2 s2
  generalize z.natAbs%g=zr at hz2
  generalize w.natAbs%g=wr at hw2
  have n0:natOf 0=some 0:=rfl
  unfold sV zC at s1 s2
  rw [Int.natAbs_natCast,hq0] at s2
  unfold zD at hz2 hw2 s1 s2
  by_cases hl:(digs BT g).length=1
  ·obtain ⟨x,hx⟩:=List.length_eq_one_iff.1 hl
   have hv:=y1k BT2 g
   rw [hx] at hv hz2 hw2
   have hxg:x=g:=by simpa [val] using hv
   have e3:intE [x]=[[AV.int .i64 (x:Int)]]:=rfl
   have e4:(((1:Nat):Int)==1)=true:=rfl
   have e5:(((x:Nat):Int)==1)=false:=by rw [hxg];simp only [beq_eq_false_iff_ne,ne_eq];omega
   rw [e3] at hz2 hw2
   rcases hab with ⟨rfl,rfl,rfl⟩ | ⟨rfl,h1,h2⟩
   ·unfold sV zC at hgc ⊢
    rw [Int.natAbs_natCast,hg0,hw0] at hgc
    unfold zD at hgc ⊢
    rw [hx,e3] at hgc
    simp only [go_sem,Fn.y1d,hb,hgc,e4,e5,n0,hz2,hw2,s1,s2]
   ·rw [h1] at n1
    rw [h2] at n2
    unfold sV zC at hgc n1 n2 ⊢
    rw [Int.natAbs_natCast,hg0,hw0] at hgc
    rw [hw0] at n2
    rw [hb] at n2
    unfold zD at hgc n1 n2 ⊢
    rw [hx,e3] at hgc
    simp only [go_sem,Fn.y1d,hb,n1,n2,hgc,e4,e5,n0,hz2,hw2,s1,s2]
  ·have e4:((((digs BT g).length:Nat):Int)==1)=false:=by simp only [beq_eq_false_iff_ne,ne_eq];omega
   rcases hab with ⟨rfl,rfl,rfl⟩ | ⟨rfl,h1,h2⟩
   ·unfold sV zC at hgc ⊢
    rw [Int.natAbs_natCast,hg0,hw0] at hgc
    unfold zD at hgc ⊢
    simp only [go_sem,Fn.y1d,hb,hgc,e4,n0,hz2,hw2,s1,s2]
   ·rw [h1] at n1
    rw [h2] at n2
    unfold sV zC at hgc n1 n2 ⊢
    rw [Int.natAbs_natCast,hg0,hw0] at hgc
    rw [hw0] at n2
    rw [hb] at n2
    unfold zD at hgc n1 n2 ⊢
    simp only [go_sem,Fn.y1d,hb,n1,n2,hgc,e4,n0,hz2,hw2,s1,s2]
theorem yn2 (z w:Int) (hw:w≠0) {S:Nat} (hz:z.natAbs<2^S) (hws:w.natAbs<2^S) (hS:S<2^37) {n:Nat} (hn:KR S+3≤n):evV E (n+1) Id.y1d [sV z,sV w]=some (rV (ofQ z w hw)):=by
 by_cases h:w<0
 ·rw [yri hw h]
  exact ybc (-z) (-w) (by omega) (by omega) (by omega) hS hn true z w (.inr ⟨rfl,rfl,rfl⟩)
 ·rw [yrh hw h]
  exact ybc z w (by omega) hz hws hS hn false z w (.inl ⟨rfl,rfl,rfl⟩)
theorem y10g (z d:Int) (hd:d≠0) (h1:-9223372036854775808≤z) (h2:z<9223372036854775808) (h3:-9223372036854775808≤d) (h4:d<9223372036854775808) {n:Nat} (hn:KR 64+4≤n):evV E (n+1) Id.y4f [.one (.int .i64 z),.one (.int .i64 d)]=some (rV (ofQ z d hd)):=by
 rw [y03 yik]
 have hK:=ybb 64
 have e:(2:Nat)^64=18446744073709551616:=rfl
 obtain ⟨n,rfl⟩:∃k,n=k+1:=⟨n-1,by omega⟩
 have z1:=y01 (y94 z h1 h2 (n:=n) (by omega)) (can1 (y26 _ _))
 have z2:=y01 (y94 d h3 h4 (n:=n) (by omega)) (can1 (y26 _ _))
 have hq:=y01 (yn2 z d hd (S:=64) (by rw [e];omega) (by rw [e];omega) (by decide) (n:=n) (by omega)) (can2 (y1y _) (y1y _))
 generalize ofQ z d hd=q at hq ⊢
 unfold rV at hq ⊢
 rw [rC_eq] at hq ⊢
 unfold sV zC zD at z1 z2 hq
 unfold zD
 simp only [go_sem,Fn.y4f,z1,z2,hq]
theorem ywj (a b:Rat) {S T:Nat} (ha:SmQ S a) (hb:SmQ T b) (hS:S+T<2^36) {n:Nat} (hn:KR (S+T)+4≤n):evV E (n+1) Id.y09 [rV a,rV b]=some (rV (a*b)):=by
 rw [y03 ybi,Rat.mul_def]
 have hK:=ybb (S+T)
 obtain ⟨n,rfl⟩:∃k,n=k+1:=⟨n-1,by omega⟩
 have da:=y10 ha.den
 have db:=y10 hb.den
 have na:=y10 ha.num
 have nb:=y10 hb.num
 have d1:=y01 (yhm a (by omega) (n:=n) (by omega)) (can1 (y7l _))
 have d2:=y01 (yhm b (by omega) (n:=n) (by omega)) (can1 (y7l _))
 have m1:=y01 (y6h a.num b.num (by omega) (by omega) (n:=n) (by omega)) (can2 (y1y _) (y1y _))
 have m2:=y01 (y6h (a.den:Int) (b.den:Int) (by rw [Int.natAbs_natCast];omega) (by rw [Int.natAbs_natCast];omega) (n:=n) (by rw [Int.natAbs_natCast,Int.natAbs_natCast];omega)) (can2 (y1y _) (y1y _))
 have h1:(a.num*b.num).natAbs<2^(S+T):=by rw [Int.natAbs_mul];exact y2j ha.num hb.num
 have h2:((a.den:Int)*(b.den:Int)).natAbs<2^(S+T):=by
  rw [Int.natAbs_mul,Int.natAbs_natCast,Int.natAbs_natCast];exact y2j ha.den hb.den
 have hp:(0:Int)<(a.den:Int)*(b.den:Int):=Int.mul_pos (by have:=a.den_pos;omega) (by have:=b.den_pos;omega)
 have hq:=y01 (ybc (a.num*b.num) ((a.den:Int)*(b.den:Int)) hp h1 h2 (by omega) (n:=n) (by omega) false _ _ (.inl ⟨rfl,rfl,rfl⟩)) (can2 (y1y _) (y1y _))
 have en:Rat.normalize (a.num*b.num) ((a.den:Int)*(b.den:Int)).natAbs (by omega)=Rat.normalize (a.num*b.num) (a.den*b.den) (Nat.mul_ne_zero a.den_nz b.den_nz):=by
  congr 1
 rw [en] at hq
 generalize Rat.normalize (a.num*b.num) (a.den*b.den) _=q at hq ⊢
 generalize a.num*b.num=p at m1 hq
 generalize (a.den:Int)*(b.den:Int)=r at m2 hq
 unfold rV at d1 d2 hq ⊢
 rw [rC_eq] at d1 d2 hq
 rw [rC_eq a,rC_eq b,rC_eq q]
 unfold sV zC at d1 d2 m1 m2 hq
 rw [Int.natAbs_natCast] at d1 d2
 rw [Int.natAbs_natCast,Int.natAbs_natCast] at m2
 unfold zD at d1 d2 m1 m2 hq ⊢
 simp only [go_sem,Fn.y09,d1,d2,m1,m2,hq]
end Go.Ev
namespace Go.Ev
open Go.Dig
def Ends (f:FuncId) (args:List SV) (r:SV):Prop:=∃N,∀n,N≤n→evV E n f args=some r
theorem Ends.of {f:FuncId} {args:List SV} {r:SV} (N:Nat) (h:∀{n},N≤n→evV E (n+1) f args=some r):Ends f args r:=
 ⟨N+1,fun n hn=>by obtain ⟨m,rfl⟩:∃m,n=m+1:=⟨n-1,by omega⟩;exact h (by omega)⟩
def Calling (f:FuncId) (args:List SV) (r:SV):Prop:=∃N,∀n,N≤n→∀(ob:Nat→Option AObj) (fz:Nat→Nat),callV (evF E n) f args ob fz=some (.fzd fz r)
theorem Ends.call {f:FuncId} {args:List SV} {r:SV} (h:Ends f args r) (hc:∀x∈args,CanS x):Calling f args r:=by
 obtain ⟨N,h⟩:=h
 exact ⟨N,fun n hn=>y01 (h n hn) hc⟩
structure Num where
 n:Int
 d:Int
 p:Nat
 n1:-9223372036854775808≤n
 n2:n<9223372036854775808
 d1:-9223372036854775808≤d
 d2:d<9223372036854775808
 p2:p<256
def Num.c (x:Num):List AV:=[.int .i64 x.n,.int .i64 x.d,.int .u8 (x.p:Int)]
def Num.den (x:Num):Int:=if x.d=0 then 1 else x.d
theorem Num.den0 (x:Num):x.den≠0:=by unfold Num.den;split<;>omega
theorem Num.denR (x:Num):-9223372036854775808≤x.den∧x.den<9223372036854775808:=by
 have h1:=x.d1
 have h2:=x.d2
 unfold Num.den;split<;>omega
def Num.base (x:Num):Rat:=ofQ x.n x.den x.den0
def Num.q (x:Num):Rat:=x.base^(x.p%4+1)
theorem Num.baseS (x:Num):SmQ 64 x.base:=SmQ.ofQ x.den0 x.n1 x.n2 x.denR.1 x.denR.2
theorem powS {a:Rat} (h:SmQ 64 a):∀k,SmQ (64*(k+1)) (a^(k+1))
 | 0=>by rw [Rat.pow_succ,Rat.pow_zero,Rat.one_mul];exact h
 | k+1=>by
  rw [Rat.pow_succ]
  exact SmQ.mono (SmQ.mul (powS h k) h) (by omega)
theorem Num.qS (x:Num):SmQ 256 x.q:=SmQ.mono (powS x.baseS (x.p%4)) (by omega)
theorem ym5 {n i1 i4 i6 i7 i8:Nat} {fz:Nat→Nat} {nx:Nat} (a:Rat) (ha:SmQ 64 a) (x2 x3:SV) (c1 c2:AV) (p:Nat) (h14:i7≠i1∧i7≠i4∧i7≠i6∧i8≠i1∧i8≠i4∧i8≠i6∧i8≠i7) (hn:KR 320≤n) (hn':K 320≤n):∀(m k:Nat),k+m=p%4→∀(ob:Nat→Option AObj) (X:List (Nat×SV)),ob i1=some (.box [c1,c2,.int .u8 (p:Int)])→ob i4=some (.box (qC a))→ob i6=some (.box (rC a))→ob i7=some (.box (qC (a^(k+1))))→ob i8=some (.box (rC (a^(k+1))))→∀N,m<N→
  ∃(ob':Nat→Option AObj) (X':List (Nat×SV)),loopN (evC (evF E (n+6)) (n+6) Fn.y6e) N ⟨env ((1,.one (.box i1 0))::(2,x2)::(3,x3)::(4,.one (.box i4 0))::(6,.one (.box i6 0))::(7,.one (.box i7 0))::(8,.one (.box i8 0))::(9,.one (.int .u8 (k:Int)))::X),ob,fz,nx⟩=
   some (.ext 0,⟨env ((1,.one (.box i1 0))::(2,x2)::(3,x3)::(4,.one (.box i4 0))::(6,.one (.box i6 0))::(7,.one (.box i7 0))::(8,.one (.box i8 0))::X'),ob',fz,nx⟩)∧ob' i7=some (.box (qC (a^(p%4+1))))∧ob' i8=some (.box (rC (a^(p%4+1))))∧∀i,i≠i7→i≠i8→ob' i=ob i
 | 0,k,hk,ob,X,o1,o4,o6,o7,o8,N+1,hN=>by
  have hk':k=p%4:=by omega
  subst hk'
  refine ⟨ob,[(9,.one (.int .u8 ((p%4:Nat):Int))),(33,.one (.bool false))],y06 ?_,o7,o8,fun _ _ _=>rfl⟩
  have t4:((4:Int)=0)=False:=by simp
  have hr:((p:Int)).tmod 4=((p%4:Nat):Int):=(Int.ofNat_tmod p 4).symm
  have hl:(((p%4:Nat):Int)<((p%4:Nat):Int))=False:=by simp
  simp only [go_sem,Fn.y6e,o1,t4,hr,hl]
 | m+1,k,hk,ob,X,o1,o4,o6,o7,o8,N+1,hN=>by
  have t4:((4:Int)=0)=False:=by simp
  have hr:((p:Int)).tmod 4=((p%4:Nat):Int):=(Int.ofNat_tmod p 4).symm
  have hl:(((k:Nat):Int)<((p%4:Nat):Int))=True:=by simp;omega
  have hw:IntKind.u8.wrap ((k+1:Nat):Int)=((k+1:Nat):Int):=by rw [IntKind.wrap_u8];omega
  have hs:SmQ 256 (a^(k+1)):=SmQ.mono (powS ha k) (by omega)
  have m1:=y01 (ykg (a^(k+1)) a hs ha (by decide) (n:=n+5) (by show K 320+_≤_;omega)) (can2 (y22 _) (y22 _)) ob fz
  have m2:=fun ob=>y01 (ywj (a^(k+1)) a hs ha (by decide) (n:=n+5) (by show KR 320+_≤_;omega)) (can2 (y7l _) (y7l _)) ob fz
  rw [←Rat.pow_succ] at m1 m2
  obtain ⟨g1,g2,g3,g4,g5,g6,g7⟩:=h14
  obtain ⟨ob',X',h1,h2,h3,h4⟩:=ym5 (fz:=fz) (nx:=nx) a ha x2 x3 c1 c2 p ⟨g1,g2,g3,g4,g5,g6,g7⟩ hn hn' m (k+1) (by omega) (upd (upd ob i7 (.box (qC (a^(k+1+1))))) i8 (.box (rC (a^(k+1+1))))) []
   (by rw [y00 g4.symm,y00 g1.symm];exact o1) (by rw [y00 g5.symm,y00 g2.symm];exact o4) (by rw [y00 g6.symm,y00 g3.symm];exact o6) (by rw [y00 g7.symm];exact upd_same _ _ _) (upd_same _ _ _) N (by omega)
  refine ⟨ob',X', ?_,h2,h3,fun i e7 e8=>by rw [h4 i e7 e8,y00 e8,y00 e7]⟩
  rw [←h1]
  refine y07 ?_
  have u6:∀y,upd ob i7 y i6=ob i6:=fun y=>y00 g3.symm
  have u8:∀y,upd ob i7 y i8=ob i8:=fun y=>y00 g7
  generalize a^(k+1)=b at*
  generalize a^(k+1+1)=c at*
  unfold qV at m1
  unfold rV at m2
  rw [rC_eq] at o6 o8
  rw [rC_eq b,rC_eq a,rC_eq c] at m2
  rw [rC_eq c]
  unfold qC natV at m1 o4 o7 ⊢
  unfold zD at m2 o6 o8 ⊢
  simp only [go_sem,Fn.y6e,o1,t4,hr,hl,o4,o6,o7,o8,u6,u8,m1,m2,add1,hw]
theorem nbeq (a b:Nat):Nat.beq a b=(a==b):=by
 rw [Bool.eq_iff_iff,Nat.beq_eq,beq_iff_eq]
attribute [go_sem] List.all_cons List.all_nil nbeq Nat.reduceBEq
theorem rV_eq (q:Rat):rV q=.agg [.bool (decide (q.num<0)),zD q.num.natAbs,.bool (decide ((q.den:Int)<0)),zD q.den]:=by unfold rV;rw [rC_eq]
def bothT:ACode:=match Fn.y0l.code with | .seq _ (.seq _ (.seq _ (.seq _ (.seq _ (.seq _ t)))))=>t | _=>.skip
theorem yy7 (x:Num) {n:Nat} (hn:K 320+KR 320+20≤n):evV E (n+1) Id.y0l [.agg x.c]=some (.tup [qV x.q,rV x.q]):=by
 rw [y03 ygc]
 have hK:K 64≤K 320:=y11x (by decide)
 have hR:KR 64≤KR 320:=by unfold KR;have:=Nat.pow_le_pow_right (show 0<2 by decide) (show 64≤320 by decide);omega
 obtain ⟨n,rfl⟩:∃k,n=k+6:=⟨n-6,by omega⟩
 have h1:=y01 (y13a x.n x.den x.den0 x.n1 x.n2 x.denR.1 x.denR.2 (n:=n+5) (by omega)) (can2 (y26 _ _) (y26 _ _))
 have h2:=y01 (y10g x.n x.den x.den0 x.n1 x.n2 x.denR.1 x.denR.2 (n:=n+5) (by omega)) (can2 (y26 _ _) (y26 _ _))
 have hb:=x.baseS
 rw [show ofQ x.n x.den x.den0=x.base from rfl] at h1 h2
 have hq:x.q=x.base^(x.p%4+1):=rfl
 have hc:x.c=[.int .i64 x.n,.int .i64 x.d,.int .u8 (x.p:Int)]:=rfl
 have hden:x.den=if x.d=0 then 1 else x.d:=rfl
 rw [hq,hc]
 generalize x.den=den at*
 generalize x.base=a at*
 have hlo:=fun i1 i4 i6 i7 i8 nx c1 c2 x2 x3 hne ob=>ym5 (n:=n) (i1:=i1) (i4:=i4) (i6:=i6) (i7:=i7) (i8:=i8) (fz:=fz0) (nx:=nx) a hb x2 x3 c1 c2 x.p hne (by omega) (by omega) (x.p%4) 0 (by omega) ob []
 have ga:a^(0+1)=a:=by rw [Rat.pow_succ,Rat.pow_zero,Rat.one_mul]
 generalize a^(x.p%4+1)=b at*
 have key:∀(c1 c2:AV) (ob:Nat→Option AObj),ob 0=some (.box [c1,c2,.int .u8 (x.p:Int)])→ob 1=some (.box [.bool false,.nils,.nils])→ob 2=some (.box [.bool false,.nils,.bool false,.nils])→ob 11=some (.box (qC a))→ob 19=some (.box (rC a))→ob 23=some (.box (qC a))→ob 24=some (.box (rC a))→
   finV Fn.y0l.res (thenC (evF E (n+6)) (n+6) bothT (blkC 0 (loopN (evC (evF E (n+6)) (n+6) Fn.y6e) (n+6) ⟨env [(1,.one (.box 0 0)),(2,.one (.box 1 0)),(3,.one (.box 2 0)),(4,.one (.box 11 0)),(6,.one (.box 19 0)),(7,.one (.box 23 0)),(8,.one (.box 24 0)),(9,.one (.int .u8 0))],ob,fz0,27⟩)))=some (.tup [qV b,rV b]):=by
  intro c1 c2 ob o0 o1 o2 o11 o19 o23 o24
  obtain ⟨ob',X',hl,p7,p8,pr⟩:=hlo 0 11 19 23 24 27 c1 c2 (.one (.box 1 0)) (.one (.box 2 0)) (by decide) ob o0 o11 o19 (by rw [ga];exact o23) (by rw [ga];exact o24) (n+6) (by omega)
  rw [show ((0:Nat):Int)=0 from rfl] at hl
  have q1:ob' 1=_:=(pr 1 (by decide) (by decide)).trans o1
  have q2:ob' 2=_:=(pr 2 (by decide) (by decide)).trans o2
  have u2:∀y,upd ob' 1 y 2=ob' 2:=fun y=>y00 (by decide)
  rw [rC_eq] at p8
  rw [rV_eq]
  unfold qC natV at p7
  unfold zD at p8
  unfold qV qC natV zD
  unfold bothT Fn.y0l
  simp only [go_sem,hl,p7,p8,q1,q2,u2]
 rw [rV_eq] at h2
 unfold qV qC natV at h1
 unfold zD at h2
 by_cases hd:x.d=0
 ·rw [if_pos hd] at hden
  have e0:(x.d==0)=true:=by simp [hd]
  rw [hden] at h1 h2
  unfold Fn.y0l
  simp only [go_sem,e0,h1,h2]
  exact key _ _ _ rfl rfl rfl rfl rfl rfl rfl
 ·rw [if_neg hd] at hden
  have e0:(x.d==0)=false:=by simp [hd]
  rw [hden] at h1 h2
  unfold Fn.y0l
  simp only [go_sem,e0,h1,h2]
  exact key _ _ _ rfl rfl rfl rfl rfl rfl rfl
end Go.Ev
namespace Go.Ev
open Go.RowKit
open Go.Proofs
def numD:TD:=.struct [.int .i64,.int .i64,.int .u8]
def jointD:TD:=.struct [numD,numD,numD,numD,numD,numD,.int .i64]
def lostD:TD:=.struct [.int .i64,.int .i64]
theorem yij {z:Int} (h:(Lit.int .i64 z).wf=true):-9223372036854775808≤z∧z<9223372036854775808:=by
 simp only [Lit.wf,Bool.and_eq_true,decide_eq_true_eq] at h
 have e1:IntKind.i64.min=-9223372036854775808:=by decide
 have e2:IntKind.i64.max=9223372036854775807:=by decide
 rw [e1,e2] at h
 omega
theorem wf_u8 {z:Int} (h:(Lit.int .u8 z).wf=true):∃n:Nat,z=(n:Int)∧n<256:=by
 simp only [Lit.wf,Bool.and_eq_true,decide_eq_true_eq] at h
 have e1:IntKind.u8.min=0:=by decide
 have e2:IntKind.u8.max=255:=by decide
 rw [e1,e2] at h
 exact ⟨z.toNat,by omega,by omega⟩
structure Jt where
 low:Num
 high:Num
 most:Num
 step:Num
 place:Num
 speed:Num
 d:Int
 d1:-9223372036854775808≤d
 d2:d<9223372036854775808
def Jt.c (j:Jt):List AV:=j.low.c++(j.high.c++(j.most.c++(j.step.c++(j.place.c++(j.speed.c++[.int .i64 j.d])))))
section
variable {H:Type} {d:DataW H} {xs:List AV}
theorem y9o (h:IsD numD d xs):∃x:Num,xs=x.c:=by
 unfold numD at h
 simp only [IsD,IsDs] at h
 obtain ⟨ds,-,d1,r1,y1,z1,-,rfl,⟨a,ha,-,rfl⟩,d2,r2,y2,z2,-,rfl,⟨b,hb,-,rfl⟩,d3,r3,y3,z3,-,rfl,⟨c,hc,-,rfl⟩,-,rfl⟩:=h
 have h1:=yij ha
 have h2:=yij hb
 obtain ⟨p,rfl,hp⟩:=wf_u8 hc
 exact ⟨⟨a,b,p,h1.1,h1.2,h2.1,h2.2,hp⟩,rfl⟩
theorem yc4 {x:DataW H} {ds:List (DataW H)} {B:Nat} (hb:YtclakmennjjomaaGreat.Rows.uptoBulkAll (x::ds)≤B):YtclakmennjjomaaGreat.Rows.uptoBulk x≤B∧YtclakmennjjomaaGreat.Rows.uptoBulkAll ds≤B:=by
 simp only [YtclakmennjjomaaGreat.Rows.uptoBulkAll] at hb;omega
theorem yfc (h:IsD (.int .i64) d xs):∃z:Int,xs=[.int .i64 z]∧-9223372036854775808≤z∧z<9223372036854775808:=by
 simp only [IsD] at h
 obtain ⟨z,hz,-,rfl⟩:=h
 exact ⟨z,rfl,(yij hz).1,(yij hz).2⟩
theorem yu3 (h:IsD jointD d xs):∃j:Jt,xs=j.c:=by
 unfold jointD at h
 rw [IsD] at h
 simp only [IsDs] at h
 obtain ⟨ds,-,d1,r1,y1,z1,-,rfl,h1,d2,r2,y2,z2,-,rfl,h2,d3,r3,y3,z3,-,rfl,h3,d4,r4,y4,z4,-,rfl,h4,d5,r5,y5,z5,-,rfl,h5,d6,r6,y6,z6,-,rfl,h6,d7,r7,y7,z7,-,rfl,h7,-,rfl⟩:=h
 obtain ⟨x1,rfl⟩:=y9o h1
 obtain ⟨x2,rfl⟩:=y9o h2
 obtain ⟨x3,rfl⟩:=y9o h3
 obtain ⟨x4,rfl⟩:=y9o h4
 obtain ⟨x5,rfl⟩:=y9o h5
 obtain ⟨x6,rfl⟩:=y9o h6
 obtain ⟨z,rfl,e1,e2⟩:=yfc h7
 exact ⟨⟨x1,x2,x3,x4,x5,x6,z,e1,e2⟩,rfl⟩
theorem yx3 (h:IsD lostD d xs):∃a b:Int,xs=[.int .i64 a,.int .i64 b]∧-9223372036854775808≤a∧a<9223372036854775808∧-9223372036854775808≤b∧b<9223372036854775808:=by
 unfold lostD at h
 rw [IsD] at h
 simp only [IsDs] at h
 obtain ⟨ds,-,d1,r1,y1,z1,-,rfl,h1,d2,r2,y2,z2,-,rfl,h2,-,rfl⟩:=h
 obtain ⟨z,rfl,e1,e2⟩:=yfc h1
 obtain ⟨y,rfl,f1,f2⟩:=yfc h2
 exact ⟨z,y,rfl,e1,e2,f1,f2⟩
theorem yz9 {B:Nat} (h:IsD (.slice numD) d xs) (hb:YtclakmennjjomaaGreat.Rows.uptoBulk d≤B):∃l:List Num,xs=[.sl false (l.map Num.c)]∧l.length<B:=by
 obtain ⟨l,rfl,hl,-⟩:=yvb (c:=Num.c) (Q:=fun _=>True) (fun d xs h _=>by obtain ⟨x,hx⟩:=y9o h;exact ⟨x,hx,trivial⟩) h hb
 exact ⟨l,rfl,hl⟩
end
end Go.Ev
namespace Go.Ev
open Go.Dig
theorem yve (z:Int) (d:Nat) (hd:0<d):sgn (decide (z<0)) (if z<0∧z.natAbs%d≠0 then z.natAbs / d+1 else z.natAbs / d)=z / (d:Int):=by
 have hd':(0:Int)<d:=by omega
 unfold sgn
 by_cases h:z<0
 ·simp only [h,decide_true,if_true,true_and]
  have hm:=Nat.div_add_mod z.natAbs d
  have hlt:=Nat.mod_lt z.natAbs hd
  generalize z.natAbs / d=q at hm ⊢
  generalize hr:z.natAbs%d=r at hm hlt ⊢
  have hz:z=-((d*q+r:Nat):Int):=by omega
  rw [hz]
  by_cases h0:r=0
  ·subst h0
   simp only [ne_eq,not_true_eq_false,if_false,Nat.add_zero]
   have:-((d*q:Nat):Int)=(d:Int)*(-(q:Int)):=by push_cast;rw [Int.mul_neg]
   rw [this,Int.mul_ediv_cancel_left _ (by omega)]
  ·simp only [ne_eq,h0,not_false_eq_true,if_true]
   have e:-((d*q+r:Nat):Int)=((d:Int)-r)+(d:Int)*(-((q+1:Nat):Int)):=by push_cast;rw [Int.mul_neg,Int.mul_add];omega
   rw [e,Int.add_mul_ediv_left _ _ (by omega),Int.ediv_eq_zero_of_lt (by omega) (by omega)]
   omega
 ·simp only [h,decide_false,Bool.false_eq_true,if_false,false_and]
  have hz:z=(z.natAbs:Int):=by omega
  conv=>rhs;rw [hz]
  exact Int.natCast_ediv _ _ |>.symm ▸ rfl
theorem ys5 (z:Int) (d:Nat) (hd:0<d) {S:Nat} (hz:z.natAbs<2^S) (hS:S<2^38) {n:Nat} (hn:2*S+40≤n):evV E (n+1) Id.y2g [wV z,.one (natV d)]=some (wV (z / (d:Int))):=by
 rw [y03 ye9]
 have hds:dlen B32 z.natAbs≤S:=y4w hz
 have hqs:dlen B32 (z.natAbs / d)≤S:=y4w (Nat.lt_of_le_of_lt (Nat.div_le_self _ _) hz)
 have h1s:dlen B32 1≤1:=y4w (by decide)
 obtain ⟨m,rfl⟩:∃m,n=m+1:=⟨n-1,by omega⟩
 have hdiv:=y01 (yfb z.natAbs d hd (by omega) (n:=m) (by omega)) (can2 (y0e _) (y0e _))
 have hadd:=y01 (ykk (z.natAbs / d) 1 (by omega) (by omega) (n:=m) (by omega)) (can2 (y0e _) (y0e _))
 have hone:=yhk (n:=m+1) (by omega)
 have hw:=y86 _ _ _ (yve z d hd) (n:=m+1) (by omega)
 generalize z / (d:Int)=w at hw ⊢
 have hl:=yff (z.natAbs%d)
 generalize z.natAbs%d=r at hdiv hw hl
 generalize z.natAbs / d=q at hdiv hadd hw
 by_cases h:z<0
 ·by_cases h0:r=0
  ·subst h0
   simp only [h,ne_eq,not_true_eq_false,and_false,if_false,decide_true] at hw hl
   unfold wV wC natV at hw ⊢
   unfold natV at hdiv
   simp only [go_sem,Fn.y2g,hdiv,hw,h,hl,y5a,decide_true,decide_false,Nat.zero_lt_succ,Nat.reduceLT]
  ·simp only [h,ne_eq,h0,not_false_eq_true,and_true,if_true,decide_true] at hw hl
   unfold wV wC natV at hw ⊢
   unfold natV at hdiv hadd hone
   simp only [go_sem,Fn.y2g,hdiv,hadd,hone,hw,h,hl,y5a,decide_true,decide_false,Nat.zero_lt_succ,Nat.reduceLT]
 ·simp only [h,false_and,if_false,decide_false] at hw
  unfold wV wC natV at hw ⊢
  unfold natV at hdiv
  simp only [go_sem,Fn.y2g,hdiv,hw,h,decide_true,decide_false,Nat.zero_lt_succ,Nat.reduceLT]
def floorQ (q:Rat):Int:=q.num / (q.den:Int)
theorem ywd (a:Rat) {S:Nat} (ha:SmQ S a) (hS:S<2^36) {n:Nat} (hn:2*S+50≤n):evV E (n+1) Id.y3p [qV a]=some (qV (Rat.ofInt (floorQ a))):=by
 rw [y03 yim]
 obtain ⟨m,rfl⟩:∃m,n=m+1:=⟨n-1,by omega⟩
 have hd:=y7n a ha.den (by omega) (n:=m+1) (by omega)
 have hf:=y01 (ys5 a.num a.den a.den_pos ha.num (by omega) (n:=m) (by omega)) (can2 (y8u _) (y0e _))
 have ho:=y01 (yus (floorQ a) m) (can1 (y8u _))
 unfold floorQ at ho ⊢
 generalize a.num / (a.den:Int)=w at hf ho ⊢
 rw [yit] at ho ⊢
 unfold qV qC natV at hd
 unfold wV wC natV at hf ho
 unfold qV qC natV
 simp only [go_sem,Fn.y3p,hd,hf,ho,Nat.zero_lt_succ,Nat.reduceLT]
end Go.Ev
namespace Go.Ev
theorem yj4 (q:Rat):(qC q).length=3:=rfl
theorem y11p (a b:Rat):(qC a++qC b).length=6:=rfl
theorem y11a (a b c d:Rat):(qC a++(qC b++(qC c++qC d))).length=12:=rfl
theorem y120 (a:Rat):sub (qC a) 0 3=some (qC a):=rfl
theorem y135 (a:Rat) (l:List AV):sub (qC a++l) 0 3=some (qC a):=by
 unfold sub qC
 have:Nat.ble 3 (l.length+1+1+1)=true:=Nat.ble_eq_true_of_le (by omega)
 simp [this]
theorem y12t (a:Rat) (l:List AV) (n:Nat):sub (qC a++l) 3 n=sub l 0 n:=by
 unfold sub qC
 have:Nat.ble (3+n) (l.length+1+1+1)=Nat.ble (0+n) l.length:=by
  rw [Nat.zero_add,show 3+n=n+1+1+1 by omega];rfl
 simp only [List.cons_append,List.nil_append,List.length_cons,this,List.drop_succ_cons,List.drop_zero]
theorem ytt (a:Rat) (l:List AV) (k n:Nat):sub (qC a++l) (k+3) n=sub l k n:=by
 unfold sub qC
 have:Nat.ble (k+3+n) (l.length+1+1+1)=Nat.ble (k+n) l.length:=by
  rw [show k+3+n=(k+n)+1+1+1 by omega];rfl
 simp only [List.cons_append,List.nil_append,List.length_cons,this,List.drop_succ_cons]
theorem y12g (a:Rat) (l:List AV) (n:Nat):sub (qC a++l) 6 n=sub l 3 n:=ytt a l 3 n
theorem y13o (a:Rat) (l:List AV) (n:Nat):sub (qC a++l) 9 n=sub l 6 n:=ytt a l 6 n
theorem yzl (a b c d:Rat):sub (qC a++(qC b++(qC c++qC d))) 0 12=some (qC a++(qC b++(qC c++qC d))):=rfl
theorem put_z (x y z:AV) (l:List AV) (q:Rat):put (x::y::z::l) 0 (qC q)=some (qC q++l):=by
 unfold put qC
 have:Nat.ble 3 (l.length+1+1+1)=true:=Nat.ble_eq_true_of_le (by omega)
 simp [this]
theorem y12d (x y z:AV) (q:Rat):put [x,y,z] 0 (qC q)=some (qC q):=rfl
theorem y12f (p q:Rat):put (qC p) 0 (qC q)=some (qC q):=rfl
theorem ynz (p:Rat) (l:List AV) (k:Nat) (xs:List AV):put (qC p++l) (k+3) xs=(put l k xs).map (qC p++·):=by
 unfold put qC
 have:Nat.ble (k+3+xs.length) (l.length+1+1+1)=Nat.ble (k+xs.length) l.length:=by
  rw [show k+3+xs.length=(k+xs.length)+1+1+1 by omega];rfl
 simp only [List.cons_append,List.nil_append,List.length_cons,this,List.take_succ_cons]
 cases Nat.ble (k+xs.length) l.length with
 | true=>
  have e:k+3+xs.length=k+xs.length+1+1+1:=by omega
  simp only [e,List.drop_succ_cons,cond_true,Option.map_some,List.cons_append]
 | false=>rfl
theorem y11z (p:Rat) (l xs:List AV):put (qC p++l) 3 xs=(put l 0 xs).map (qC p++·):=ynz p l 0 xs
theorem y12x (p:Rat) (l xs:List AV):put (qC p++l) 6 xs=(put l 3 xs).map (qC p++·):=ynz p l 3 xs
theorem y124 (p:Rat) (l xs:List AV):put (qC p++l) 9 xs=(put l 6 xs).map (qC p++·):=ynz p l 6 xs
theorem y13w (z1 z2 z3 z4 z5 z6 z7 z8 z9 z10 z11 z12:AV) (a b c d:Rat):put [z1,z2,z3,z4,z5,z6,z7,z8,z9,z10,z11,z12] 0 (qC a++(qC b++(qC c++qC d)))=some (qC a++(qC b++(qC c++qC d))):=rfl
theorem y8r (a b c d:Rat):CanS (.agg (qC a++(qC b++(qC c++qC d)))):=.agg _ fun x hx=>by
 have h:∀q:Rat,x∈qC q→Canon x:=fun q hx=>by
  unfold qC at hx
  simp only [List.mem_cons,List.not_mem_nil,or_false] at hx
  rcases hx with rfl | rfl | rfl
  ·exact .bool _
  ·exact .sl _
  ·exact .sl _
 simp only [List.mem_append] at hx
 rcases hx with hx | hx | hx | hx<;>exact h _ hx
theorem ycn (a:Rat) (ob:Nat→Option AObj) (fz:Nat→Nat):frzS ob fz (.agg (qC a))=some (fz,.agg (qC a)):=(y22 a).frz ob fz
theorem yx9 (a b c d:Rat) (ob:Nat→Option AObj) (fz:Nat→Nat):frzS ob fz (.agg (qC a++(qC b++(qC c++qC d))))=some (fz,.agg (qC a++(qC b++(qC c++qC d)))):=(y8r a b c d).frz ob fz
attribute [go_sem ↓] yj4 y11p y11a y120 y135 y12t y12g y13o yzl put_z y12d y12f y11z y12x y124 y13w ycn yx9
attribute [go_sem] List.append_nil Option.map_some
end Go.Ev
namespace Go.Ev
section
variable {F:Caller} {rb i fuel:Nat} {r:List AOper} {L:List (Nat×SV)} {ob:Nat→Option AObj} {fz:Nat→Nat} {nx:Nat}
theorem y13h (ops:List AOper) (pm:List (Nat×List (Nat×Opd))) (na:Nat) (ks:List Nat):evC F fuel (.regp ops pm na ks) ⟨env L,ob,fz,nx⟩=regC ks (evP F nx ops pm ⟨env L,ob,fz,nx+na⟩):=by
 simp only [evC]
 cases evP F nx ops pm ⟨env L,ob,fz,nx+na⟩<;>rfl
def onP (F:Caller) (rb:Nat) (aos:List AOper) (r:List (Nat×List (Nat×Opd))) (st:St) (ks:List (Nat×Opd)):Option St→Option St
 | some st'=>bif keepOk st st' ks then evP F rb aos r st' else none
 | none=>none
def pickP (F:Caller) (rb j:Nat) (aos:List AOper) (r:List (Nat×List (Nat×Opd))) (st:St) (ks:List (Nat×Opd)):Option AOper→Option St
 | some o=>onP F rb aos r st ks (evOps F true rb j [o] st)
 | none=>none
theorem p_nil (aos:List AOper) (st:St):evP F rb aos [] st=some st:=Eq.trans rfl rfl
theorem y137 (aos:List AOper) (j:Nat) (ks:List (Nat×Opd)) (r:List (Nat×List (Nat×Opd))) (st:St):evP F rb aos ((j,ks)::r) st=pickP F rb j aos r st ks aos[j]? :=by
 rw [evP]
 cases aos[j]? with
 | none=>rfl
 | some o=>
  simp only [pickP,evOps]
  cases evO F true rb j o st<;>rfl
theorem yu1 (j:Nat) (aos:List AOper) (r:List (Nat×List (Nat×Opd))) (st:St) (ks:List (Nat×Opd)) (o:AOper):pickP F rb j aos r st ks (some o)=onP F rb aos r st ks (evOps F true rb j [o] st):=Eq.trans rfl rfl
theorem y103 (aos:List AOper) (r:List (Nat×List (Nat×Opd))) (st st':St) (ks:List (Nat×Opd)):onP F rb aos r st ks (some st')=bif keepOk st st' ks then evP F rb aos r st' else none:=Eq.trans rfl rfl
theorem yxz (st st':St):keepOk st st' []=true:=Eq.trans rfl rfl
def sameL:Option (List AV)→Option (List AV)→Bool
 | some x,some y=>same2 (sameA DEPTH) x y
 | _,_=>false
theorem yw0 (L':List (Nat×SV)) (ob':Nat→Option AObj) (fz':Nat→Nat) (nx' n:Nat) (a:Opd) (r:List (Nat×Opd)):keepOk ⟨env L,ob,fz,nx⟩ ⟨env L',ob',fz',nx'⟩ ((n,a)::r)=(sameL (loadAt ob n (a.ev (env L))) (loadAt ob' n (a.ev (env L)))&&keepOk ⟨env L,ob,fz,nx⟩ ⟨env L',ob',fz',nx'⟩ r):=by
 rw [keepOk]
 cases loadAt ob n (a.ev (env L)) with
 | none=>rfl
 | some x=>cases loadAt ob' n (a.ev (env L))<;>rfl
theorem yry (x y:List AV):sameL (some x) (some y)=same2 (sameA DEPTH) x y:=Eq.trans rfl rfl
end
theorem y81 {α:Type} {f:α→α→Bool}:∀(l:List α),(∀x∈l,f x x=true)→same2 f l l=true
 | [],_=>rfl
 | x::r,h=>by rw [same2,h x (by simp),y81 r (fun y hy=>h y (by simp [hy]))];rfl
theorem yl5 (d:Nat) (k:IntKind) (n:Int):sameA (d+1) (.int k n) (.int k n)=true:=by simp [sameA]
theorem ydr (d:Nat) (b:Bool):sameA (d+1) (.bool b) (.bool b)=true:=by simp [sameA]
theorem yiu (d n:Nat):sameA (d+2) (.sl false (natE (Go.Dig.digs B32 n))) (.sl false (natE (Go.Dig.digs B32 n)))=true:=by
 rw [sameA,Bool.and_eq_true]
 refine ⟨rfl,y81 _ fun e he=>y81 _ fun x hx=> ?_⟩
 unfold natE at he
 obtain ⟨z,-,rfl⟩:=List.mem_map.1 he
 simp only [List.mem_singleton] at hx
 subst hx
 exact yl5 _ _ _
theorem y116 (q:Rat):same2 (sameA DEPTH) (qC q) (qC q)=true:=by
 refine y81 _ fun x hx=> ?_
 unfold qC natV at hx
 simp only [List.mem_cons,List.not_mem_nil,or_false] at hx
 rcases hx with rfl | rfl | rfl
 ·exact ydr _ _
 ·exact yiu _ _
 ·exact yiu _ _
attribute [go_sem] y13h p_nil y137 yu1 y103 yxz yw0 yry y116
def cutAt:Nat→ACode→ACode→ACode
 | 0,_,t=>t
 | n+1,.seq a b,t=>.seq a (cutAt n b t)
 | _+1,c,_=>c
def tailAt:Nat→ACode→ACode
 | 0,c=>c
 | n+1,.seq _ b=>tailAt n b
 | _+1,_=>.skip
def LQ (q:Rat) (c:List AV):Prop:=c=qC q∨q=0∧c=[.bool false,.nils,.nils]
theorem LQ.of (q:Rat):LQ q (qC q):=.inl rfl
theorem LQ.sub {q:Rat} {c:List AV} (h:LQ q c):Ev.sub c 0 3=some c:=by
 rcases h with rfl | ⟨-,rfl⟩<;>rfl
theorem LQ.put {q:Rat} {c:List AV} (h:LQ q c) (x:Rat):Ev.put c 0 (qC x)=some (qC x):=by
 rcases h with rfl | ⟨-,rfl⟩<;>rfl
theorem LQ.len {q:Rat} {c:List AV} (h:LQ q c):c.length=3:=by
 rcases h with rfl | ⟨-,rfl⟩<;>rfl
end Go.Ev
namespace Go.Ev
theorem y11e (q:Rat):∃a b c d,rC q=[a,b,c,d]:=⟨_,_,_,_,rC_eq q⟩
theorem y5j (q:Rat):(rC q).length=4:=by obtain ⟨a,b,c,d,e⟩:=y11e q;rw [e];rfl
theorem y75 {X l:List AV} {K:Nat} (h:X.length=K):sub (X++l) 0 K=some X:=by
 subst h
 unfold sub
 have:Nat.ble (0+X.length) (X++l).length=true:=by simp
 rw [this,cond_true,List.drop_zero,List.take_left' rfl]
theorem y8g {X l:List AV} {K:Nat} (h:X.length=K) (k n:Nat):sub (X++l) (k+K) n=sub l k n:=by
 subst h
 unfold sub
 have:Nat.ble (k+X.length+n) (X++l).length=Nat.ble (k+n) l.length:=by
  rw [Bool.eq_iff_iff];simp;omega
 rw [this,show k+X.length=X.length+k by omega,List.drop_append,List.drop_of_length_le (by omega),List.nil_append,Nat.add_sub_cancel_left]
theorem yb6 {X l:List AV} {K:Nat} (h:X.length=K) (k:Nat) (xs:List AV):put (X++l) (k+K) xs=(put l k xs).map (X++·):=by
 subst h
 unfold put
 have:Nat.ble (k+X.length+xs.length) (X++l).length=Nat.ble (k+xs.length) l.length:=by
  rw [Bool.eq_iff_iff];simp;omega
 rw [this]
 cases Nat.ble (k+xs.length) l.length with
 | true=>
  rw [cond_true,cond_true,Option.map_some]
  have e1:(X++l).take (k+X.length)=X++l.take k:=by rw [show k+X.length=X.length+k by omega,List.take_append,List.take_of_length_le (by omega),Nat.add_sub_cancel_left]
  have e2:(X++l).drop (k+X.length+xs.length)=l.drop (k+xs.length):=by rw [show k+X.length+xs.length=X.length+(k+xs.length) by omega,List.drop_append,List.drop_of_length_le (by omega),List.nil_append,Nat.add_sub_cancel_left]
  rw [e1,e2];simp
 | false=>rfl
theorem y73 {X xs:List AV} (h:X.length=xs.length):put X 0 xs=some xs:=by
 unfold put
 have:Nat.ble (0+xs.length) X.length=true:=by simp [h]
 rw [this,cond_true,List.take_zero,List.nil_append,List.drop_of_length_le (by omega),List.append_nil]
theorem yo1 {X l xs:List AV} (h:X.length=xs.length):put (X++l) 0 xs=some (xs++l):=by
 unfold put
 have:Nat.ble (0+xs.length) (X++l).length=true:=by simp [h]
 rw [this,cond_true,List.take_zero,List.nil_append]
 have:(X++l).drop (0+xs.length)=l:=by rw [Nat.zero_add,←h];simp
 rw [this]
theorem yuw (a:Rat):sub (rC a) 0 4=some (rC a):=by have:=y75 (l:=[]) (y5j a);rwa [List.append_nil] at this
theorem ytn (a:Rat) (l:List AV):sub (rC a++l) 0 4=some (rC a):=y75 (y5j a)
theorem ywe (a:Rat) (l:List AV) (n:Nat):sub (rC a++l) 4 n=sub l 0 n:=y8g (y5j a) 0 n
theorem y11r (a:Rat) (l:List AV) (n:Nat):sub (rC a++l) 8 n=sub l 4 n:=y8g (y5j a) 4 n
theorem y11n (a:Rat) (l:List AV) (n:Nat):sub (rC a++l) 12 n=sub l 8 n:=y8g (y5j a) 8 n
theorem ykf (a b c d:Rat):(rC a++(rC b++(rC c++rC d))).length=16:=by simp [y5j]
theorem y11g (a b c d:Rat):sub (rC a++(rC b++(rC c++rC d))) 0 16=some (rC a++(rC b++(rC c++rC d))):=by
 have:=y75 (l:=[]) (ykf a b c d);rwa [List.append_nil] at this
theorem put_w (x y z w:AV) (l:List AV) (q:Rat):put (x::y::z::w::l) 0 (rC q)=some (rC q++l):=yo1 (X:=[x,y,z,w]) (y5j q).symm
theorem yo2 (x y z w:AV) (q:Rat):put [x,y,z,w] 0 (rC q)=some (rC q):=y73 (y5j q).symm
theorem yth (p:Rat) (l xs:List AV):put (rC p++l) 4 xs=(put l 0 xs).map (rC p++·):=yb6 (y5j p) 0 xs
theorem y12j (p:Rat) (l xs:List AV):put (rC p++l) 8 xs=(put l 4 xs).map (rC p++·):=yb6 (y5j p) 4 xs
theorem y10t (p:Rat) (l xs:List AV):put (rC p++l) 12 xs=(put l 8 xs).map (rC p++·):=yb6 (y5j p) 8 xs
theorem y13d (p q:Rat):put (rC p) 0 (rC q)=some (rC q):=y73 (by rw [y5j,y5j])
theorem y13r (z1 z2 z3 z4 z5 z6 z7 z8 z9 z10 z11 z12 z13 z14 z15 z16:AV) (a b c d:Rat):put [z1,z2,z3,z4,z5,z6,z7,z8,z9,z10,z11,z12,z13,z14,z15,z16] 0 (rC a++(rC b++(rC c++rC d)))=some (rC a++(rC b++(rC c++rC d))):=y73 (ykf a b c d).symm
theorem ykh (a:Rat):∀x∈rC a,Canon x:=fun x hx=>by
 rw [rC_eq] at hx
 simp only [List.mem_cons,List.not_mem_nil,or_false] at hx
 rcases hx with rfl | rfl | rfl | rfl
 ·exact .bool _
 ·exact .sl _
 ·exact .bool _
 ·exact .sl _
theorem yrj (a:Rat) (ob:Nat→Option AObj) (fz:Nat→Nat):frzS ob fz (.agg (rC a))=some (fz,.agg (rC a)):=(CanS.agg _ (ykh a)).frz ob fz
theorem yqu (a b c d:Rat):CanS (.agg (rC a++(rC b++(rC c++rC d)))):=.agg _ fun x hx=>by
 simp only [List.mem_append] at hx
 rcases hx with hx | hx | hx | hx<;>exact ykh _ _ hx
theorem ywk (a b c d:Rat) (ob:Nat→Option AObj) (fz:Nat→Nat):frzS ob fz (.agg (rC a++(rC b++(rC c++rC d))))=some (fz,.agg (rC a++(rC b++(rC c++rC d)))):=(yqu a b c d).frz ob fz
theorem Num.len (x:Num):x.c.length=3:=rfl
theorem y12k (x:Num):sub x.c 0 3=some x.c:=by have:=y75 (l:=[]) x.len;rwa [List.append_nil] at this
theorem y127 (x:Num) (l:List AV):sub (x.c++l) 0 3=some x.c:=y75 x.len
theorem y13z (x:Num) (l:List AV) (n:Nat):sub (x.c++l) 3 n=sub l 0 n:=y8g x.len 0 n
theorem y12p (x:Num) (l:List AV) (n:Nat):sub (x.c++l) 6 n=sub l 3 n:=y8g x.len 3 n
theorem y13g (x:Num) (l:List AV) (n:Nat):sub (x.c++l) 9 n=sub l 6 n:=y8g x.len 6 n
theorem y115 (x:Num) (l:List AV) (n:Nat):sub (x.c++l) 12 n=sub l 9 n:=y8g x.len 9 n
theorem y10p (x:Num) (l:List AV) (n:Nat):sub (x.c++l) 15 n=sub l 12 n:=y8g x.len 12 n
theorem y11k (x:Num) (l:List AV) (n:Nat):sub (x.c++l) 18 n=sub l 15 n:=y8g x.len 15 n
theorem y98 (x:Num):∀y∈x.c,Canon y:=fun y hy=>by
 unfold Num.c at hy
 simp only [List.mem_cons,List.not_mem_nil,or_false] at hy
 rcases hy with rfl | rfl | rfl<;>exact .int _ _
attribute [go_sem ↓] y5j ykf yuw ytn ywe y11r y11n y11g put_w yo2 yth y12j y10t y13d y13r yrj ywk Num.len y12k y127 y13z y12p y13g y115 y10p y11k
def tup6:Option SV→Option SV→Option SV→Option SV→Option SV→Option SV→Option SV
 | some a,some b,some c,some d,some e,some f=>some (.tup [a,b,c,d,e,f])
 | _,_,_,_,_,_=>none
theorem yvt (a b c d e f:SV):tup6 (some a) (some b) (some c) (some d) (some e) (some f)=some (.tup [a,b,c,d,e,f]):=Eq.trans rfl rfl
theorem resAll6 (st:St) (a b c d e f:ARes):resAll st [a,b,c,d,e,f]=tup6 (resOf st a) (resOf st b) (resOf st c) (resOf st d) (resOf st e) (resOf st f):=by
 simp only [resAll,List.mapM_cons,List.mapM_nil]
 cases resOf st a<;>cases resOf st b<;>cases resOf st c<;>cases resOf st d<;>cases resOf st e<;>cases resOf st f<;>rfl
attribute [go_sem] resAll6 yvt
theorem cBoth (x:Num):Calling Id.y0l [.agg x.c] (.tup [.agg (qC x.q),.agg (rC x.q)]):=
 (Ends.of _ fun hn=>yy7 x hn).call (can1 (.agg _ (y98 x)))
theorem Jt.len (j:Jt):j.c.length=19:=by unfold Jt.c;simp [Num.len]
theorem yr9 (j:Jt):∀y∈j.c,Canon y:=fun y hy=>by
 unfold Jt.c at hy
 simp only [List.mem_append,List.mem_cons,List.not_mem_nil,or_false] at hy
 rcases hy with h | h | h | h | h | h | h
 ·exact y98 _ _ h
 ·exact y98 _ _ h
 ·exact y98 _ _ h
 ·exact y98 _ _ h
 ·exact y98 _ _ h
 ·exact y98 _ _ h
 ·rw [h];exact .int _ _
theorem ysj (j:Jt):Ends Id.y1a [.agg j.c] (.tup [.agg (qC j.low.q++(qC j.high.q++(qC j.most.q++qC j.step.q))),.agg (qC j.place.q),.agg (qC j.speed.q),.agg (rC j.low.q++(rC j.high.q++(rC j.most.q++rC j.step.q))),.agg (rC j.place.q),.agg (rC j.speed.q)]):=by
 obtain ⟨N1,h1⟩:=cBoth j.low
 obtain ⟨N2,h2⟩:=cBoth j.high
 obtain ⟨N3,h3⟩:=cBoth j.most
 obtain ⟨N4,h4⟩:=cBoth j.step
 obtain ⟨N5,h5⟩:=cBoth j.place
 obtain ⟨N6,h6⟩:=cBoth j.speed
 refine .of (N1+N2+N3+N4+N5+N6) fun {n} hn=> ?_
 have h1:=h1 n (by omega)
 have h2:=h2 n (by omega)
 have h3:=h3 n (by omega)
 have h4:=h4 n (by omega)
 have h5:=h5 n (by omega)
 have h6:=h6 n (by omega)
 rw [y03 ybr]
 unfold Jt.c
 simp only [go_sem,Fn.y1a,h1,h2,h3,h4,h5,h6]
theorem cJoint (j:Jt):Calling Id.y1a [.agg j.c] (.tup [.agg (qC j.low.q++(qC j.high.q++(qC j.most.q++qC j.step.q))),.agg (qC j.place.q),.agg (qC j.speed.q),.agg (rC j.low.q++(rC j.high.q++(rC j.most.q++rC j.step.q))),.agg (rC j.place.q),.agg (rC j.speed.q)]):=
 (ysj j).call (can1 (.agg _ (yr9 j)))
end Go.Ev
namespace Go.Ev
open Go.Dig
theorem y11o (a b:Nat):(a=a+b)=(b=0):=by rw [eq_iff_iff];omega
theorem yzj (a b:Nat):(a+b=a)=(b=0):=by rw [eq_iff_iff];omega
attribute [go_sem] y11o yzj
def CanL (l:List AV):Prop:=∀x∈l,Canon x
theorem CanL.nil:CanL []:=fun _ h=>by simp at h
theorem CanL.cons {x:AV} {l:List AV} (h:Canon x) (hl:CanL l):CanL (x::l):=fun y hy=>by
 rcases List.mem_cons.1 hy with rfl | e
 ·exact h
 ·exact hl y e
theorem CanL.app {l m:List AV} (h:CanL l) (hm:CanL m):CanL (l++m):=fun y hy=>by
 rcases List.mem_append.1 hy with e | e
 ·exact h y e
 ·exact hm y e
theorem CanL.q (q:Rat):CanL (qC q):=.cons (.bool _) (.cons (.sl _) (.cons (.sl _) .nil))
theorem CanL.r (q:Rat):CanL (rC q):=ykh q
theorem ygu {α:Type} {f:FuncId} {a:α→List SV} {r:α→SV} (h:∀x,Calling f (a x) (r x)):∀(l:List α),∃N,∀n,N≤n→∀x∈l,∀(ob:Nat→Option AObj) (fz:Nat→Nat),callV (evF E n) f (a x) ob fz=some (.fzd fz (r x))
 | []=>⟨0,fun _ _ _ h=>by simp at h⟩
 | x::l=>by
  obtain ⟨N1,h1⟩:=h x
  obtain ⟨N2,h2⟩:=ygu h l
  refine ⟨N1+N2,fun n hn y hy=> ?_⟩
  rcases List.mem_cons.1 hy with rfl | e
  ·exact h1 n (by omega)
  ·exact h2 n (by omega) y e
def OutE (sz:Nat) (ob:Nat→Option AObj) (nx:Nat) (x:AV) (es:List (List AV)):Prop:=
 (es=[]∧x=.nils)∨∃id ver,x=.rsl id ver sz 0 es.length false∧ob id=some (.row sz es ver)∧id<nx
theorem y5r {ob:Nat→Option AObj} {id q ver:Nat} {y:AObj} (h:id≠q):rowAt (upd ob q y) id ver=rowAt ob id ver:=by
 unfold rowAt
 rw [y00 h]
theorem y9r {α:Type} {f:α→List AV} {k:Nat} (h:∀a,(f a).length=k) (l:List α):okSz k (l.map f)=true:=by
 cases l with
 | nil=>rfl
 | cons a r=>simp [okSz,h]
section
variable {fz:Nat→Nat}
end
end Go.Ev
namespace Go.Ev
open Go.Dig
section
variable {F:Caller} {fuel:Nat} {fz:Nat→Nat}
set_option maxRecDepth 100000 in
theorem yrr {ob:Nat→Option AObj} {nx:Nat} (ds es:List Nat) (i c s:Nat) (hs:ds.length<2^40) (hs':es.length<2^40) (hd:∀d∈ds,d<BT) (he:∀d∈es,d<BT) (hc:c≤1) (hcond:i<ds.length∨i<es.length∨0<c) (hi:i≤2^40) (o:List Nat) (hol:o.length=i) (x:AV) (hO:OutR ob nx x o) (hsum:c+ds.getD i 0+es.getD i 0=s) (X:List (Nat×SV)):∃(x':AV) (ob':Nat→Option AObj),
  evC F fuel Fn.y2m ⟨env ((0,.one (.sl false (intE ds)))::(1,.one (.sl false (intE es)))::(5,.one x)::(6,.one (.int .i64 (c:Int)))::(7,.one (.int .i64 (i:Int)))::X),ob,fz,nx⟩=
   some (.nrm,⟨env [(0,.one (.sl false (intE ds))),(1,.one (.sl false (intE es))),(5,.one x'),(6,.one (.int .i64 ((s / 10000:Nat):Int))),(7,.one (.int .i64 ((i+1:Nat):Int)))],ob',fz,nx+6⟩)∧OutR ob' (nx+6) x' (o++[s%10000]):=by
 have wk:IntKind.i64.wrap ((i+1:Nat):Int)=((i+1:Nat):Int):=wi64 (by omega)
 have c0:c=0∨c=1:=by omega
 have hz:((10000:Int)=0)=False:=by simp
 have gc:(((c:Nat):Int)>0)=(0<c):=by rw [eq_iff_iff];omega
 by_cases h1:i<ds.length
 ·have ge1:ds[i]? =some ds[i]:=by simp
  have hx:ds[i]<10000:=hd _ (by simp)
  have e1:ds.getD i 0=ds[i]:=by rw [List.getD,ge1];rfl
  have g1:(((i:Nat):Int)<((ds.length:Nat):Int))=True:=by simp;omega
  rw [e1] at hsum
  generalize ds[i]=xd at*
  by_cases h2:i<es.length
  ·have ge2:es[i]? =some es[i]:=by simp
   have hy:es[i]<10000:=he _ (by simp)
   have e2:es.getD i 0=es[i]:=by rw [List.getD,ge2];rfl
   have g2:(((i:Nat):Int)<((es.length:Nat):Int))=True:=by simp;omega
   rw [e2] at hsum
   generalize es[i]=y at*
   have w1:IntKind.i64.wrap ((c:Int)+(xd:Int))=((c+xd:Nat):Int):=by rw [wrap_i64 (by omega)];omega
   have w2:IntKind.i64.wrap (((c+xd:Nat):Int)+(y:Int))=(s:Int):=by rw [wrap_i64 (by omega)];omega
   have t1:=tmodT s
   have t2:=tdivT s (by omega)
   generalize hd0:s%10000=d at*
   rcases hO with ⟨rfl,rfl⟩ | ⟨id,ver,rfl,hid,hlt'⟩
   ·refine ⟨_,_, ?_,y8n ob (nx+3) (nx+4) d _ (by omega) (.row 1 [[AV.int .i64 (d:Int)]] 0)⟩
    simp only [go_sem,beq_self_eq_true,Fn.y2m,g1,g2,gc,add1,wk,okSz,ROOM,Nat.reduceBEq,hz,t1,t2,w1,w2,ge1,ge2]
   ·have hl8:(o.length+1)*8≤140737488355328:=by omega
    have hrow:=y6c hid (show id≠nx+3 by omega) (.row 1 [[AV.int .i64 (d:Int)]] 0)
    refine ⟨_,_, ?_,y8f (ob:=ob) (id:=id) (ver:=ver) (q:=nx+3) (d:=d) (nx':=nx+6) (by omega) (.row 1 [[AV.int .i64 (d:Int)]] 0)⟩
    simp only [go_sem,beq_self_eq_true,Fn.y2m,g1,g2,gc,add1,wk,okSz,ROOM,Nat.reduceBEq,hz,t1,t2,w1,w2,ge1,ge2,hrow,hl8,y70]
  ·have e2:es.getD i 0=0:=by rw [List.getD,List.getElem?_eq_none (by omega)];rfl
   have g2:(((i:Nat):Int)<((es.length:Nat):Int))=False:=by simp;omega
   rw [e2] at hsum
   have w1:IntKind.i64.wrap ((c:Int)+(xd:Int))=(s:Int):=by rw [wrap_i64 (by omega)];omega
   have t1:=tmodT s
   have t2:=tdivT s (by omega)
   generalize hd0:s%10000=d at*
   rcases hO with ⟨rfl,rfl⟩ | ⟨id,ver,rfl,hid,hlt'⟩
   ·refine ⟨_,_, ?_,y8n ob (nx+3) (nx+4) d _ (by omega) (.row 1 [[AV.int .i64 (d:Int)]] 0)⟩
    simp only [go_sem,beq_self_eq_true,Fn.y2m,g1,g2,gc,add1,wk,okSz,ROOM,Nat.reduceBEq,hz,t1,t2,w1,ge1]
   ·have hl8:(o.length+1)*8≤140737488355328:=by omega
    have hrow:=y6c hid (show id≠nx+3 by omega) (.row 1 [[AV.int .i64 (d:Int)]] 0)
    refine ⟨_,_, ?_,y8f (ob:=ob) (id:=id) (ver:=ver) (q:=nx+3) (d:=d) (nx':=nx+6) (by omega) (.row 1 [[AV.int .i64 (d:Int)]] 0)⟩
    simp only [go_sem,beq_self_eq_true,Fn.y2m,g1,g2,gc,add1,wk,okSz,ROOM,Nat.reduceBEq,hz,t1,t2,w1,ge1,hrow,hl8,y70]
 ·have e1:ds.getD i 0=0:=by rw [List.getD,List.getElem?_eq_none (by omega)];rfl
  have g1:(((i:Nat):Int)<((ds.length:Nat):Int))=False:=by simp;omega
  rw [e1] at hsum
  by_cases h2:i<es.length
  ·have ge2:es[i]? =some es[i]:=by simp
   have hy:es[i]<10000:=he _ (by simp)
   have e2:es.getD i 0=es[i]:=by rw [List.getD,ge2];rfl
   have g2:(((i:Nat):Int)<((es.length:Nat):Int))=True:=by simp;omega
   rw [e2] at hsum
   generalize es[i]=y at*
   have w1:IntKind.i64.wrap ((c:Int)+(y:Int))=(s:Int):=by rw [wrap_i64 (by omega)];omega
   have t1:=tmodT s
   have t2:=tdivT s (by omega)
   generalize hd0:s%10000=d at*
   rcases hO with ⟨rfl,rfl⟩ | ⟨id,ver,rfl,hid,hlt'⟩
   ·refine ⟨_,_, ?_,y8n ob (nx+3) (nx+4) d _ (by omega) (.row 1 [[AV.int .i64 (d:Int)]] 0)⟩
    simp only [go_sem,beq_self_eq_true,Fn.y2m,g1,g2,gc,add1,wk,okSz,ROOM,Nat.reduceBEq,hz,t1,t2,w1,ge2]
   ·have hl8:(o.length+1)*8≤140737488355328:=by omega
    have hrow:=y6c hid (show id≠nx+3 by omega) (.row 1 [[AV.int .i64 (d:Int)]] 0)
    refine ⟨_,_, ?_,y8f (ob:=ob) (id:=id) (ver:=ver) (q:=nx+3) (d:=d) (nx':=nx+6) (by omega) (.row 1 [[AV.int .i64 (d:Int)]] 0)⟩
    simp only [go_sem,beq_self_eq_true,Fn.y2m,g1,g2,gc,add1,wk,okSz,ROOM,Nat.reduceBEq,hz,t1,t2,w1,ge2,hrow,hl8,y70]
  ·have e2:es.getD i 0=0:=by rw [List.getD,List.getElem?_eq_none (by omega)];rfl
   have g2:(((i:Nat):Int)<((es.length:Nat):Int))=False:=by simp;omega
   rw [e2] at hsum
   have e:c=s:=by omega
   have p1:0<s:=by omega
   subst e
   have t1:=tmodT c
   have t2:=tdivT c (by omega)
   have p0:(0<c)=True:=by simp;omega
   generalize hd0:c%10000=d at*
   rcases hO with ⟨rfl,rfl⟩ | ⟨id,ver,rfl,hid,hlt'⟩
   ·refine ⟨_,_, ?_,y8n ob (nx+3) (nx+4) d _ (by omega) (.row 1 [[AV.int .i64 (d:Int)]] 0)⟩
    simp only [go_sem,beq_self_eq_true,Fn.y2m,g1,g2,gc,add1,wk,okSz,ROOM,Nat.reduceBEq,hz,t1,t2,p0]
   ·have hl8:(o.length+1)*8≤140737488355328:=by omega
    have hrow:=y6c hid (show id≠nx+3 by omega) (.row 1 [[AV.int .i64 (d:Int)]] 0)
    refine ⟨_,_, ?_,y8f (ob:=ob) (id:=id) (ver:=ver) (q:=nx+3) (d:=d) (nx':=nx+6) (by omega) (.row 1 [[AV.int .i64 (d:Int)]] 0)⟩
    simp only [go_sem,beq_self_eq_true,Fn.y2m,g1,g2,gc,add1,wk,okSz,ROOM,Nat.reduceBEq,hz,t1,t2,p0,hrow,hl8,y70]
end
end Go.Ev
namespace Go.Ev
open Go.Dig
section
variable {F:Caller} {fuel:Nat} {fz:Nat→Nat}
def PlusEnd (M v:Nat) (o:List Nat):Prop:=(∀d∈o,d<BT)∧val BT o=v∧(o.length=M∨(o.length=M+1∧BT^M≤v))
theorem yo5 (es:List Nat) (i:Nat):val BT (es.take (i+1))=val BT (es.take i)+BT^i*es.getD i 0:=by
 rw [List.take_add_one,List.getD]
 cases h:es[i]? with
 | none=>simp only [Option.toList_none,List.append_nil,Option.getD_none,Nat.mul_zero,Nat.add_zero]
 | some y=>
  have hl:i<es.length:=(List.getElem?_eq_some_iff.1 h).1
  rw [Option.toList_some,y0i,List.length_take,Nat.min_eq_left (by omega)]
  rfl
theorem ylt {ob:Nat→Option AObj} {nx:Nat} (ds es:List Nat) (i:Nat) (h1:¬i<ds.length) (h2:¬i<es.length) (x:AV) (X:List (Nat×SV)) (N:Nat) (hN:0<N):∃X',loopN (evC F fuel Fn.y2m) N ⟨env ((0,.one (.sl false (intE ds)))::(1,.one (.sl false (intE es)))::(5,.one x)::(6,.one (.int .i64 0))::(7,.one (.int .i64 (i:Int)))::X),ob,fz,nx⟩=
   some (.ext 0,⟨env ((0,.one (.sl false (intE ds)))::(1,.one (.sl false (intE es)))::(5,.one x)::X'),ob,fz,nx⟩):=by
 obtain ⟨N,rfl⟩:∃k,N=k+1:=⟨N-1,by omega⟩
 have g1:(((i:Nat):Int)<((ds.length:Nat):Int))=False:=by simp;omega
 have g2:(((i:Nat):Int)<((es.length:Nat):Int))=False:=by simp;omega
 have g3:((0:Int)>0)=False:=by simp
 refine ⟨[(6,.one (.int .i64 0)),(7,.one (.int .i64 (i:Int))),(21,.one (.bool false))],y06 ?_⟩
 simp only [go_sem,beq_self_eq_true,Fn.y2m,g1,g2,g3]
theorem ykn (ds es:List Nat) (M:Nat) (hM1:ds.length≤M) (hM2:es.length≤M) (hM:M=ds.length∨M=es.length) (hs:M<2^39) (hd:∀d∈ds,d<BT) (he:∀d∈es,d<BT):∀(m i:Nat),i+m=M+1→∀(ob:Nat→Option AObj) (nx c:Nat) (o:List Nat) (x:AV) (X:List (Nat×SV)),c≤1→o.length=i→(∀d∈o,d<BT)→OutR ob nx x o→val BT o+BT^i*c=val BT (ds.take i)+val BT (es.take i)→(i=M+1→c=0∧BT^M≤val BT o)→∀N,m<N→
  ∃(o':List Nat) (x':AV) (ob':Nat→Option AObj) (nx':Nat) (X':List (Nat×SV)),loopN (evC F fuel Fn.y2m) N ⟨env ((0,.one (.sl false (intE ds)))::(1,.one (.sl false (intE es)))::(5,.one x)::(6,.one (.int .i64 (c:Int)))::(7,.one (.int .i64 (i:Int)))::X),ob,fz,nx⟩=
   some (.ext 0,⟨env ((0,.one (.sl false (intE ds)))::(1,.one (.sl false (intE es)))::(5,.one x')::X'),ob',fz,nx'⟩)∧OutR ob' nx' x' o'∧PlusEnd M (val BT ds+val BT es) o'
 | 0,i,hi,ob,nx,c,o,x,X,hc,hol,hod,hO,hinv,hlast,N,hN=>by
  obtain ⟨rfl,hv⟩:=hlast (by omega)
  obtain ⟨X',hX⟩:=ylt (F:=F) (fuel:=fuel) (fz:=fz) (ob:=ob) (nx:=nx) ds es i (by omega) (by omega) x X N (by omega)
  rw [List.take_of_length_le (by omega),List.take_of_length_le (by omega),Nat.mul_zero,Nat.add_zero] at hinv
  exact ⟨o,x,ob,nx,X',hX,hO,hod,hinv,.inr ⟨by omega,by rw [←hinv];exact hv⟩⟩
 | m+1,i,hi,ob,nx,c,o,x,X,hc,hol,hod,hO,hinv,hlast,N,hN=>by
  by_cases hcond:i<ds.length∨i<es.length∨0<c
  ·obtain ⟨s,hsum⟩:∃s,c+ds.getD i 0+es.getD i 0=s:=⟨_,rfl⟩
   obtain ⟨x',ob',hst,hO'⟩:=yrr (F:=F) (fuel:=fuel) (fz:=fz) ds es i c s (by omega) (by omega) hd he hc hcond (by omega) o hol x hO hsum X
   obtain ⟨N,rfl⟩:∃k,N=k+1:=⟨N-1,by omega⟩
   rw [y07 hst]
   have hx:ds.getD i 0<10000:=by
    rw [List.getD]
    cases h:ds[i]? with
    | none=>simp
    | some y=>exact hd y (List.mem_of_getElem? h)
   have hy:es.getD i 0<10000:=by
    rw [List.getD]
    cases h:es[i]? with
    | none=>simp
    | some y=>exact he y (List.mem_of_getElem? h)
   have hBT:BT=10000:=rfl
   have hs1:s%10000+10000*(s / 10000)=s:=Nat.mod_add_div s 10000
   have e1:val BT (o++[s%10000])+BT^(i+1)*(s / 10000)=val BT (ds.take (i+1))+val BT (es.take (i+1)):=by
    rw [yo5,yo5,y0i,hol,Nat.pow_succ]
    have e2:BT^i*(s%10000)+BT^i*BT*(s / 10000)=BT^i*c+BT^i*ds.getD i 0+BT^i*es.getD i 0:=by
     rw [Nat.mul_assoc (BT^i) BT,←Nat.mul_add,←Nat.mul_add,←Nat.mul_add,hsum,hBT,hs1]
    omega
   refine ykn ds es M hM1 hM2 hM hs hd he m (i+1) (by omega) ob' (nx+6) (s / 10000) (o++[s%10000]) x' [] (by omega) (by simp [hol]) ?_ hO' e1 ?_ N (by omega)
   ·intro z hz
    rcases List.mem_append.1 hz with h | h
    ·exact hod z h
    ·simp only [List.mem_cons,List.not_mem_nil,or_false] at h
     rw [h,hBT];omega
   ·intro hiM
    have hiM:i=M:=by omega
    have h1:ds.getD i 0=0:=by rw [List.getD,List.getElem?_eq_none (by omega)];rfl
    have h2:es.getD i 0=0:=by rw [List.getD,List.getElem?_eq_none (by omega)];rfl
    have hc1:c=1:=by omega
    have hs2:s=1:=by omega
    subst hs2
    refine ⟨rfl, ?_⟩
    rw [y0i,hol,hiM]
    show BT^M≤val BT o+BT^M*1
    omega
  ·have hc0:c=0:=by omega
   subst hc0
   obtain ⟨X',hX⟩:=ylt (F:=F) (fuel:=fuel) (fz:=fz) (ob:=ob) (nx:=nx) ds es i (by omega) (by omega) x X N (by omega)
   rw [List.take_of_length_le (by omega),List.take_of_length_le (by omega),Nat.mul_zero,Nat.add_zero] at hinv
   refine ⟨o,x,ob,nx,X',hX,hO,hod,hinv, ?_⟩
   by_cases hiM:i=M+1
   ·exact .inr ⟨by omega,by rw [←hinv];exact (hlast hiM).2⟩
   ·exact .inl (by omega)
end
theorem yys (o:List Nat) (hd:∀d∈o,d<BT) (hl:o.length≤dlen BT (val BT o)):o=digs BT (val BT o):=by
 have h1:=ycj BT2 o hd
 have h2:=yc8 o
 rw [h1] at h2
 unfold dlen at hl
 rw [List.take_of_length_le hl] at h2
 exact h2
theorem PlusEnd.eq {M a b:Nat} {o:List Nat} (h:PlusEnd M (a+b) o) (hM:M≤dlen BT (a+b)):o=digs BT (a+b):=by
 obtain ⟨hd,hv,hl⟩:=h
 have:=yys o hd (by
  rw [hv]
  rcases hl with hl | ⟨hl,hb⟩
  ·omega
  ·rw [hl]
   have h1:=y6x BT2 (a+b)
   have h2:BT^M<BT^dlen BT (a+b):=by omega
   exact (Nat.pow_lt_pow_iff_right (by decide)).1 h2)
 rw [hv] at this
 exact this
theorem yw3 (a b:Nat) (ha:dlen BT a<2^39) (hb:dlen BT b<2^39) {n:Nat} (hn:dlen BT a+dlen BT b+4≤n):evV E (n+1) Id.y3z [.one (zD a),.one (zD b)]=some (.one (zD (a+b))):=by
 rw [y03 yfy]
 obtain ⟨M,hM1,hM2,hM⟩:∃M,dlen BT a≤M∧dlen BT b≤M∧(M=dlen BT a∨M=dlen BT b):=by
  by_cases h:dlen BT a≤dlen BT b
  ·exact ⟨_,h,Nat.le_refl _,.inr rfl⟩
  ·exact ⟨_,Nat.le_refl _,by omega,.inl rfl⟩
 have hMd:M≤dlen BT (a+b):=by
  rcases hM with h | h
  ·rw [h];exact y5u BT2 (Nat.le_add_right a b)
  ·rw [h];exact y5u BT2 (Nat.le_add_left b a)
 unfold dlen at ha hb hn hM1 hM2 hM
 obtain ⟨o',x',ob',nx',X',hloop,h1,h2⟩:=ykn (F:=evF E n) (fuel:=n) (fz:=fz0) (digs BT a) (digs BT b) M hM1 hM2 hM (by omega) (y29 BT2 a) (y29 BT2 b) (M+1) 0 (by omega) ob0 0 0 [] .nils [] (by omega) rfl (fun _ h=>by simp at h) (.inl ⟨rfl,rfl⟩) (by simp [val]) (by omega) n (by omega)
 rw [y1k BT2,y1k BT2] at h2
 have ho:=h2.eq hMd
 subst ho
 obtain ⟨fz',hfz⟩:=yor h1 fz0
 rw [show ((0:Nat):Int)=0 from rfl] at hloop
 unfold zD
 simp only [go_sem,beq_self_eq_true,Fn.y3z,hloop,hfz]
theorem ymx (a b:Int) (h:decide (a<0)=decide (b<0)):sgn (decide (a<0)) (a.natAbs+b.natAbs)=a+b:=by
 unfold sgn
 by_cases ha:a<0
 ·have hb:b<0:=by rw [decide_eq_true ha] at h;exact of_decide_eq_true h.symm
  rw [decide_eq_true ha,if_pos rfl];omega
 ·have hb:¬b<0:=by rw [decide_eq_false ha] at h;exact of_decide_eq_false h.symm
  rw [decide_eq_false ha,if_neg (by simp)];omega
theorem ye3 (a b:Int) (h:decide (a<0)≠decide (b<0)) (hab:b.natAbs≤a.natAbs):sgn (decide (a<0)) (a.natAbs-b.natAbs)=a+b:=by
 unfold sgn
 by_cases ha:a<0
 ·have hb:¬b<0:=fun hb=>h (by rw [decide_eq_true ha,decide_eq_true hb])
  rw [decide_eq_true ha,if_pos rfl];omega
 ·have hb:b<0:=Decidable.byContradiction fun hb=>h (by rw [decide_eq_false ha,decide_eq_false hb])
  rw [decide_eq_false ha,if_neg (by simp)];omega
theorem ykd (a b:Int) (h:decide (a<0)≠decide (b<0)) (hab:a.natAbs≤b.natAbs):sgn (decide (b<0)) (b.natAbs-a.natAbs)=a+b:=by
 rw [ye3 b a (fun e=>h e.symm) hab,Int.add_comm]
theorem yva (a b:Int) (ha:dlen BT a.natAbs<2^38) (hb:dlen BT b.natAbs<2^38) {n:Nat} (hn:dlen BT a.natAbs+dlen BT b.natAbs+8≤n):evV E (n+1) Id.y38 [sV a,sV b]=some (sV (a+b)):=by
 rw [y03 ygd]
 obtain ⟨n,rfl⟩:∃k,n=k+1:=⟨n-1,by omega⟩
 by_cases hs:decide (a<0)=decide (b<0)
 ·have hp:=y01 (yw3 a.natAbs b.natAbs (by omega) (by omega) (n:=n) (by omega)) (can2 (y3j _) (y3j _))
  have hg:=y7o (decide (a<0)) (a.natAbs+b.natAbs) (a+b) (ymx a b hs) (n:=n+1) (by omega)
  have e1:(decide (a<0)==decide (b<0))=true:=by rw [hs];simp
  generalize a+b=c at hg ⊢
  generalize a.natAbs+b.natAbs=m at hp hg
  unfold sV zC zD at hg ⊢
  unfold zD at hp
  simp only [go_sem,Fn.y38,e1,hp,hg]
 ·have e1:(decide (a<0)==decide (b<0))=false:=by simpa using hs
  have hc:=y01 (ydo a.natAbs b.natAbs (by omega) (n:=n) (by omega)) (can2 (y3j _) (y3j _))
  unfold cmpI at hc
  by_cases hlt:a.natAbs<b.natAbs
  ·rw [if_pos hlt] at hc
   have hp:=y01 (yat b.natAbs a.natAbs (by omega) (by omega) (n:=n) (by omega)) (can2 (y3j _) (y3j _))
   have hg:=y7o (decide (b<0)) (b.natAbs-a.natAbs) (a+b) (ykd a b hs (by omega)) (n:=n+1) (by omega)
   have g0:((-1:Int)≥0)=False:=by simp
   generalize a+b=c at hg ⊢
   generalize b.natAbs-a.natAbs=m at hp hg
   unfold sV zC zD at hg ⊢
   unfold zD at hp hc
   simp only [go_sem,Fn.y38,e1,hc,g0,hp,hg]
  ·rw [if_neg hlt] at hc
   have hp:=y01 (yat a.natAbs b.natAbs (by omega) (by omega) (n:=n) (by omega)) (can2 (y3j _) (y3j _))
   have hg:=y7o (decide (a<0)) (a.natAbs-b.natAbs) (a+b) (ye3 a b hs (by omega)) (n:=n+1) (by omega)
   generalize a+b=c at hg ⊢
   generalize a.natAbs-b.natAbs=m at hp hg
   obtain ⟨r,hr,g0⟩:∃r:Int,(if b.natAbs<a.natAbs then (1:Int) else 0)=r∧(r≥0)=True:=by
    split
    ·exact ⟨1,rfl,by simp⟩
    ·exact ⟨0,rfl,by simp⟩
   rw [hr] at hc
   unfold sV zC zD at hg ⊢
   unfold zD at hp hc
   simp only [go_sem,Fn.y38,e1,hc,g0,hp,hg]
theorem ykw (a b:Int) (ha:dlen BT a.natAbs<2^38) (hb:dlen BT b.natAbs<2^38) {n:Nat} (hn:dlen BT a.natAbs+dlen BT b.natAbs+8≤n):evV E (n+1) Id.y2d [sV a,sV b]=some (.one (.int .i64 (cmpZ a b))):=by
 rw [y03 yfr]
 obtain ⟨n,rfl⟩:∃k,n=k+1:=⟨n-1,by omega⟩
 have hab:=y01 (ydo a.natAbs b.natAbs (by omega) (n:=n) (by omega)) (can2 (y3j _) (y3j _))
 have hba:=y01 (ydo b.natAbs a.natAbs (by omega) (n:=n) (by omega)) (can2 (y3j _) (y3j _))
 unfold zD at hab hba
 unfold sV zC zD
 by_cases h1:a<0
 ·by_cases h2:b<0
  ·have e:cmpZ a b=cmpI b.natAbs a.natAbs:=by
    unfold cmpZ cmpI
    clear hab hba
    split
    ·rw [if_pos (by omega)]
    ·split
     ·rw [if_neg (by omega),if_pos (by omega)]
     ·rw [if_neg (by omega),if_neg (by omega)]
   rw [e,decide_eq_true h1,decide_eq_true h2]
   have n0:(!(true==true))=false:=rfl
   simp only [go_sem,Fn.y2d,n0,hba]
  ·have e:cmpZ a b=-1:=by unfold cmpZ;rw [if_pos (by omega)]
   rw [e,decide_eq_true h1,decide_eq_false h2]
   have n0:(!(true==false))=true:=rfl
   simp only [go_sem,Fn.y2d,n0]
 ·by_cases h2:b<0
  ·have e:cmpZ a b=1:=by unfold cmpZ;rw [if_neg (by omega),if_pos (by omega)]
   rw [e,decide_eq_false h1,decide_eq_true h2]
   have n0:(!(false==true))=true:=rfl
   simp only [go_sem,Fn.y2d,n0]
  ·have e:cmpZ a b=cmpI a.natAbs b.natAbs:=by
    unfold cmpZ cmpI
    clear hab hba
    split
    ·rw [if_pos (by omega)]
    ·split
     ·rw [if_neg (by omega),if_pos (by omega)]
     ·rw [if_neg (by omega),if_neg (by omega)]
   rw [e,decide_eq_false h1,decide_eq_false h2]
   have n0:(!(false==false))=false:=rfl
   simp only [go_sem,Fn.y2d,n0,hab]
end Go.Ev
namespace Go.Ev
theorem cMul (a b:Rat) {S T:Nat} (ha:SmQ S a) (hb:SmQ T b) (h:S+T<2^36):Calling Id.y08 [.agg (qC a),.agg (qC b)] (.agg (qC (a*b))):=
 ⟨K (S+T)+4,fun n hn=>by obtain ⟨m,rfl⟩:∃m,n=m+1:=⟨n-1,by omega⟩;exact y01 (ykg a b ha hb h (by omega)) (can2 (y22 _) (y22 _))⟩
theorem cAdd (a b:Rat) {S T:Nat} (ha:SmQ S a) (hb:SmQ T b) (h:S+T<2^36):Calling Id.y0h [.agg (qC a),.agg (qC b)] (.agg (qC (a+b))):=
 ⟨K (S+T+1)+4,fun n hn=>by obtain ⟨m,rfl⟩:∃m,n=m+1:=⟨n-1,by omega⟩;exact y01 (ykl a b ha hb h (by omega)) (can2 (y22 _) (y22 _))⟩
theorem cSub (a b:Rat) {S T:Nat} (ha:SmQ S a) (hb:SmQ T b) (h:S+T<2^36):Calling Id.y1f [.agg (qC a),.agg (qC b)] (.agg (qC (a-b))):=
 ⟨K (S+T+1)+6,fun n hn=>by obtain ⟨m,rfl⟩:∃m,n=m+1:=⟨n-1,by omega⟩;exact y01 (yqs a b ha hb h (by omega)) (can2 (y22 _) (y22 _))⟩
theorem cDiv (a b:Rat) (h0:b.num≠0) {S T:Nat} (ha:SmQ S a) (hb:SmQ T b) (h:S+T<2^36):Calling Id.y45 [.agg (qC a),.agg (qC b)] (.tup [.agg (qC (a / b)),.one (.int .i64 0)]):=
 ⟨K (S+T)+6,fun n hn=>by obtain ⟨m,rfl⟩:∃m,n=m+1:=⟨n-1,by omega⟩;exact y01 (yrq a b h0 ha hb h (by omega)) (can2 (y22 _) (y22 _))⟩
theorem cNeg (a:Rat):Calling Id.y0z [.agg (qC a)] (.agg (qC (-a))):=
 ⟨2,fun n hn=>by obtain ⟨m,rfl⟩:∃m,n=m+2:=⟨n-2,by omega⟩;exact y01 (yk5 a m) (can1 (y22 _))⟩
theorem cSign (a:Rat):Calling Id.y0c [.agg (qC a)] (.one (.int .i64 (signI a.num))):=
 ⟨2,fun n hn=>by obtain ⟨m,rfl⟩:∃m,n=m+2:=⟨n-2,by omega⟩;exact y01 (yhr a m) (can1 (y22 _))⟩
theorem cCmp (a b:Rat) {S T:Nat} (ha:SmQ S a) (hb:SmQ T b) (h:S+T<2^36):Calling Id.y1z [.agg (qC a),.agg (qC b)] (.one (.int .i64 (cmpQ a b))):=
 ⟨4*(S+T)+101,fun n hn=>by obtain ⟨m,rfl⟩:∃m,n=m+1:=⟨n-1,by omega⟩;exact y01 (yfh a b ha hb h (by omega)) (can2 (y22 _) (y22 _))⟩
theorem cInt (z:Int) (h1:-9223372036854775808≤z) (h2:z<9223372036854775808):Calling Id.y0s [.one (.int .i64 z)] (.agg (qC (Rat.ofInt z))):=
 ⟨10,fun n hn=>by obtain ⟨m,rfl⟩:∃m,n=m+1:=⟨n-1,by omega⟩;exact y01 (yrb z h1 h2 (by omega)) (can1 (.one _ (.int _ _)))⟩
theorem cFloor (a:Rat) {S:Nat} (ha:SmQ S a) (h:S<2^36):Calling Id.y3p [.agg (qC a)] (.agg (qC (Rat.ofInt (floorQ a)))):=
 ⟨2*S+51,fun n hn=>by obtain ⟨m,rfl⟩:∃m,n=m+1:=⟨n-1,by omega⟩;exact y01 (ywd a ha h (by omega)) (can1 (y22 _))⟩
theorem ymk (a b:Rat) (h0:b.num≠0) {S T:Nat} (ha:SmQ S a) (hb:SmQ T b) (h:S+T<2^36):Ends Id.y17 [.agg (qC a),.agg (qC b)] (.agg (qC (a / b))):=by
 obtain ⟨N1,h1⟩:=cDiv a b h0 ha hb h
 refine Ends.of (N1+1) fun {n} hn=> ?_
 rw [y03 yf9]
 have h1:=h1 n (by omega)
 simp only [go_sem,Fn.y17,h1]
theorem cQuo (a b:Rat) (h0:b.num≠0) {S T:Nat} (ha:SmQ S a) (hb:SmQ T b) (h:S+T<2^36):Calling Id.y17 [.agg (qC a),.agg (qC b)] (.agg (qC (a / b))):=
 (ymk a b h0 ha hb h).call (can2 (y22 _) (y22 _))
theorem ypy (l h m s:Rat):Ends Id.y1u [.agg (qC l++(qC h++(qC m++qC s)))] (.agg (qC (-h)++(qC (-l)++(qC m++qC s)))):=by
 obtain ⟨N1,h1⟩:=cNeg h
 obtain ⟨N2,h2⟩:=cNeg l
 refine Ends.of (N1+N2+1) fun {n} hn=> ?_
 rw [y03 ycy]
 have h1:=h1 n (by omega)
 have h2:=h2 n (by omega)
 simp only [go_sem,Fn.y1u,h1,h2]
theorem yaz {z:Int} {S:Nat} (h:z.natAbs<2^(S+1)):SmQ (S+1) (Rat.ofInt z):=⟨h,by show 1<2^(S+1);exact Nat.one_lt_two_pow (by omega)⟩
theorem smQ_one:SmQ 2 (Rat.ofInt 1):=yaz (S:=1) (by decide)
theorem yfl:SmQ 2 (Rat.ofInt 2):=yaz (S:=1) (by decide)
theorem yc7 {q:Rat} {S:Nat} (h:SmQ S q):SmQ (S+1) (Rat.ofInt (floorQ q)):=by
 refine yaz ?_
 unfold floorQ
 have h1:=h.num
 have h2:(q.num / (q.den:Int)).natAbs≤q.num.natAbs+1:=by
  have hd:(0:Int)<q.den:=by have:=q.den_pos;omega
  have a1:=Int.ediv_mul_le q.num (b:=(q.den:Int)) (by omega)
  have a2:=Int.lt_ediv_add_one_mul_self q.num hd
  by_cases hz:0≤q.num
  ·have b1:0≤q.num / (q.den:Int):=Int.ediv_nonneg hz (by omega)
   have b2:q.num / (q.den:Int)≤q.num:=Int.ediv_le_self _ hz
   omega
  ·have b1:q.num / (q.den:Int)<0:=Int.ediv_neg_of_neg_of_pos (by omega) hd
   have b2:q.num≤q.num / (q.den:Int):=by
    have:q.num / (q.den:Int)*(q.den:Int)≤q.num / (q.den:Int):=by
     have:=Int.mul_le_mul_of_nonpos_left (a:=q.num / (q.den:Int)) (b:=(q.den:Int)) (c:=1) (by omega) (by omega)
     omega
    have c:=Int.lt_ediv_add_one_mul_self q.num hd
    by_cases e:(q.den:Int)=1
    ·rw [e];simp
    ·have h3:(q.num / (q.den:Int)+1)*(q.den:Int)≤(q.num / (q.den:Int)+1):=by
      have:=Int.mul_le_mul_of_nonpos_left (a:=q.num / (q.den:Int)+1) (b:=(q.den:Int)) (c:=1) (by omega) (by omega)
      omega
     omega
   omega
 have:2^(S+1)=2^S+2^S:=by rw [Nat.pow_succ];omega
 have:0<2^S:=Nat.pow_pos (by decide)
 omega
def triQ (n:Rat):Rat:=n*(n+1) / 2
theorem yyb (n:Rat) {S:Nat} (hn:SmQ S n) (h:S<2^30):Ends Id.y44 [.agg (qC n)] (.agg (qC (triQ n))):=by
 have e1:Rat.ofInt 1=1:=rfl
 have e2:Rat.ofInt 2=2:=rfl
 obtain ⟨N1,h1⟩:=cInt 1 (by decide) (by decide)
 obtain ⟨N2,h2⟩:=cInt 2 (by decide) (by decide)
 obtain ⟨N3,h3⟩:=cAdd n (Rat.ofInt 1) hn smQ_one (by omega)
 obtain ⟨N4,h4⟩:=cMul n (n+Rat.ofInt 1) hn (hn.add smQ_one) (by omega)
 obtain ⟨N5,h5⟩:=cQuo (n*(n+Rat.ofInt 1)) (Rat.ofInt 2) (by decide) (hn.mul (hn.add smQ_one)) yfl (by omega)
 refine Ends.of (N1+N2+N3+N4+N5+1) fun {k} hk=> ?_
 rw [y03 ymm]
 unfold triQ
 rw [←e1,←e2]
 have h1:=h1 k (by omega)
 have h2:=h2 k (by omega)
 have h3:=h3 k (by omega)
 have h4:=h4 k (by omega)
 have h5:=h5 k (by omega)
 simp only [go_sem,Fn.y44,h1,h2,h3,h4,h5]
theorem cTri (n:Rat) {S:Nat} (hn:SmQ S n) (h:S<2^30):Calling Id.y44 [.agg (qC n)] (.agg (qC (triQ n))):=(yyb n hn h).call (can1 (y22 _))
theorem y76 {n:Rat} {S:Nat} (hn:SmQ S n):SmQ (2*S+5) (triQ n):=by
 have:=(hn.mul (hn.add smQ_one)).div (b:=Rat.ofInt 2) (by decide) yfl
 exact this.mono (by omega)
theorem yst (l h m s:Rat) {S:Nat} (hm:SmQ S m) (hs:SmQ S s) (hS:S<2^30):Ends Id.y0y [.agg (qC l++(qC h++(qC m++qC s)))] (.agg (qC (s*m))):=by
 obtain ⟨N1,h1⟩:=cMul s m hs hm (by omega)
 refine Ends.of (N1+1) fun {n} hn=> ?_
 rw [y03 ydc]
 have h1:=h1 n (by omega)
 simp only [go_sem,Fn.y0y,h1]
theorem cBrake (l h m s:Rat) {S:Nat} (hm:SmQ S m) (hs:SmQ S s) (hS:S<2^30):Calling Id.y0y [.agg (qC l++(qC h++(qC m++qC s)))] (.agg (qC (s*m))):=(yst l h m s hm hs hS).call (can1 (y8r _ _ _ _))
theorem cTurned (l h m s:Rat):Calling Id.y1u [.agg (qC l++(qC h++(qC m++qC s)))] (.agg (qC (-h)++(qC (-l)++(qC m++qC s)))):=(ypy l h m s).call (can1 (y8r _ _ _ _))
end Go.Ev
namespace Go.Ev
def minQ (a b:Rat):Rat:=if cmpQ b a<0 then b else a
def maxQ (a b:Rat):Rat:=if cmpQ b a>0 then b else a
theorem yhx {S:Nat} (a b:Rat) (ha:SmQ S a) (hb:SmQ S b) (hS:S<2^35):Ends Id.y57 [.one (.sl false [qC a,qC b])] (.agg (qC (minQ a b))):=by
 refine .of (4*(S+S)+110) fun {n} hn=> ?_
 obtain ⟨n,rfl⟩:∃m,n=m+2:=⟨n-2,by omega⟩
 have h:=y01 (yp5 Id.y4o a b _ (n:=n+1) (by omega) (yxg b a hb ha (by omega) (n:=n) (by omega))) (can2 (.one _ (.fn _)) (.one _ (.sl _)))
 rw [y03 yqb]
 have e:(if decide (cmpQ b a<0)=true then b else a)=minQ a b:=by unfold minQ;simp
 rw [e] at h
 unfold qV at h
 simp only [go_sem,Fn.y57,h]
theorem yhw {S:Nat} (a b:Rat) (ha:SmQ S a) (hb:SmQ S b) (hS:S<2^35):Ends Id.y5f [.one (.sl false [qC a,qC b])] (.agg (qC (maxQ a b))):=by
 refine .of (4*(S+S)+110) fun {n} hn=> ?_
 obtain ⟨n,rfl⟩:∃m,n=m+2:=⟨n-2,by omega⟩
 have h:=y01 (yp5 Id.y4s a b _ (n:=n+1) (by omega) (yws b a hb ha (by omega) (n:=n) (by omega))) (can2 (.one _ (.fn _)) (.one _ (.sl _)))
 rw [y03 yqd]
 have e:(if decide (cmpQ b a>0)=true then b else a)=maxQ a b:=by unfold maxQ;simp
 rw [e] at h
 unfold qV at h
 simp only [go_sem,Fn.y5f,h]
theorem SmQ.min {S:Nat} {a b:Rat} (ha:SmQ S a) (hb:SmQ S b):SmQ S (minQ a b):=by unfold minQ;split<;>assumption
theorem SmQ.max {S:Nat} {a b:Rat} (ha:SmQ S a) (hb:SmQ S b):SmQ S (maxQ a b):=by unfold maxQ;split<;>assumption
end Go.Ev
namespace Go.Ev
def stopQ (m s v:Rat):Rat:=s*(Rat.ofInt (floorQ (v / (s*m)))*v-s*m*triQ (Rat.ofInt (floorQ (v / (s*m)))))
theorem ywa (l h m s v:Rat) {S:Nat} (hm:SmQ S m) (hs:SmQ S s) (hv:SmQ S v) (h0:(s*m).num≠0) (hS:S<2^24):Ends Id.y2w [.agg (qC l++(qC h++(qC m++qC s))),.agg (qC v)] (.agg (qC (stopQ m s v))):=by
 have hb:=hs.mul hm
 have hq:=hv.div h0 hb
 have hn:=yc7 hq
 obtain ⟨N1,h1⟩:=cBrake l h m s hm hs (by omega)
 obtain ⟨N2,h2⟩:=cQuo v (s*m) h0 hv hb (by omega)
 obtain ⟨N3,h3⟩:=cFloor (v / (s*m)) hq (by omega)
 unfold stopQ
 generalize hg:Rat.ofInt (floorQ (v / (s*m)))=n at hn h3 ⊢
 obtain ⟨N4,h4⟩:=cMul n v hn hv (by omega)
 obtain ⟨N5,h5⟩:=cTri n hn (by omega)
 obtain ⟨N6,h6⟩:=cMul (s*m) (triQ n) hb (y76 hn) (by omega)
 obtain ⟨N7,h7⟩:=cSub (n*v) (s*m*triQ n) (hn.mul hv) (hb.mul (y76 hn)) (by omega)
 obtain ⟨N8,h8⟩:=cMul s (n*v-s*m*triQ n) hs ((hn.mul hv).sub (hb.mul (y76 hn))) (by omega)
 refine Ends.of (N1+N2+N3+N4+N5+N6+N7+N8+1) fun {k} hk=> ?_
 rw [y03 ye7]
 have h1:=h1 k (by omega)
 have h2:=h2 k (by omega)
 have h3:=h3 k (by omega)
 have h4:=h4 k (by omega)
 have h5:=h5 k (by omega)
 have h6:=h6 k (by omega)
 have h7:=h7 k (by omega)
 have h8:=h8 k (by omega)
 simp only [go_sem,Fn.y2w,h1,h2,h3,h4,h5,h6,h7,h8]
theorem yod (a b c d e:Rat):∀x∈[SV.agg (qC a++(qC b++(qC c++qC d))),SV.agg (qC e)],CanS x:=can2 (y8r _ _ _ _) (y22 _)
theorem cStop (l h m s v:Rat) {S:Nat} (hm:SmQ S m) (hs:SmQ S s) (hv:SmQ S v) (h0:(s*m).num≠0) (hS:S<2^24):Calling Id.y2w [.agg (qC l++(qC h++(qC m++qC s))),.agg (qC v)] (.agg (qC (stopQ m s v))):=
 (ywa l h m s v hm hs hv h0 hS).call (yod _ _ _ _ _)
theorem ydu {m s v:Rat} {S:Nat} (hm:SmQ S m) (hs:SmQ S s) (hv:SmQ S v) (h0:(s*m).num≠0):SmQ (13*S+20) (stopQ m s v):=by
 have hb:=hs.mul hm
 have hn:=yc7 (hv.div h0 hb)
 exact (hs.mul ((hn.mul hv).sub (hb.mul (y76 hn)))).mono (by omega)
def farQ (m s p v:Rat) (d:Int):Rat:=if 0<v.num then p+s*Rat.ofInt d*v+stopQ m s v else p
def belowQ (h m s p v:Rat) (d:Int):Bool:=decide (cmpQ (farQ m s p v d) h≤0)
theorem yvl (z:Int):(signI z>0)=(0<z):=by
 unfold signI
 by_cases h:z<0
 ·simp only [h,if_true,eq_iff_iff];omega
 ·by_cases h0:z=0
  ·simp only [h0,if_true,eq_iff_iff];omega
  ·simp only [h,h0,if_false,eq_iff_iff];omega
theorem yt0 (l h m s p v:Rat) (d:Int) {S:Nat} (hh:SmQ S h) (hm:SmQ S m) (hs:SmQ S s) (hp:SmQ S p) (hv:SmQ S v) (h0:(s*m).num≠0) (d0:0≤d) (d1:d≤16) (hS:S<2^20):
  Ends Id.y1o [.agg (qC l++(qC h++(qC m++qC s))),.agg (qC p),.agg (qC v),.one (.int .i64 d)] (.one (.bool (belowQ h m s p v d))):=by
 have hd:SmQ 6 (Rat.ofInt d):=yaz (S:=5) (by omega)
 obtain ⟨N1,h1⟩:=cSign v
 obtain ⟨N2,h2⟩:=cInt d (by omega) (by omega)
 obtain ⟨N3,h3⟩:=cMul s (Rat.ofInt d) hs hd (by omega)
 obtain ⟨N4,h4⟩:=cMul (s*Rat.ofInt d) v (hs.mul hd) hv (by omega)
 have hx:=(hs.mul hd).mul hv
 obtain ⟨N5,h5⟩:=cAdd p (s*Rat.ofInt d*v) hp hx (by omega)
 obtain ⟨N6,h6⟩:=cStop l h m s v hm hs hv h0 (by omega)
 obtain ⟨N7,h7⟩:=cAdd (p+s*Rat.ofInt d*v) (stopQ m s v) (hp.add hx) (ydu hm hs hv h0) (by omega)
 have hf:SmQ (17*S+40) (farQ m s p v d):=by
  unfold farQ
  split
  ·exact ((hp.add hx).add (ydu hm hs hv h0)).mono (by omega)
  ·exact hp.mono (by omega)
 obtain ⟨N8,h8⟩:=cCmp (farQ m s p v d) h hf hh (by omega)
 refine Ends.of (N1+N2+N3+N4+N5+N6+N7+N8+1) fun {k} hk=> ?_
 rw [y03 yds]
 have h1:=h1 k (by omega)
 have h2:=h2 k (by omega)
 have h3:=h3 k (by omega)
 have h4:=h4 k (by omega)
 have h5:=h5 k (by omega)
 have h6:=h6 k (by omega)
 have h7:=h7 k (by omega)
 have h8:=h8 k (by omega)
 have hp:=yvl v.num
 unfold belowQ
 unfold farQ at h8 ⊢
 by_cases hv0:0<v.num
 ·simp only [hv0,if_true] at hp h8 ⊢
  simp only [go_sem,Fn.y1o,h1,h2,h3,h4,h5,h6,h7,h8,hp,decide_true]
 ·simp only [hv0,if_false] at hp h8 ⊢
  simp only [go_sem,Fn.y1o,h1,h8,hp,decide_false]
end Go.Ev
namespace Go.Ev
def safeQ (l h m s p v:Rat) (d:Int):Bool:=belowQ h m s p v d&&belowQ (-l) m s (-p) (-v) d
theorem ydf (a b c d e f:Rat) (z:Int):∀x∈[SV.agg (qC a++(qC b++(qC c++qC d))),SV.agg (qC e),SV.agg (qC f),.one (.int .i64 z)],CanS x:=fun x hx=>by
 simp only [List.mem_cons,List.not_mem_nil,or_false] at hx
 rcases hx with rfl | rfl | rfl | rfl
 ·exact y8r _ _ _ _
 ·exact y22 _
 ·exact y22 _
 ·exact .one _ (.int _ _)
theorem cBelow (l h m s p v:Rat) (d:Int) {S:Nat} (hh:SmQ S h) (hm:SmQ S m) (hs:SmQ S s) (hp:SmQ S p) (hv:SmQ S v) (h0:(s*m).num≠0) (d0:0≤d) (d1:d≤16) (hS:S<2^20):
  Calling Id.y1o [.agg (qC l++(qC h++(qC m++qC s))),.agg (qC p),.agg (qC v),.one (.int .i64 d)] (.one (.bool (belowQ h m s p v d))):=
 (yt0 l h m s p v d hh hm hs hp hv h0 d0 d1 hS).call (ydf _ _ _ _ _ _ _)
theorem yuk (l h m s p v:Rat) (d:Int) {S:Nat} (hl:SmQ S l) (hh:SmQ S h) (hm:SmQ S m) (hs:SmQ S s) (hp:SmQ S p) (hv:SmQ S v) (h0:(s*m).num≠0) (d0:0≤d) (d1:d≤16) (hS:S<2^20):
  Ends Id.y1m [.agg (qC l++(qC h++(qC m++qC s))),.agg (qC p),.agg (qC v),.one (.int .i64 d)] (.one (.bool (safeQ l h m s p v d))):=by
 obtain ⟨N1,h1⟩:=cBelow l h m s p v d hh hm hs hp hv h0 d0 d1 hS
 obtain ⟨N2,h2⟩:=cTurned l h m s
 obtain ⟨N3,h3⟩:=cNeg p
 obtain ⟨N4,h4⟩:=cNeg v
 obtain ⟨N5,h5⟩:=cBelow (-h) (-l) m s (-p) (-v) d hl.neg hm hs hp.neg hv.neg h0 d0 d1 hS
 refine Ends.of (N1+N2+N3+N4+N5+1) fun {k} hk=> ?_
 rw [y03 yea]
 have h1:=h1 k (by omega)
 have h2:=h2 k (by omega)
 have h3:=h3 k (by omega)
 have h4:=h4 k (by omega)
 have h5:=h5 k (by omega)
 unfold safeQ
 generalize belowQ (-l) m s (-p) (-v) d=b2 at h5 ⊢
 generalize belowQ h m s p v d=b1 at h1 ⊢
 cases b1 with
 | true=>simp only [go_sem,Fn.y1m,h1,h2,h3,h4,h5,Bool.true_and]
 | false=>simp only [go_sem,Fn.y1m,h1,Bool.false_and]
theorem cSafe (l h m s p v:Rat) (d:Int) {S:Nat} (hl:SmQ S l) (hh:SmQ S h) (hm:SmQ S m) (hs:SmQ S s) (hp:SmQ S p) (hv:SmQ S v) (h0:(s*m).num≠0) (d0:0≤d) (d1:d≤16) (hS:S<2^20):
  Calling Id.y1m [.agg (qC l++(qC h++(qC m++qC s))),.agg (qC p),.agg (qC v),.one (.int .i64 d)] (.one (.bool (safeQ l h m s p v d))):=
 (yuk l h m s p v d hl hh hm hs hp hv h0 d0 d1 hS).call (ydf _ _ _ _ _ _ _)
def errR (l h m s:Rat) (d:Int):Int:=if cmpQ l h>0∨m.num≤0∨s.num≤0 then 2 else if d<0∨d>16 then 3 else 0
theorem y6p (z:Int):(signI z≤0)=(z≤0):=by
 unfold signI
 by_cases h:z<0
 ·simp only [h,if_true,eq_iff_iff];omega
 ·by_cases h0:z=0
  ·simp only [h0,if_true,eq_iff_iff];omega
  ·simp only [h,h0,if_false,eq_iff_iff];omega
theorem ysq (l h m s:Rat) (d:Int) {S:Nat} (hl:SmQ S l) (hh:SmQ S h) (hS:S<2^20):
  Ends Id.y0n [.agg (qC l++(qC h++(qC m++qC s))),.one (.int .i64 d)] (.one (.int .i64 (errR l h m s d))):=by
 obtain ⟨N1,h1⟩:=cCmp l h hl hh (by omega)
 obtain ⟨N2,h2⟩:=cSign m
 obtain ⟨N3,h3⟩:=cSign s
 refine Ends.of (N1+N2+N3+1) fun {k} hk=> ?_
 rw [y03 yd7]
 have h1:=h1 k (by omega)
 have h2:=h2 k (by omega)
 have h3:=h3 k (by omega)
 have e2:=y6p m.num
 have e3:=y6p s.num
 unfold errR
 by_cases a1:cmpQ l h>0
 ·simp only [go_sem,Fn.y0n,h1,a1,decide_true,true_or,if_true]
 ·by_cases a2:m.num≤0
  ·simp only [a2] at e2
   simp only [go_sem,Fn.y0n,h1,h2,a1,a2,e2,decide_true,decide_false,true_or,false_or,if_true]
  ·simp only [a2] at e2
   by_cases a3:s.num≤0
   ·simp only [a3] at e3
    simp only [go_sem,Fn.y0n,h1,h2,h3,a1,a2,a3,e2,e3,decide_true,decide_false,true_or,false_or,if_true]
   ·simp only [a3] at e3
    by_cases a4:d<0
    ·simp only [go_sem,Fn.y0n,h1,h2,h3,a1,a2,a3,a4,e2,e3,decide_true,decide_false,true_or,false_or,if_true,if_false]
    ·by_cases a5:d>16
     ·simp only [go_sem,Fn.y0n,h1,h2,h3,a1,a2,a3,a4,a5,e2,e3,decide_true,decide_false,true_or,false_or,if_true,if_false]
     ·simp only [go_sem,Fn.y0n,h1,h2,h3,a1,a2,a3,a4,a5,e2,e3,decide_true,decide_false,true_or,false_or,if_true,if_false]
theorem cCheckR (l h m s:Rat) (d:Int) {S:Nat} (hl:SmQ S l) (hh:SmQ S h) (hS:S<2^20):
  Calling Id.y0n [.agg (qC l++(qC h++(qC m++qC s))),.one (.int .i64 d)] (.one (.int .i64 (errR l h m s d))):=
 (ysq l h m s d hl hh hS).call (can2 (y8r _ _ _ _) (.one _ (.int _ _)))
theorem ydm {s m:Rat} (hs:0<s.num) (hm:0<m.num):(s*m).num≠0:=by
 have h1:s≠0:=fun e=>by rw [e] at hs;exact absurd hs (by decide)
 have h2:m≠0:=fun e=>by rw [e] at hm;exact absurd hm (by decide)
 intro h
 have:=Rat.num_eq_zero.1 h
 rcases Rat.mul_eq_zero.1 this with h | h
 ·exact h1 h
 ·exact h2 h
theorem y9a {l h m s:Rat} {d:Int} (e:errR l h m s d=0):¬cmpQ l h>0∧0<m.num∧0<s.num∧0≤d∧d≤16:=by
 unfold errR at e
 split at e
 ·cases e
 ·split at e
  ·cases e
  ·rename_i a b
   simp only [not_or,Int.not_le,Int.not_lt] at a b
   exact ⟨by omega,by omega,by omega,by omega,by omega⟩
theorem yw8 (l h m s p v:Rat) (d:Int) {S:Nat} (hl:SmQ S l) (hh:SmQ S h) (hm:SmQ S m) (hs:SmQ S s) (hp:SmQ S p) (hv:SmQ S v) (hS:S<2^20):
  Ends Id.y4a [.agg (qC l++(qC h++(qC m++qC s))),.agg (qC p),.agg (qC v),.one (.int .i64 d)] (.tup [.one (.bool (decide (errR l h m s d=0)&&safeQ l h m s p v d)),.one (.int .i64 (errR l h m s d))]):=by
 obtain ⟨N1,h1⟩:=cCheckR l h m s d hl hh hS
 by_cases e:errR l h m s d=0
 ·obtain ⟨_,e1,e2,e3,e4⟩:=y9a e
  obtain ⟨N2,h2⟩:=cSafe l h m s p v d hl hh hm hs hp hv (ydm e2 e1) e3 e4 hS
  refine Ends.of (N1+N2+1) fun {k} hk=> ?_
  rw [y03 ycx]
  have h1:=h1 k (by omega)
  have h2:=h2 k (by omega)
  rw [e] at h1 ⊢
  have e0:((0:Int) !=0)=false:=rfl
  simp only [go_sem,Fn.y4a,h1,h2,e0,decide_true,Bool.true_and]
 ·refine Ends.of (N1+1) fun {k} hk=> ?_
  rw [y03 ycx]
  have h1:=h1 k (by omega)
  have e':(errR l h m s d !=0)=true:=by simp [e]
  generalize errR l h m s d=er at h1 e e' ⊢
  simp only [go_sem,Fn.y4a,h1,e',e,decide_false,Bool.false_and]
end Go.Ev
namespace Go.Ev
theorem ycc (q:Rat):q*(q.den:Rat)=(q.num:Rat):=by
 have h:=Rat.num_divInt_den q
 rw [Rat.divInt_eq_div] at h
 have hd:((q.den:Int):Rat)≠0:=by
  intro e;have:=Rat.intCast_eq_zero_iff.1 e;have:=q.den_pos;omega
 have h2:(q.num:Rat) / ((q.den:Int):Rat)*((q.den:Int):Rat)=(q.num:Rat):=Rat.div_mul_cancel hd
 rwa [h] at h2
theorem yqg (q:Rat):(0<q.num)=(0<q):=by
 have h1:=@Rat.num_nonneg (-q)
 rw [Rat.neg_num] at h1
 rw [eq_iff_iff]
 constructor
 ·intro h;exact Rat.not_le.1 fun hq=>by have:=h1.2 (by grind);omega
 ·intro h;exact Int.not_le.1 fun hq=>by have:=h1.1 (by omega);grind
def InD (D:Nat) (Z:Nat) (q:Rat):Prop:=∃z:Int,q*((D:Nat):Rat)=(z:Rat)∧z.natAbs<2^Z
theorem InD.sm {D Z S:Nat} {q:Rat} (h:InD D Z q) (hD:0<D) (hS:D<2^S) (hZ:Z≤S):SmQ S q:=by
 obtain ⟨z,h1,h2⟩:=h
 have h3:((q.num*(D:Int):Int):Rat)=((z*(q.den:Int):Int):Rat):=by
  rw [Rat.intCast_mul,Rat.intCast_mul,←h1]
  have:=ycc q
  rw [←this]
  show q*(q.den:Rat)*(D:Rat)=q*(D:Rat)*(q.den:Rat)
  grind
 have h4:q.num*(D:Int)=z*(q.den:Int):=Rat.intCast_inj.1 h3
 have h5:q.num.natAbs*D=z.natAbs*q.den:=by
  have:=congrArg Int.natAbs h4
  rwa [Int.natAbs_mul,Int.natAbs_mul,Int.natAbs_natCast,Int.natAbs_natCast] at this
 have h6:q.den ∣ D:=(q.reduced.symm).dvd_of_dvd_mul_left (h5 ▸ Nat.dvd_mul_left _ _)
 have h7:q.den≤D:=Nat.le_of_dvd hD h6
 refine ⟨?_,by omega⟩
 have h8:q.num.natAbs*D≤z.natAbs*D:=by rw [h5];exact Nat.mul_le_mul_left _ h7
 have h9:q.num.natAbs≤z.natAbs:=Nat.le_of_mul_le_mul_right h8 hD
 exact Nat.lt_of_le_of_lt h9 (Nat.lt_of_lt_of_le h2 (Nat.pow_le_pow_right (by decide) hZ))
theorem InD.mono {D Z Y:Nat} {q:Rat} (h:InD D Z q) (hZ:Z≤Y):InD D Y q:=by
 obtain ⟨z,h1,h2⟩:=h
 exact ⟨z,h1,Nat.lt_of_lt_of_le h2 (Nat.pow_le_pow_right (by decide) hZ)⟩
theorem InD.neg {D Z:Nat} {q:Rat} (h:InD D Z q):InD D Z (-q):=by
 obtain ⟨z,h1,h2⟩:=h
 refine ⟨-z, ?_,by rw [Int.natAbs_neg];exact h2⟩
 rw [Rat.intCast_neg,←h1];grind
theorem InD.add {D Z:Nat} {a b:Rat} (h:InD D Z a) (k:InD D Z b):InD D (Z+1) (a+b):=by
 obtain ⟨z,h1,h2⟩:=h
 obtain ⟨y,k1,k2⟩:=k
 refine ⟨z+y, ?_, ?_⟩
 ·rw [Rat.intCast_add,←h1,←k1];grind
 ·have:=Int.natAbs_add_le z y
  rw [Nat.pow_succ];omega
theorem InD.sub {D Z:Nat} {a b:Rat} (h:InD D Z a) (k:InD D Z b):InD D (Z+1) (a-b):=by
 have:=h.add k.neg
 rwa [←Rat.sub_eq_add_neg] at this
theorem InD.mul {D Z E Y:Nat} {a b:Rat} (h:InD D Z a) (k:InD E Y b):InD (D*E) (Z+Y) (a*b):=by
 obtain ⟨z,h1,h2⟩:=h
 obtain ⟨y,k1,k2⟩:=k
 refine ⟨z*y, ?_,by rw [Int.natAbs_mul];exact y2j h2 k2⟩
 rw [Rat.intCast_mul,←h1,←k1]
 have:((D*E:Nat):Rat)=(D:Rat)*(E:Rat):=Rat.natCast_mul D E
 rw [this];grind
theorem InD.more {D Z C c:Nat} {q:Rat} (h:InD D Z q) (hC:C<2^c):InD (D*C) (Z+c) q:=by
 obtain ⟨z,h1,h2⟩:=h
 refine ⟨z*(C:Int), ?_,by rw [Int.natAbs_mul,Int.natAbs_natCast];exact y2j h2 hC⟩
 rw [Rat.intCast_mul,←h1]
 have:((D*C:Nat):Rat)=(D:Rat)*(C:Rat):=Rat.natCast_mul D C
 rw [this]
 show q*(↑D*↑C)=q*↑D*(C:Rat)
 grind
theorem InD.more' {D Z C c:Nat} {q:Rat} (h:InD D Z q) (hC:C<2^c):InD (C*D) (c+Z) q:=by
 rw [Nat.mul_comm,Nat.add_comm];exact h.more hC
theorem InD.of {S:Nat} {q:Rat} (h:SmQ S q):InD q.den S q:=⟨q.num,ycc q,h.num⟩
theorem InD.int {S:Nat} {z:Int} (h:z.natAbs<2^S):InD 1 S (z:Rat):=⟨z,by show (z:Rat)*1=z;grind,h⟩
theorem InD.inv {S:Nat} {q:Rat} (h:SmQ S q) (h0:q.num≠0):InD q.num.natAbs S q⁻¹:=by
 have e:=ycc q
 have q0:q≠0:=fun e=>h0 (by rw [e];rfl)
 have hi:q*q⁻¹=1:=Rat.mul_inv_cancel q q0
 by_cases hn:q.num<0
 ·refine ⟨-(q.den:Int), ?_,by rw [Int.natAbs_neg,Int.natAbs_natCast];exact h.den⟩
  have e2:((q.num.natAbs:Nat):Rat)=-((q.num:Int):Rat):=by
   have:((q.num.natAbs:Nat):Int)=-q.num:=by omega
   rw [←Rat.intCast_neg,←this];rfl
  rw [e2,←e,Rat.intCast_neg]
  show q⁻¹*-(q*(q.den:Rat))=-(q.den:Rat)
  grind
 ·refine ⟨(q.den:Int), ?_,by rw [Int.natAbs_natCast];exact h.den⟩
  have e2:((q.num.natAbs:Nat):Rat)=((q.num:Int):Rat):=by
   have:((q.num.natAbs:Nat):Int)=q.num:=by omega
   rw [←this];rfl
  rw [e2,←e]
  show q⁻¹*(q*(q.den:Rat))=(q.den:Rat)
  grind
end Go.Ev
namespace Go.Ev
theorem y10e (a b:Int):(cmpZ a b>0)=(b<a):=by
 unfold cmpZ;rw [eq_iff_iff];(repeat split)<;>omega
theorem y10z (a b:Int):(cmpZ a b<0)=(a<b):=by
 unfold cmpZ;rw [eq_iff_iff];(repeat split)<;>omega
theorem yfn (a b:Rat):(cmpQ a b>0)=(b<a):=by
 unfold cmpQ;rw [y10e,Rat.lt_iff]
theorem yr6 (a b:Rat):(cmpQ a b<0)=(a<b):=by
 unfold cmpQ;rw [y10z,Rat.lt_iff]
theorem y105 (a b:Rat):(cmpQ a b≥0)=(b≤a):=by
 have h:=yr6 a b
 rw [eq_iff_iff] at h ⊢
 rw [←Rat.not_lt,←h];omega
theorem y72 (a b:Rat):(cmpQ a b≤0)=(a≤b):=by
 have h:=yfn a b
 rw [eq_iff_iff] at h ⊢
 rw [←Rat.not_lt,←h];omega
theorem yp0 (q:Rat):(q.num<0)=(q<0):=by
 rw [eq_iff_iff]
 have h:=@Rat.num_nonneg q
 rw [←Rat.not_le,←h];omega
theorem y9q (q:Rat):(q.num=0)=(q=0):=by
 rw [eq_iff_iff]
 constructor
 ·intro h;exact Rat.num_eq_zero.1 h
 ·intro h;rw [h];rfl
theorem yd2 (q:Rat):(signI q.num>0)=(0<q):=by
 have h1:=yp0 q
 have h2:=y9q q
 rw [eq_iff_iff] at*
 have h3:0<q↔¬q<0∧¬q=0:=by grind
 rw [h3,←h1,←h2]
 unfold signI
 (repeat split)<;>omega
theorem ydg (q:Rat):(signI q.num<0)=(q<0):=by
 have h1:=yp0 q
 rw [eq_iff_iff] at*
 rw [←h1]
 unfold signI
 (repeat split)<;>omega
theorem yp9 (q:Rat):(signI q.num≤0)=(q≤0):=by
 have h:=yd2 q
 rw [eq_iff_iff] at h ⊢
 rw [←Rat.not_lt,←h];omega
theorem yk0 (q:Rat):absQ q=if q<0 then-q else q:=by
 unfold absQ;simp only [yp0]
theorem ycp (a b:Rat):minQ a b=if b<a then b else a:=by
 unfold minQ;simp only [yr6]
theorem y89 (a b:Rat):maxQ a b=if a<b then b else a:=by
 unfold maxQ;simp only [yfn]
theorem SmQ.absQ {S:Nat} {a:Rat} (h:SmQ S a):SmQ S (absQ a):=by
 unfold Ev.absQ;split
 ·exact SmQ.neg h
 ·exact h
end Go.Ev
namespace Go.Ev
theorem Ends.callF {f:FuncId} {xs ys:List SV} {r:SV} (h:Ends f ys r) (hx:∀(ob:Nat→Option AObj) (fz:Nat→Nat),mapFz (frzS ob) fz xs=some (fz,ys)):Calling f xs r:=by
 obtain ⟨N,h⟩:=h
 refine ⟨N,fun n hn ob fz=> ?_⟩
 rw [y68,hx]
 simp only [h n hn,Option.map_some]
def FzS (x y:SV):Prop:=∀(ob:Nat→Option AObj) (fz:Nat→Nat),frzS ob fz x=some (fz,y)
theorem FzS.one {x y:SV} (h:FzS x y):∀(ob:Nat→Option AObj) (fz:Nat→Nat),mapFz (frzS ob) fz [x]=some (fz,[y]):=fun ob fz=>by simp only [mapFz,h ob fz]
theorem FzS.two {x y x' y':SV} (h:FzS x y) (h':FzS x' y'):∀(ob:Nat→Option AObj) (fz:Nat→Nat),mapFz (frzS ob) fz [x,x']=some (fz,[y,y']):=fun ob fz=>by simp only [mapFz,h ob fz,h' ob fz]
theorem CanS.fzs {x:SV} (h:CanS x):FzS x x:=fun ob fz=>by
 cases h with
 | one v h=>
  have e:Ev.frz ob DEPTH fz v=some (fz,v):=h.frz ob 7 fz
  simp only [frzS,e]
 | agg cs h=>
  have e:mapFz (Ev.frz ob DEPTH) fz cs=some (fz,cs):=y5s cs fun x hx=>(h x hx).frz ob 7 fz
  simp only [frzS,e]
theorem yx4 {n:Nat} {f:FuncId} {xs ys:List SV} {r:SV} (h:evV E n f ys=some r) (hx:∀(ob:Nat→Option AObj) (fz:Nat→Nat),mapFz (frzS ob) fz xs=some (fz,ys)) (ob:Nat→Option AObj) (fz:Nat→Nat):callV (evF E n) f xs ob fz=some (.fzd fz r):=by
 rw [y68,hx]
 simp only [h,Option.map_some]
theorem yyg (q:Rat):∃a b c,qC q=[a,b,c]∧(∀ob k fz,frz ob (k+1) fz a=some (fz,a))∧(∀ob k fz,frz ob (k+1) fz b=some (fz,b))∧(∀ob k fz,frz ob (k+1) fz c=some (fz,c)):=
 ⟨_,_,_,rfl,fun _ _ _=>rfl,fun _ _ _=>rfl,fun _ _ _=>rfl⟩
end Go.Ev
namespace Go.Ev
open Go.Dig
def RQ (q:Rat) (cs:List AV):Prop:=cs=rC q∨(q=0∧cs=[.bool false,.sl false [],.bool false,.sl false []])
theorem RQ.self (q:Rat):RQ q (rC q):=.inl rfl
theorem RQ.can {q:Rat} {cs:List AV} (h:RQ q cs):CanS (.agg cs):=by
 rcases h with rfl | ⟨rfl,rfl⟩
 ·exact y7l q
 ·refine .agg _ fun x hx=> ?_
  simp only [List.mem_cons,List.not_mem_nil,or_false] at hx
  rcases hx with rfl | rfl | rfl | rfl
  ·exact .bool _
  ·exact .sl _
  ·exact .bool _
  ·exact .sl _
theorem RQ.cells {q:Rat} {cs:List AV} (h:RQ q cs):∃e y,cs=[.bool (decide (q.num<0)),zD q.num.natAbs,e,y]:=by
 rcases h with rfl | ⟨rfl,rfl⟩
 ·exact ⟨_,_,rC_eq q⟩
 ·refine ⟨.bool false,.sl false [], ?_⟩
  have h1:((0:Rat).num.natAbs)=0:=rfl
  rw [h1]
  unfold zD
  rw [digs_zero];rfl
theorem rdn {q:Rat} {cs:List AV} (h:RQ q cs) (hd:dlen BT q.den<2^60) {n:Nat} (hn:12≤n) (ob:Nat→Option AObj) (fz:Nat→Nat):callV (evF E n) Id.y0d [.agg cs] ob fz=some (.fzd fz (sV (q.den:Int))):=by
 obtain ⟨n,rfl⟩:∃k,n=k+1:=⟨n-1,by omega⟩
 refine y01 ?_ (can1 h.can) ob fz
 rcases h with rfl | ⟨rfl,rfl⟩
 ·exact yhm q hd (by omega)
 ·rw [y03 ya9]
  obtain ⟨n,rfl⟩:∃k,n=k+1:=⟨n-1,by omega⟩
  have hz:=y01 (y94 1 (by decide) (by decide) (n:=n) (by omega)) (can1 (y26 _ _))
  have e1:((0:Rat).den:Int)=1:=rfl
  have e0:((((0:Nat):Int))==0)=true:=rfl
  rw [e1]
  unfold sV zC zD at hz ⊢
  simp only [go_sem,Fn.y0d,e0,hz]
theorem yz3 (a b:Rat) {ca cb:List AV} (h:RQ a ca) (h':RQ b cb) {S T:Nat} (ha:SmQ S a) (hb:SmQ T b) (hS:S+T<2^36) {n:Nat} (hn:2*(S+T)+20≤n):evV E (n+1) Id.y0b [.agg ca,.agg cb]=some (.one (.int .i64 (cmpQ a b))):=by
 rw [y03 yhf]
 unfold cmpQ
 obtain ⟨n,rfl⟩:∃k,n=k+1:=⟨n-1,by omega⟩
 have da:=y10 ha.den
 have db:=y10 hb.den
 have na:=y10 ha.num
 have nb:=y10 hb.num
 have d1:=rdn h (by omega) (n:=n+1) (by omega)
 have d2:=rdn h' (by omega) (n:=n+1) (by omega)
 have m1:=y01 (y6h a.num (b.den:Int) (by omega) (by rw [Int.natAbs_natCast];omega) (n:=n) (by rw [Int.natAbs_natCast];omega)) (can2 (y1y _) (y1y _))
 have m2:=y01 (y6h b.num (a.den:Int) (by omega) (by rw [Int.natAbs_natCast];omega) (n:=n) (by rw [Int.natAbs_natCast];omega)) (can2 (y1y _) (y1y _))
 have h1:(a.num*(b.den:Int)).natAbs<2^(S+T):=by rw [Int.natAbs_mul,Int.natAbs_natCast];exact y2j ha.num hb.den
 have h2:(b.num*(a.den:Int)).natAbs<2^(S+T):=by rw [Int.natAbs_mul,Int.natAbs_natCast,Nat.add_comm];exact y2j hb.num ha.den
 have l1:=y10 h1
 have l2:=y10 h2
 have hc:=y01 (ykw (a.num*(b.den:Int)) (b.num*(a.den:Int)) (by omega) (by omega) (n:=n) (by omega)) (can2 (y1y _) (y1y _))
 generalize a.num*(b.den:Int)=p at m1 hc ⊢
 generalize b.num*(a.den:Int)=r at m2 hc ⊢
 obtain ⟨e,y,rfl⟩:=h.cells
 obtain ⟨e',y',rfl⟩:=h'.cells
 unfold sV zC at d1 d2 m1 m2 hc
 rw [Int.natAbs_natCast] at d1 d2 m1 m2
 unfold zD at d1 d2 m1 m2 hc ⊢
 simp only [go_sem,Fn.y0b,d1,d2,m1,m2,hc]
theorem ywf (a:Rat) {ca:List AV} (h:RQ a ca) {S:Nat} (ha:SmQ S a) (hS:S<2^36) {n:Nat} (hn:S+20≤n):evV E (n+1) Id.y0f [.agg ca]=some (.one (.int .i64 (signI a.num))):=by
 rw [y03 yg5]
 obtain ⟨n,rfl⟩:∃k,n=k+1:=⟨n-1,by omega⟩
 have na:=y10 ha.num
 have hz:dlen BT (0:Int).natAbs=0:=by show (digs BT 0).length=0;rw [digs_zero];rfl
 have hc:=ykw a.num 0 (by omega) (by omega) (n:=n) (by omega)
 have e:cmpZ a.num 0=signI a.num:=by
  clear hc
  unfold cmpZ signI
  by_cases h3:a.num<0
  ·rw [if_pos h3,if_pos h3]
  ·rw [if_neg h3,if_neg h3]
   by_cases h4:a.num=0
   ·rw [if_neg (show ¬0<a.num by omega),if_pos h4]
   ·rw [if_pos (show 0<a.num by omega),if_neg h4]
 rw [e] at hc
 obtain ⟨e',y,rfl⟩:=h.cells
 have z0:sV 0=.agg [.bool false,.sl false []]:=by
  unfold sV zC zD
  rw [show (0:Int).natAbs=0 from rfl,digs_zero];rfl
 have cz:CanS (.agg [.bool false,.sl false []]):=by rw [←z0];exact y1y 0
 rw [z0] at hc
 have hc:=fun ob fz=>yx4 hc (FzS.two (y1y a.num).fzs (show FzS (.agg [.bool false,.nils]) (.agg [.bool false,.sl false []]) from fun ob fz=>by simp only [go_sem,mapFz,ylg,ylq,yl6,ylk])) ob fz
 unfold sV zC zD at hc
 unfold zD
 simp only [go_sem,Fn.y0f,hc]
theorem yob (a:Rat) {ca:List AV} (h:RQ a ca) {S:Nat} (ha:SmQ S a) (hS:S<2^36) {n:Nat} (hn:20≤n):evV E (n+1) Id.y13 [.agg ca]=some (rV (-a)):=by
 rw [y03 yh0]
 obtain ⟨n,rfl⟩:∃k,n=k+1:=⟨n-1,by omega⟩
 have da:=y10 ha.den
 have d1:=rdn h (by omega) (n:=n+1) (by omega)
 have hg:=y01 (yhp a.num (n:=n) (by omega)) (can1 (y1y _))
 have e1:(-a).num=-a.num:=Rat.neg_num a
 have e2:(-a).den=a.den:=Rat.neg_den a
 generalize-a=b at e1 e2 ⊢
 rw [←e1] at hg
 unfold rV
 rw [rC_eq b,e2]
 obtain ⟨e,y,rfl⟩:=h.cells
 unfold sV zC at d1 hg
 rw [Int.natAbs_natCast] at d1
 unfold zD at d1 hg ⊢
 simp only [go_sem,Fn.y13,d1,hg]
theorem yok (a b:Rat) {ca cb:List AV} (h:RQ a ca) (h':RQ b cb) {S T:Nat} (ha:SmQ S a) (hb:SmQ T b) (hS:S+T<2^35) {n:Nat} (hn:KR (S+T+1)+10≤n):evV E (n+1) Id.y0w [.agg ca,.agg cb]=some (rV (a+b)):=by
 rw [y03 yh6,Rat.add_def]
 have hK:=ybb (S+T+1)
 obtain ⟨n,rfl⟩:∃k,n=k+1:=⟨n-1,by omega⟩
 have da:=y10 ha.den
 have db:=y10 hb.den
 have na:=y10 ha.num
 have nb:=y10 hb.num
 have d1:=rdn h (by omega) (n:=n+1) (by omega)
 have d2:=rdn h' (by omega) (n:=n+1) (by omega)
 have m1:=y01 (y6h a.num (b.den:Int) (by omega) (by rw [Int.natAbs_natCast];omega) (n:=n) (by rw [Int.natAbs_natCast];omega)) (can2 (y1y _) (y1y _))
 have m2:=y01 (y6h b.num (a.den:Int) (by omega) (by rw [Int.natAbs_natCast];omega) (n:=n) (by rw [Int.natAbs_natCast];omega)) (can2 (y1y _) (y1y _))
 have m3:=y01 (y6h (a.den:Int) (b.den:Int) (by rw [Int.natAbs_natCast];omega) (by rw [Int.natAbs_natCast];omega) (n:=n) (by rw [Int.natAbs_natCast,Int.natAbs_natCast];omega)) (can2 (y1y _) (y1y _))
 have h1:(a.num*(b.den:Int)).natAbs<2^(S+T):=by rw [Int.natAbs_mul,Int.natAbs_natCast];exact y2j ha.num hb.den
 have h2:(b.num*(a.den:Int)).natAbs<2^(S+T):=by rw [Int.natAbs_mul,Int.natAbs_natCast,Nat.add_comm];exact y2j hb.num ha.den
 have l1:=y10 h1
 have l2:=y10 h2
 have hz:=y01 (yva (a.num*(b.den:Int)) (b.num*(a.den:Int)) (by omega) (by omega) (n:=n) (by omega)) (can2 (y1y _) (y1y _))
 obtain ⟨s1,s2⟩:=yh8 ha hb
 have s2':((a.den:Int)*(b.den:Int)).natAbs<2^(S+T+1):=by rw [Int.natAbs_mul,Int.natAbs_natCast,Int.natAbs_natCast];exact s2
 have hp:(0:Int)<(a.den:Int)*(b.den:Int):=Int.mul_pos (by have:=a.den_pos;omega) (by have:=b.den_pos;omega)
 have hq:=y01 (ybc (a.num*(b.den:Int)+b.num*(a.den:Int)) ((a.den:Int)*(b.den:Int)) hp s1 s2' (by omega) (n:=n) (by omega) false _ _ (.inl ⟨rfl,rfl,rfl⟩)) (can2 (y1y _) (y1y _))
 have en:Rat.normalize (a.num*(b.den:Int)+b.num*(a.den:Int)) ((a.den:Int)*(b.den:Int)).natAbs (by omega)=Rat.normalize (a.num*(b.den:Int)+b.num*(a.den:Int)) (a.den*b.den) (Nat.mul_ne_zero a.den_nz b.den_nz):=by
  congr 1
 rw [en] at hq
 generalize Rat.normalize (a.num*(b.den:Int)+b.num*(a.den:Int)) (a.den*b.den) _=q at hq ⊢
 generalize a.num*(b.den:Int)+b.num*(a.den:Int)=p3 at hz hq
 generalize a.num*(b.den:Int)=p at m1 hz
 generalize b.num*(a.den:Int)=r at m2 hz
 generalize (a.den:Int)*(b.den:Int)=r3 at m3 hq
 obtain ⟨e,y,rfl⟩:=h.cells
 obtain ⟨e',y',rfl⟩:=h'.cells
 unfold rV at hq ⊢
 rw [rC_eq] at hq ⊢
 unfold sV zC at d1 d2 m1 m2 m3 hz hq
 rw [Int.natAbs_natCast] at d1 d2 m1 m2 m3
 try rw [Int.natAbs_natCast] at m3
 unfold zD at d1 d2 m1 m2 m3 hz hq ⊢
 simp only [go_sem,Fn.y0w,d1,d2,m1,m2,m3,hz,hq]
theorem ywo (a b:Rat) {ca cb:List AV} (h:RQ a ca) (h':RQ b cb) {S T:Nat} (ha:SmQ S a) (hb:SmQ T b) (hS:S+T<2^35) {n:Nat} (hn:KR (S+T+1)+12≤n):evV E (n+1) Id.y1l [.agg ca,.agg cb]=some (rV (a-b)):=by
 rw [y03 ygz]
 have hK:=ybb (S+T+1)
 obtain ⟨n,rfl⟩:∃k,n=k+1:=⟨n-1,by omega⟩
 have hg:=y01 (yob b h' hb (by omega) (n:=n) (by omega)) (can1 h'.can)
 have hq:=y01 (yok a (-b) h (RQ.self _) ha (SmQ.neg hb) hS (n:=n) (by omega)) (can2 h.can (y7l _))
 rw [←Rat.sub_eq_add_neg] at hq
 obtain ⟨e,y,rfl⟩:=h.cells
 obtain ⟨e',y',rfl⟩:=h'.cells
 unfold rV at hg hq ⊢
 rw [rC_eq (-b)] at hg hq
 rw [rC_eq (a-b)] at hq ⊢
 unfold zD at hg hq ⊢
 simp only [go_sem,Fn.y1l,hg,hq]
theorem yso (z w:Int) (hw:w≠0):ofQ z w hw=Rat.divInt z w:=by
 by_cases h:w<0
 ·rw [yri hw h,Rat.normalize_eq_mkRat,←Rat.divInt_ofNat,Rat.divInt_eq_divInt_iff (by omega) hw]
  have:(((-w).natAbs:Nat):Int)=-w:=by omega
  rw [this];grind
 ·rw [yrh hw h,Rat.normalize_eq_mkRat,←Rat.divInt_ofNat,Rat.divInt_eq_divInt_iff (by omega) hw]
  have:((w.natAbs:Nat):Int)=w:=by omega
  rw [this]
theorem yzo (a b:Rat) (hb:(a.den:Int)*b.num≠0):ofQ (a.num*(b.den:Int)) ((a.den:Int)*b.num) hb=a / b:=by
 rw [yso,Rat.div_def,Rat.inv_def]
 conv=>rhs;rw [←Rat.num_divInt_den a,Rat.divInt_mul_divInt]
theorem yzc (a b:Rat) (h0:b.num≠0) {ca cb:List AV} (h:RQ a ca) (h':RQ b cb) {S T:Nat} (ha:SmQ S a) (hb:SmQ T b) (hS:S+T<2^35) {n:Nat} (hn:KR (S+T)+10≤n):evV E (n+1) Id.y2l [.agg ca,.agg cb]=some (rV (a / b)):=by
 have hw:(a.den:Int)*b.num≠0:=Int.mul_ne_zero (by have:=a.den_nz;omega) h0
 rw [y03 yi3,←yzo a b hw]
 have hK:=ybb (S+T)
 obtain ⟨n,rfl⟩:∃k,n=k+1:=⟨n-1,by omega⟩
 have da:=y10 ha.den
 have db:=y10 hb.den
 have na:=y10 ha.num
 have nb:=y10 hb.num
 have d1:=rdn h (by omega) (n:=n+1) (by omega)
 have d2:=rdn h' (by omega) (n:=n+1) (by omega)
 have m1:=y01 (y6h a.num (b.den:Int) (by omega) (by rw [Int.natAbs_natCast];omega) (n:=n) (by rw [Int.natAbs_natCast];omega)) (can2 (y1y _) (y1y _))
 have m2:=y01 (y6h (a.den:Int) b.num (by rw [Int.natAbs_natCast];omega) (by omega) (n:=n) (by rw [Int.natAbs_natCast];omega)) (can2 (y1y _) (y1y _))
 have h1:(a.num*(b.den:Int)).natAbs<2^(S+T):=by rw [Int.natAbs_mul,Int.natAbs_natCast];exact y2j ha.num hb.den
 have h2:((a.den:Int)*b.num).natAbs<2^(S+T):=by rw [Int.natAbs_mul,Int.natAbs_natCast];exact y2j ha.den hb.num
 have hq:=y01 (yn2 (a.num*(b.den:Int)) ((a.den:Int)*b.num) hw h1 h2 (by omega) (n:=n) (by omega)) (can2 (y1y _) (y1y _))
 generalize ofQ (a.num*(b.den:Int)) ((a.den:Int)*b.num) hw=q at hq ⊢
 generalize a.num*(b.den:Int)=p at m1 hq
 generalize (a.den:Int)*b.num=r at m2 hq
 obtain ⟨e,y,rfl⟩:=h.cells
 obtain ⟨e',y',rfl⟩:=h'.cells
 unfold rV at hq ⊢
 rw [rC_eq] at hq ⊢
 unfold sV zC at d1 d2 m1 m2 hq
 rw [Int.natAbs_natCast] at d1 d2 m1 m2
 unfold zD at d1 d2 m1 m2 hq ⊢
 simp only [go_sem,Fn.y2l,d1,d2,m1,m2,hq]
theorem ywm (z:Int) (h1:-9223372036854775808≤z) (h2:z<9223372036854775808) {n:Nat} (hn:12≤n):evV E (n+1) Id.y24 [.one (.int .i64 z)]=some (rV (Rat.ofInt z)):=by
 rw [y03 yh9]
 obtain ⟨n,rfl⟩:∃k,n=k+1:=⟨n-1,by omega⟩
 have z1:=y01 (y94 z h1 h2 (n:=n) (by omega)) (can1 (y26 _ _))
 have z2:=y01 (y94 1 (by decide) (by decide) (n:=n) (by omega)) (can1 (y26 _ _))
 unfold rV
 rw [rC_eq]
 have e1:(Rat.ofInt z).num=z:=rfl
 have e2:(Rat.ofInt z).den=1:=rfl
 rw [e1,e2]
 have e3:(((1:Nat):Int))=1:=rfl
 have e4:(1:Int).natAbs=1:=rfl
 unfold sV zC at z1 z2
 rw [e3]
 rw [e4] at z2
 unfold zD at z1 z2 ⊢
 simp only [go_sem,Fn.y24,z1,z2]
end Go.Ev
namespace Go.Ev
open Go.Dig
theorem yw7 (a b:Rat) {ca cb:List AV} (h:RQ a ca) (h':RQ b cb) {S T:Nat} (ha:SmQ S a) (hb:SmQ T b) (hS:S+T<2^36) {n:Nat} (hn:KR (S+T)+4≤n):evV E (n+1) Id.y09 [.agg ca,.agg cb]=some (rV (a*b)):=by
 rw [y03 ybi,Rat.mul_def]
 have hK:=ybb (S+T)
 obtain ⟨n,rfl⟩:∃k,n=k+1:=⟨n-1,by omega⟩
 have da:=y10 ha.den
 have db:=y10 hb.den
 have na:=y10 ha.num
 have nb:=y10 hb.num
 have d1:=rdn h (by omega) (n:=n+1) (by omega)
 have d2:=rdn h' (by omega) (n:=n+1) (by omega)
 have m1:=y01 (y6h a.num b.num (by omega) (by omega) (n:=n) (by omega)) (can2 (y1y _) (y1y _))
 have m2:=y01 (y6h (a.den:Int) (b.den:Int) (by rw [Int.natAbs_natCast];omega) (by rw [Int.natAbs_natCast];omega) (n:=n) (by rw [Int.natAbs_natCast,Int.natAbs_natCast];omega)) (can2 (y1y _) (y1y _))
 have h1:(a.num*b.num).natAbs<2^(S+T):=by rw [Int.natAbs_mul];exact y2j ha.num hb.num
 have h2:((a.den:Int)*(b.den:Int)).natAbs<2^(S+T):=by
  rw [Int.natAbs_mul,Int.natAbs_natCast,Int.natAbs_natCast];exact y2j ha.den hb.den
 have hp:(0:Int)<(a.den:Int)*(b.den:Int):=Int.mul_pos (by have:=a.den_pos;omega) (by have:=b.den_pos;omega)
 have hq:=y01 (ybc (a.num*b.num) ((a.den:Int)*(b.den:Int)) hp h1 h2 (by omega) (n:=n) (by omega) false _ _ (.inl ⟨rfl,rfl,rfl⟩)) (can2 (y1y _) (y1y _))
 have en:Rat.normalize (a.num*b.num) ((a.den:Int)*(b.den:Int)).natAbs (by omega)=Rat.normalize (a.num*b.num) (a.den*b.den) (Nat.mul_ne_zero a.den_nz b.den_nz):=by
  congr 1
 rw [en] at hq
 generalize Rat.normalize (a.num*b.num) (a.den*b.den) _=q at hq ⊢
 generalize a.num*b.num=p at m1 hq
 generalize (a.den:Int)*(b.den:Int)=r at m2 hq
 obtain ⟨e,y,rfl⟩:=h.cells
 obtain ⟨e',y',rfl⟩:=h'.cells
 unfold rV at hq ⊢
 rw [rC_eq] at hq ⊢
 unfold sV zC at d1 d2 m1 m2 hq
 rw [Int.natAbs_natCast] at d1 d2
 rw [Int.natAbs_natCast,Int.natAbs_natCast] at m2
 unfold zD at d1 d2 m1 m2 hq ⊢
 simp only [go_sem,Fn.y09,d1,d2,m1,m2,hq]
end Go.Ev
namespace Go.Ev
open Go.Dig
theorem rC4 (q:Rat):∃a b c d,rC q=[a,b,c,d]:=⟨_,_,_,_,rC_eq q⟩
end Go.Ev
namespace Go.Ev
open Go.Dig
def RW (q:Rat) (cs:List AV):Prop:=RQ q cs∨(q=0∧cs=[.bool false,.nils,.bool false,.nils])
theorem RQ.w {q:Rat} {cs:List AV} (h:RQ q cs):RW q cs:=.inl h
theorem RW.self (q:Rat):RW q (rC q):=.inl (.self q)
theorem RW.zero:RW 0 [.bool false,.nils,.bool false,.nils]:=.inr ⟨rfl,rfl⟩
theorem RW.fz {q:Rat} {cs:List AV} (h:RW q cs):∃cs',RQ q cs'∧FzS (.agg cs) (.agg cs'):=by
 rcases h with h | ⟨rfl,rfl⟩
 ·exact ⟨cs,h,h.can.fzs⟩
 ·exact ⟨[.bool false,.sl false [],.bool false,.sl false []],.inr ⟨rfl,rfl⟩,fun ob fz=>rfl⟩
theorem RW.cells4 {q:Rat} {cs:List AV} (h:RW q cs):∃a b c d,cs=[a,b,c,d]:=by
 rcases h with (rfl | ⟨-,rfl⟩) | ⟨-,rfl⟩
 ·exact rC4 q
 ·exact ⟨_,_,_,_,rfl⟩
 ·exact ⟨_,_,_,_,rfl⟩
theorem y84 {f:FuncId} {xs ys:List SV} {r:SV} {n:Nat} (h:evV E n f ys=some r) (hx:∀(ob:Nat→Option AObj) (fz:Nat→Nat),mapFz (frzS ob) fz xs=some (fz,ys)) (ob:Nat→Option AObj) (fz:Nat→Nat):callV (evF E n) f xs ob fz=some (.fzd fz r):=by
 rw [y68,hx]
 simp only [h,Option.map_some]
section
variable {a b:Rat} {ca cb:List AV} {S T:Nat}
theorem yx0 (S T:Nat) (hS:S+T<2^35):∃N,∀(a b:Rat) (ca cb:List AV),RW a ca→RW b cb→SmQ S a→SmQ T b→∀n,N≤n→∀(ob:Nat→Option AObj) (fz:Nat→Nat),callV (evF E n) Id.y0w [.agg ca,.agg cb] ob fz=some (.fzd fz (.agg (rC (a+b)))):=
 ⟨KR (S+T+1)+11,fun a b ca cb ha hb sa sb n hn ob fz=>by
  obtain ⟨m,rfl⟩:∃m,n=m+1:=⟨n-1,by omega⟩
  obtain ⟨ca',ha,fa⟩:=ha.fz
  obtain ⟨cb',hb,fb⟩:=hb.fz
  exact y84 (yok a b ha hb sa sb hS (n:=m) (by omega)) (fa.two fb) ob fz⟩
theorem y7v (h:RW a ca) (h':RW b cb) (ha:SmQ S a) (hb:SmQ T b) (hS:S+T<2^35):Calling Id.y0w [.agg ca,.agg cb] (.agg (rC (a+b))):=by
 obtain ⟨N,hN⟩:=yx0 S T hS
 exact ⟨N,hN a b ca cb h h' ha hb⟩
theorem yyy (S T:Nat) (hS:S+T<2^35):∃N,∀(a b:Rat) (ca cb:List AV),RW a ca→RW b cb→SmQ S a→SmQ T b→∀n,N≤n→∀(ob:Nat→Option AObj) (fz:Nat→Nat),callV (evF E n) Id.y1l [.agg ca,.agg cb] ob fz=some (.fzd fz (.agg (rC (a-b)))):=
 ⟨KR (S+T+1)+13,fun a b ca cb ha hb sa sb n hn ob fz=>by
  obtain ⟨m,rfl⟩:∃m,n=m+1:=⟨n-1,by omega⟩
  obtain ⟨ca',ha,fa⟩:=ha.fz
  obtain ⟨cb',hb,fb⟩:=hb.fz
  exact y84 (ywo a b ha hb sa sb hS (n:=m) (by omega)) (fa.two fb) ob fz⟩
theorem y8m (h:RW a ca) (h':RW b cb) (ha:SmQ S a) (hb:SmQ T b) (hS:S+T<2^35):Calling Id.y1l [.agg ca,.agg cb] (.agg (rC (a-b))):=by
 obtain ⟨N,hN⟩:=yyy S T hS
 exact ⟨N,hN a b ca cb h h' ha hb⟩
theorem ynn (S T:Nat) (hS:S+T<2^36):∃N,∀(a b:Rat) (ca cb:List AV),RW a ca→RW b cb→SmQ S a→SmQ T b→∀n,N≤n→∀(ob:Nat→Option AObj) (fz:Nat→Nat),callV (evF E n) Id.y09 [.agg ca,.agg cb] ob fz=some (.fzd fz (.agg (rC (a*b)))):=
 ⟨KR (S+T)+5,fun a b ca cb ha hb sa sb n hn ob fz=>by
  obtain ⟨m,rfl⟩:∃m,n=m+1:=⟨n-1,by omega⟩
  obtain ⟨ca',ha,fa⟩:=ha.fz
  obtain ⟨cb',hb,fb⟩:=hb.fz
  exact y84 (yw7 a b ha hb sa sb hS (n:=m) (by omega)) (fa.two fb) ob fz⟩
theorem y5t (h:RW a ca) (h':RW b cb) (ha:SmQ S a) (hb:SmQ T b) (hS:S+T<2^36):Calling Id.y09 [.agg ca,.agg cb] (.agg (rC (a*b))):=by
 obtain ⟨N,hN⟩:=ynn S T hS
 exact ⟨N,hN a b ca cb h h' ha hb⟩
theorem yz4 (S T:Nat) (hS:S+T<2^35):∃N,∀(a b:Rat) (ca cb:List AV),b.num≠0→RW a ca→RW b cb→SmQ S a→SmQ T b→∀n,N≤n→∀(ob:Nat→Option AObj) (fz:Nat→Nat),callV (evF E n) Id.y2l [.agg ca,.agg cb] ob fz=some (.fzd fz (.agg (rC (a / b)))):=
 ⟨KR (S+T)+11,fun a b ca cb h0 ha hb sa sb n hn ob fz=>by
  obtain ⟨m,rfl⟩:∃m,n=m+1:=⟨n-1,by omega⟩
  obtain ⟨ca',ha,fa⟩:=ha.fz
  obtain ⟨cb',hb,fb⟩:=hb.fz
  exact y84 (yzc a b h0 ha hb sa sb hS (n:=m) (by omega)) (fa.two fb) ob fz⟩
theorem ybw (h0:b.num≠0) (h:RW a ca) (h':RW b cb) (ha:SmQ S a) (hb:SmQ T b) (hS:S+T<2^35):Calling Id.y2l [.agg ca,.agg cb] (.agg (rC (a / b))):=by
 obtain ⟨N,hN⟩:=yz4 S T hS
 exact ⟨N,hN a b ca cb h0 h h' ha hb⟩
theorem yuc (S T:Nat) (hS:S+T<2^36):∃N,∀(a b:Rat) (ca cb:List AV),RW a ca→RW b cb→SmQ S a→SmQ T b→∀n,N≤n→∀(ob:Nat→Option AObj) (fz:Nat→Nat),callV (evF E n) Id.y0b [.agg ca,.agg cb] ob fz=some (.fzd fz (.one (.int .i64 (cmpQ a b)))):=
 ⟨2*(S+T)+21,fun a b ca cb ha hb sa sb n hn ob fz=>by
  obtain ⟨m,rfl⟩:∃m,n=m+1:=⟨n-1,by omega⟩
  obtain ⟨ca',ha,fa⟩:=ha.fz
  obtain ⟨cb',hb,fb⟩:=hb.fz
  exact y84 (yz3 a b ha hb sa sb hS (n:=m) (by omega)) (fa.two fb) ob fz⟩
theorem y6f (h:RW a ca) (h':RW b cb) (ha:SmQ S a) (hb:SmQ T b) (hS:S+T<2^36):Calling Id.y0b [.agg ca,.agg cb] (.one (.int .i64 (cmpQ a b))):=by
 obtain ⟨N,hN⟩:=yuc S T hS
 exact ⟨N,hN a b ca cb h h' ha hb⟩
theorem yym (S:Nat) (hS:S<2^36):∃N,∀(a:Rat) (ca:List AV),RW a ca→SmQ S a→∀n,N≤n→∀(ob:Nat→Option AObj) (fz:Nat→Nat),callV (evF E n) Id.y13 [.agg ca] ob fz=some (.fzd fz (.agg (rC (-a)))):=
 ⟨21,fun a ca ha sa n hn ob fz=>by
  obtain ⟨m,rfl⟩:∃m,n=m+1:=⟨n-1,by omega⟩
  obtain ⟨ca',ha,fa⟩:=ha.fz
  exact y84 (yob a ha sa hS (n:=m) (by omega)) fa.one ob fz⟩
theorem y7w (h:RW a ca) (ha:SmQ S a) (hS:S<2^36):Calling Id.y13 [.agg ca] (.agg (rC (-a))):=by
 obtain ⟨N,hN⟩:=yym S hS
 exact ⟨N,hN a ca h ha⟩
theorem yvz (S:Nat) (hS:S<2^36):∃N,∀(a:Rat) (ca:List AV),RW a ca→SmQ S a→∀n,N≤n→∀(ob:Nat→Option AObj) (fz:Nat→Nat),callV (evF E n) Id.y0f [.agg ca] ob fz=some (.fzd fz (.one (.int .i64 (signI a.num)))):=
 ⟨S+21,fun a ca ha sa n hn ob fz=>by
  obtain ⟨m,rfl⟩:∃m,n=m+1:=⟨n-1,by omega⟩
  obtain ⟨ca',ha,fa⟩:=ha.fz
  exact y84 (ywf a ha sa hS (n:=m) (by omega)) fa.one ob fz⟩
theorem y6y (h:RW a ca) (ha:SmQ S a) (hS:S<2^36):Calling Id.y0f [.agg ca] (.one (.int .i64 (signI a.num))):=by
 obtain ⟨N,hN⟩:=yvz S hS
 exact ⟨N,hN a ca h ha⟩
theorem ya8 (z:Int) (h1:-9223372036854775808≤z) (h2:z<9223372036854775808):Calling Id.y24 [.one (.int .i64 z)] (.agg (rC (Rat.ofInt z))):=
 (Ends.of 12 fun {n} hn=>ywm z h1 h2 hn:Ends Id.y24 [.one (.int .i64 z)] (.agg (rC (Rat.ofInt z)))).call (can1 (y26 _ _))
end
end Go.Ev
namespace Go.Ev
open Go.Dig
theorem RQ.len4 {q:Rat} {c:List AV} (h:RQ q c):c.length=4:=by
 obtain ⟨e,y,rfl⟩:=h.cells;rfl
def mmS (es:List (List AV)) (i:Nat) (X:List (Nat×SV)):List (Nat×SV):=(0,.one (.sl false es))::(2,.one (.box 0 0))::(3,.one (.box 1 0))::(4,.one (.int .i64 (i:Int)))::X
theorem yp1 {n:Nat} {ob:Nat→Option AObj} {fz:Nat→Nat} {es:List (List AV)} {i:Nat} {c m:List AV} (g:es[i]? =some c) (o4:okSz 4 es=true) (hl:es.length<2^20) (lc:c.length=4) (lm:m.length=4) (o1:ob 1=some (.box m)) (X:List (Nat×SV)) (t:Bool)
  (ht:(i=0∧t=true)∨(i≠0∧∃z:Int,(∀ob fz,callV (evF E n) Id.y0b [.agg c,.agg m] ob fz=some (.fzd fz (.one (.int .i64 z))))∧t=decide (z>0))):
  evC (evF E n) n Fn.y4v ⟨env (mmS es i X),ob,fz,2⟩=some (.nrm,⟨env (mmS es (i+1) []),if t=true then upd ob 1 (.box c) else ob,fz,2⟩):=by
 have hi:i<es.length:=(List.getElem?_eq_some_iff.1 g).1
 have lt:(((i:Nat):Int)<((es.length:Nat):Int))=True:=by simp only [eq_iff_iff,iff_true];omega
 have li:(i<es.length)=True:=by simp only [eq_iff_iff,iff_true];omega
 have wk:IntKind.i64.wrap ((i+1:Nat):Int)=((i+1:Nat):Int):=wi64 (by omega)
 have sm:sub m 0 4=some m:=by have:=y75 (l:=[]) lm;rwa [List.append_nil] at this
 have sc:sub c 0 4=some c:=by have:=y75 (l:=[]) lc;rwa [List.append_nil] at this
 have pm:put m 0 c=some c:=y73 (by rw [lm,lc])
 unfold mmS
 rcases ht with ⟨h0,rfl⟩ | ⟨h0,z,k,rfl⟩
 ·have f0:(((i:Nat):Int)==0)=true:=by simp;omega
  rw [if_pos rfl]
  simp only [go_sem,Fn.y4v,lt,li,g,o4,o1,f0,↓sm,↓sc,↓pm,lc,add1,wk]
 ·have f0:(((i:Nat):Int)==0)=false:=by simp;omega
  by_cases hz:z>0
  ·have fz':(z>0)=True:=by simp only [eq_iff_iff,iff_true];exact hz
   rw [if_pos (decide_eq_true hz)]
   simp only [go_sem,Fn.y4v,lt,li,g,o4,o1,f0,k,fz',↓sm,↓sc,↓pm,lc,add1,wk]
  ·have fz':(z>0)=False:=by simp only [eq_iff_iff,iff_false];exact hz
   rw [if_neg (by rw [decide_eq_false hz];decide)]
   simp only [go_sem,Fn.y4v,lt,li,g,o4,o1,f0,k,fz',↓sm,↓sc,↓pm,lc,add1,wk]
theorem yey {a b:Rat} {ca cb:List AV} (ha:RQ a ca) (hb:RQ b cb) {S T:Nat} (sa:SmQ S a) (sb:SmQ T b) (hS:T+S<2^36):Ends Id.y0k [.one (.sl false [ca,cb])] (.agg (if cmpQ b a>0 then cb else ca)):=by
 obtain ⟨N1,k1⟩:=y6f hb.w ha.w sb sa hS
 refine .of (N1+4) fun {n} hn=> ?_
 have k1:=k1 n (by omega)
 have la:=ha.len4
 have lb:=hb.len4
 obtain ⟨es,hes⟩:∃es,es=[ca,cb]:=⟨_,rfl⟩
 have g0:es[0]? =some ca:=by rw [hes];rfl
 have g1:es[1]? =some cb:=by rw [hes];rfl
 have hl:es.length=2:=by rw [hes];rfl
 have o4:okSz 4 es=true:=by rw [hes];simp [okSz,la]
 rw [←hes]
 have key:∀(ob:Nat→Option AObj),ob 1=some (.box [.bool false,.nils,.bool false,.nils])→ob 0=some (.box [.bool false,.nils,.bool false,.nils])→finV [.cell 2 true 4] (thenC (evF E n) n (tailAt 3 Fn.y0k.code) (blkC 0 (loopN (evC (evF E n) n Fn.y4v) n ⟨env (mmS es 0 []),ob,fz0,2⟩)))=some (.agg (if cmpQ b a>0 then cb else ca)):=by
  intro ob o1 o0
  have r0:=yp1 (n:=n) (fz:=fz0) g0 o4 (by omega) la rfl o1 [] true (.inl ⟨rfl,rfl⟩)
  rw [if_pos rfl] at r0
  have r1:=yp1 (n:=n) (fz:=fz0) (ob:=upd ob 1 (.box ca)) g1 o4 (by omega) lb la (upd_same _ _ _) [] (decide (cmpQ b a>0)) (.inr ⟨by decide,_,k1,rfl⟩)
  have r2:∀ob,evC (evF E n) n Fn.y4v ⟨env (mmS es 2 []),ob,fz0,2⟩=some (.ext 0,⟨env (mmS es 2 [(8,.one (.bool false))]),ob,fz0,2⟩):=by
   intro ob
   have lt:(((2:Nat):Int)<((es.length:Nat):Int))=False:=by rw [hl];simp
   unfold mmS
   simp only [go_sem,Fn.y4v,lt]
  have z4:∀c:List AV,c.length=4→put [.bool false,.nils,.bool false,.nils] 0 c=some c:=fun c h=>y73 (by rw [h];rfl)
  have s4:∀c:List AV,c.length=4→sub c 0 4=some c:=fun c h=>by have:=y75 (l:=[]) h;rwa [List.append_nil] at this
  obtain ⟨k,rfl⟩:∃k,n=k+3:=⟨n-3,by omega⟩
  rw [y07 r0,y07 r1,y06 (r2 _),y7c,if_pos rfl,y4u]
  have fa:∀ob fz,frzS ob fz (.agg ca)=some (fz,.agg ca):=ha.can.fzs
  have fb:∀ob fz,frzS ob fz (.agg cb)=some (fz,.agg cb):=hb.can.fzs
  unfold mmS
  by_cases c:cmpQ b a>0
  ·rw [if_pos (decide_eq_true c),if_pos c]
   have za:=z4 cb lb
   have sa:=s4 cb lb
   have o0':upd (upd ob 1 (.box ca)) 1 (.box cb) 0=ob 0:=by rw [y00 (by decide),y00 (by decide)]
   simp only [go_sem,tailAt,Fn.y0k,o0,↓za,↓sa,lb,fb]
  ·rw [if_neg (by rw [decide_eq_false c];decide),if_neg c]
   have za:=z4 ca la
   have sa:=s4 ca la
   simp only [go_sem,tailAt,Fn.y0k,o0,↓za,↓sa,la,fa]
 rw [y03 yhy,show Fn.y0k.code=cutAt 3 Fn.y0k.code (tailAt 3 Fn.y0k.code) from rfl]
 generalize tailAt 3 Fn.y0k.code=T' at key ⊢
 unfold mmS at key
 rw [show (((0:Nat)):Int)=0 from rfl] at key
 simp only [go_sem,cutAt,Fn.y0k]
 exact key _ rfl rfl
theorem yns {n:Nat} {ob:Nat→Option AObj} {fz:Nat→Nat} {es:List (List AV)} {i:Nat} {c m:List AV} (g:es[i]? =some c) (o4:okSz 4 es=true) (hl:es.length<2^20) (lc:c.length=4) (lm:m.length=4) (o1:ob 1=some (.box m)) (X:List (Nat×SV)) (t:Bool)
  (ht:(i=0∧t=true)∨(i≠0∧∃z:Int,(∀ob fz,callV (evF E n) Id.y0b [.agg c,.agg m] ob fz=some (.fzd fz (.one (.int .i64 z))))∧t=decide (z<0))):
  evC (evF E n) n Fn.y4t ⟨env (mmS es i X),ob,fz,2⟩=some (.nrm,⟨env (mmS es (i+1) []),if t=true then upd ob 1 (.box c) else ob,fz,2⟩):=by
 have hi:i<es.length:=(List.getElem?_eq_some_iff.1 g).1
 have lt:(((i:Nat):Int)<((es.length:Nat):Int))=True:=by simp only [eq_iff_iff,iff_true];omega
 have li:(i<es.length)=True:=by simp only [eq_iff_iff,iff_true];omega
 have wk:IntKind.i64.wrap ((i+1:Nat):Int)=((i+1:Nat):Int):=wi64 (by omega)
 have sm:sub m 0 4=some m:=by have:=y75 (l:=[]) lm;rwa [List.append_nil] at this
 have sc:sub c 0 4=some c:=by have:=y75 (l:=[]) lc;rwa [List.append_nil] at this
 have pm:put m 0 c=some c:=y73 (by rw [lm,lc])
 unfold mmS
 rcases ht with ⟨h0,rfl⟩ | ⟨h0,z,k,rfl⟩
 ·have f0:(((i:Nat):Int)==0)=true:=by simp;omega
  rw [if_pos rfl]
  simp only [go_sem,Fn.y4t,lt,li,g,o4,o1,f0,↓sm,↓sc,↓pm,lc,add1,wk]
 ·have f0:(((i:Nat):Int)==0)=false:=by simp;omega
  by_cases hz:z<0
  ·have fz':(z<0)=True:=by simp only [eq_iff_iff,iff_true];exact hz
   rw [if_pos (decide_eq_true hz)]
   simp only [go_sem,Fn.y4t,lt,li,g,o4,o1,f0,k,fz',↓sm,↓sc,↓pm,lc,add1,wk]
  ·have fz':(z<0)=False:=by simp only [eq_iff_iff,iff_false];exact hz
   rw [if_neg (by rw [decide_eq_false hz];decide)]
   simp only [go_sem,Fn.y4t,lt,li,g,o4,o1,f0,k,fz',↓sm,↓sc,↓pm,lc,add1,wk]
theorem yky {a b:Rat} {ca cb:List AV} (ha:RQ a ca) (hb:RQ b cb) {S T:Nat} (sa:SmQ S a) (sb:SmQ T b) (hS:T+S<2^36):Ends Id.y0x [.one (.sl false [ca,cb])] (.agg (if cmpQ b a<0 then cb else ca)):=by
 obtain ⟨N1,k1⟩:=y6f hb.w ha.w sb sa hS
 refine .of (N1+4) fun {n} hn=> ?_
 have k1:=k1 n (by omega)
 have la:=ha.len4
 have lb:=hb.len4
 obtain ⟨es,hes⟩:∃es,es=[ca,cb]:=⟨_,rfl⟩
 have g0:es[0]? =some ca:=by rw [hes];rfl
 have g1:es[1]? =some cb:=by rw [hes];rfl
 have hl:es.length=2:=by rw [hes];rfl
 have o4:okSz 4 es=true:=by rw [hes];simp [okSz,la]
 rw [←hes]
 have key:∀(ob:Nat→Option AObj),ob 1=some (.box [.bool false,.nils,.bool false,.nils])→ob 0=some (.box [.bool false,.nils,.bool false,.nils])→finV [.cell 2 true 4] (thenC (evF E n) n (tailAt 3 Fn.y0x.code) (blkC 0 (loopN (evC (evF E n) n Fn.y4t) n ⟨env (mmS es 0 []),ob,fz0,2⟩)))=some (.agg (if cmpQ b a<0 then cb else ca)):=by
  intro ob o1 o0
  have r0:=yns (n:=n) (fz:=fz0) g0 o4 (by omega) la rfl o1 [] true (.inl ⟨rfl,rfl⟩)
  rw [if_pos rfl] at r0
  have r1:=yns (n:=n) (fz:=fz0) (ob:=upd ob 1 (.box ca)) g1 o4 (by omega) lb la (upd_same _ _ _) [] (decide (cmpQ b a<0)) (.inr ⟨by decide,_,k1,rfl⟩)
  have r2:∀ob,evC (evF E n) n Fn.y4t ⟨env (mmS es 2 []),ob,fz0,2⟩=some (.ext 0,⟨env (mmS es 2 [(8,.one (.bool false))]),ob,fz0,2⟩):=by
   intro ob
   have lt:(((2:Nat):Int)<((es.length:Nat):Int))=False:=by rw [hl];simp
   unfold mmS
   simp only [go_sem,Fn.y4t,lt]
  have z4:∀c:List AV,c.length=4→put [.bool false,.nils,.bool false,.nils] 0 c=some c:=fun c h=>y73 (by rw [h];rfl)
  have s4:∀c:List AV,c.length=4→sub c 0 4=some c:=fun c h=>by have:=y75 (l:=[]) h;rwa [List.append_nil] at this
  obtain ⟨k,rfl⟩:∃k,n=k+3:=⟨n-3,by omega⟩
  rw [y07 r0,y07 r1,y06 (r2 _),y7c,if_pos rfl,y4u]
  have fa:∀ob fz,frzS ob fz (.agg ca)=some (fz,.agg ca):=ha.can.fzs
  have fb:∀ob fz,frzS ob fz (.agg cb)=some (fz,.agg cb):=hb.can.fzs
  unfold mmS
  by_cases c:cmpQ b a<0
  ·rw [if_pos (decide_eq_true c),if_pos c]
   have za:=z4 cb lb
   have sa:=s4 cb lb
   have o0':upd (upd ob 1 (.box ca)) 1 (.box cb) 0=ob 0:=by rw [y00 (by decide),y00 (by decide)]
   simp only [go_sem,tailAt,Fn.y0x,o0,↓za,↓sa,lb,fb]
  ·rw [if_neg (by rw [decide_eq_false c];decide),if_neg c]
   have za:=z4 ca la
   have sa:=s4 ca la
   simp only [go_sem,tailAt,Fn.y0x,o0,↓za,↓sa,la,fa]
 rw [y03 yh7,show Fn.y0x.code=cutAt 3 Fn.y0x.code (tailAt 3 Fn.y0x.code) from rfl]
 generalize tailAt 3 Fn.y0x.code=T' at key ⊢
 unfold mmS at key
 rw [show (((0:Nat)):Int)=0 from rfl] at key
 simp only [go_sem,cutAt,Fn.y0x]
 exact key _ rfl rfl
theorem y13y (a b:Rat) {S T:Nat} (sa:SmQ S a) (sb:SmQ T b) (hS:T+S<2^36):Ends Id.y0k [.one (.sl false [rC a,rC b])] (.agg (rC (maxQ a b))):=by
 have:=yey (RQ.self a) (RQ.self b) sa sb hS
 unfold maxQ
 split<;>rename_i c
 ·rwa [if_pos c] at this
 ·rwa [if_neg c] at this
theorem y13t (a b:Rat) {S T:Nat} (sa:SmQ S a) (sb:SmQ T b) (hS:T+S<2^36):Ends Id.y0x [.one (.sl false [rC a,rC b])] (.agg (rC (minQ a b))):=by
 have:=yky (RQ.self a) (RQ.self b) sa sb hS
 unfold minQ
 split<;>rename_i c
 ·rwa [if_pos c] at this
 ·rwa [if_neg c] at this
theorem yac {f:FuncId} {ca cb fa fb:List AV} {r:SV} (h:Ends f [.one (.sl false [fa,fb])] r) (ha:∀ob fz,mapFz (Ev.frz ob (6+1)) fz ca=some (fz,fa)) (hb:∀ob fz,mapFz (Ev.frz ob (6+1)) fz cb=some (fz,fb)):∃N,∀n,N≤n→∀(ob:Nat→Option AObj) (fz:Nat→Nat) (id:Nat),
  callV (evF E n) f [.one (.rsl id 0 4 0 2 false)] (upd ob id (.row 4 [ca,cb] 0)) fz=some (.fzd (raise fz id 2) r):=by
 obtain ⟨N,h⟩:=h
 refine ⟨N,fun n hn ob fz id=> ?_⟩
 rw [y68]
 have hr:rowAt (upd ob id (.row 4 [ca,cb] 0)) id 0=some (4,[ca,cb]):=by
  simp only [rowAt,upd_same]
  rfl
 have h1:frzS (upd ob id (.row 4 [ca,cb] 0)) fz (.one (.rsl id 0 4 0 2 false))=some (raise fz id 2,.one (.sl false [fa,fb])):=by
  have:Ev.frz (upd ob id (.row 4 [ca,cb] 0)) DEPTH fz (.rsl id 0 4 0 2 false)=some (raise fz id 2,.sl false [fa,fb]):=by
   rw [show DEPTH=6+1+1 from rfl,y9c,hr]
   show (match mapFz (mapFz (Ev.frz (upd ob id (.row 4 [ca,cb] 0)) (6+1))) (raise fz id 2) [ca,cb] with | some (fz',es')=>some (fz',AV.sl false es') | none=>none)=_
   simp only [mapFz,ha,hb]
  simp only [frzS,this]
 simp only [mapFz,h1,h n hn,Option.map_some]
theorem ybj (q:Rat) (ob:Nat→Option AObj) (fz:Nat→Nat):mapFz (Ev.frz ob (6+1)) fz (rC q)=some (fz,rC q):=y5s _ fun x hx=>(CanL.r q x hx).frz ob 6 fz
theorem ync (q:Rat):(absQ q).num=(q.num.natAbs:Int)∧(absQ q).den=q.den:=by
 unfold absQ
 split
 ·exact ⟨by rw [Rat.neg_num];omega,Rat.neg_den q⟩
 ·exact ⟨by omega,rfl⟩
theorem yxb (q:Rat) {cq:List AV} (hq:RQ q cq) {S:Nat} (sq:SmQ S q) (hS:S<2^36) {n:Nat} (hn:21≤n):evV E (n+1) Id.y3f [.agg cq]=some (.agg (rC (absQ q))):=by
 rw [y03 yhc]
 obtain ⟨n,rfl⟩:∃k,n=k+1:=⟨n-1,by omega⟩
 have da:=y10 sq.den
 have d1:=rdn hq (by omega) (n:=n+1) (by omega)
 have h2:=y01 (yjl false q.num.natAbs n) (can2 (.one _ (.bool _)) (y3j _))
 have e:sV (sgn false q.num.natAbs)=.agg [.bool false,zD q.num.natAbs]:=by
  unfold sV zC sgn
  rw [if_neg (by decide),Int.natAbs_natCast,decide_eq_false (by omega)]
 have ed:sV (q.den:Int)=.agg [.bool false,zD q.den]:=by
  unfold sV zC
  rw [Int.natAbs_natCast,decide_eq_false (by omega)]
 have er:rC (absQ q)=[.bool false,zD q.num.natAbs,.bool false,zD q.den]:=by
  have hd:decide ((q.den:Int)<0)=false:=decide_eq_false (by omega)
  have hn:decide ((q.num.natAbs:Int)<0)=false:=decide_eq_false (by omega)
  rw [rC_eq,(ync q).1,(ync q).2,Int.natAbs_natCast,hn,hd]
 obtain ⟨x,y,rfl⟩:=hq.cells
 rw [e] at h2
 rw [ed] at d1
 rw [er]
 unfold zD at d1 h2 ⊢
 simp only [go_sem,Fn.y3f,d1,h2]
theorem ykq (q:Rat) {cq:List AV} (hq:RW q cq) {S:Nat} (sq:SmQ S q) (hS:S<2^36):Calling Id.y3f [.agg cq] (.agg (rC (absQ q))):=by
 obtain ⟨cq',hq',hf⟩:=hq.fz
 exact (Ends.of 21 fun {n} hn=>yxb q hq' sq hS (n:=n) hn).callF hf.one
end Go.Ev
namespace Go.Ev
theorem ysu (a b:Rat):CanonEs [qC a,qC b]:=fun e he x hx=>by
 have h:∀q:Rat,x∈qC q→Canon x:=fun q hx=>by
  unfold qC at hx
  simp only [List.mem_cons,List.not_mem_nil,or_false] at hx
  rcases hx with rfl | rfl | rfl
  ·exact .bool _
  ·exact .sl _
  ·exact .sl _
 simp only [List.mem_cons,List.not_mem_nil,or_false] at he
 rcases he with rfl | rfl<;>exact h _ hx
theorem ya2 {f:FuncId} {a b:Rat} {r:SV} (h:Ends f [.one (.sl false [qC a,qC b])] r):∃N,∀n,N≤n→∀(ob:Nat→Option AObj) (fz:Nat→Nat) (id:Nat),
  callV (evF E n) f [.one (.rsl id 0 3 0 2 false)] (upd ob id (.row 3 [qC a,qC b] 0)) fz=some (.fzd (raise fz id 2) r):=by
 obtain ⟨N,h⟩:=h
 refine ⟨N,fun n hn ob fz id=> ?_⟩
 rw [y68]
 have hr:rowAt (upd ob id (.row 3 [qC a,qC b] 0)) id 0=some (3,[qC a,qC b]):=by
  simp only [rowAt,upd_same]
  rfl
 have h1:=ydq (sz:=3) (full:=false) fz hr (lo:=0) (len:=2) (by simp) (ysu a b)
 simp only [List.drop_zero,Nat.zero_add] at h1
 rw [show ([qC a,qC b]:List (List AV)).take 2=[qC a,qC b] from rfl] at h1
 simp only [mapFz,h1,h n hn,Option.map_some]
def nextQ (m s v w f g:Rat):Rat:=maxQ (maxQ (-g) (v-s*m)) (minQ (minQ f (v+s*m)) (v+s*w))
def holdQ (m s v w f g:Rat):Rat:=(nextQ m s v w f g-v) / s
theorem ylx (a b c d e:Rat) (z:Int):∀x∈[SV.agg (qC a++(qC b++(qC c++qC d))),SV.agg (qC e),.one (.int .i64 z)],CanS x:=fun x hx=>by
 simp only [List.mem_cons,List.not_mem_nil,or_false] at hx
 rcases hx with rfl | rfl | rfl
 ·exact y8r _ _ _ _
 ·exact y22 _
 ·exact .one _ (.int _ _)
theorem yuq (l h m s p v w:Rat) (d:Int) (f g:Rat) {S T:Nat} (hm:SmQ S m) (hs:SmQ S s) (hv:SmQ S v) (hw:SmQ S w) (hf:SmQ T f) (hg:SmQ T g) (h0:s.num≠0) (hS:S<2^20) (hT:T<2^26)
  (kf:Ends Id.y0g [.agg (qC l++(qC h++(qC m++qC s))),.agg (qC p),.one (.int .i64 d)] (.agg (qC f)))
  (kg:Ends Id.y0g [.agg (qC (-h)++(qC (-l)++(qC m++qC s))),.agg (qC (-p)),.one (.int .i64 d)] (.agg (qC g))):
  Ends Id.y21 [.agg (qC l++(qC h++(qC m++qC s))),.agg (qC p),.agg (qC v),.agg (qC w),.one (.int .i64 d)] (.agg (qC (holdQ m s v w f g))):=by
 obtain ⟨N1,h1⟩:=kf.call (ylx _ _ _ _ _ _)
 obtain ⟨N2,h2⟩:=kg.call (ylx _ _ _ _ _ _)
 obtain ⟨N3,h3⟩:=cBrake l h m s hm hs (by omega)
 have hb:=hs.mul hm
 obtain ⟨N4,h4⟩:=cAdd v (s*m) hv hb (by omega)
 have t1:SmQ (T+4*S+4) (v+s*m):=(hv.add hb).mono (by omega)
 have t2:SmQ (T+4*S+4) (v-s*m):=(hv.sub hb).mono (by omega)
 have tf:SmQ (T+4*S+4) f:=hf.mono (by omega)
 have tg:SmQ (T+4*S+4) (-g):=hg.neg.mono (by omega)
 obtain ⟨N5,h5⟩:=ya2 (yhx f (v+s*m) tf t1 (by omega))
 obtain ⟨N6,h6⟩:=cTurned l h m s
 obtain ⟨N7,h7⟩:=cNeg p
 obtain ⟨N8,h8⟩:=cNeg g
 obtain ⟨N9,h9⟩:=cSub v (s*m) hv hb (by omega)
 obtain ⟨M1,i1⟩:=ya2 (yhw (-g) (v-s*m) tg t2 (by omega))
 obtain ⟨M2,i2⟩:=cMul s w hs hw (by omega)
 obtain ⟨M3,i3⟩:=cAdd v (s*w) hv (hs.mul hw) (by omega)
 have t3:SmQ (T+4*S+4) (v+s*w):=(hv.add (hs.mul hw)).mono (by omega)
 obtain ⟨M4,i4⟩:=ya2 (yhx (minQ f (v+s*m)) (v+s*w) (tf.min t1) t3 (by omega))
 obtain ⟨M5,i5⟩:=ya2 (yhw (maxQ (-g) (v-s*m)) (minQ (minQ f (v+s*m)) (v+s*w)) (tg.max t2) ((tf.min t1).min t3) (by omega))
 have tn:SmQ (T+4*S+4) (nextQ m s v w f g):=(tg.max t2).max ((tf.min t1).min t3)
 obtain ⟨M6,i6⟩:=cSub (nextQ m s v w f g) v tn hv (by omega)
 obtain ⟨M7,i7⟩:=cQuo (nextQ m s v w f g-v) s h0 (tn.sub hv) hs (by omega)
 refine Ends.of (N1+N2+N3+N4+N5+N6+N7+N8+N9+M1+M2+M3+M4+M5+M6+M7+1) fun {k} hk=> ?_
 rw [y03 ye5]
 unfold holdQ
 have h1:=h1 k (by omega)
 have h2:=h2 k (by omega)
 have h3:=h3 k (by omega)
 have h4:=h4 k (by omega)
 have h5:=h5 k (by omega)
 have h6:=h6 k (by omega)
 have h7:=h7 k (by omega)
 have h8:=h8 k (by omega)
 have h9:=h9 k (by omega)
 have i1:=i1 k (by omega)
 have i2:=i2 k (by omega)
 have i3:=i3 k (by omega)
 have i4:=i4 k (by omega)
 have i5:=i5 k (by omega)
 have i6:=i6 k (by omega)
 have i7:=i7 k (by omega)
 rw [show maxQ (maxQ (-g) (v-s*m)) (minQ (minQ f (v+s*m)) (v+s*w))=nextQ m s v w f g from rfl] at i5
 simp only [go_sem,Fn.y21,h1,h2,h3,h4,h5,h6,h7,h8,h9,i1,i2,i3,i4,i5,i6,i7]
end Go.Ev
namespace Go.Ev
theorem yct:qC 0=[.bool false,.sl false [],.sl false []]:=by
 have:=yit 0
 unfold qV at this
 have h:natV (0:Int).natAbs=.sl false []:=by
  show natV 0=_
  unfold natV
  rw [Go.Dig.digs_zero]
  rfl
 rw [h] at this
 exact SV.agg.inj this
theorem ylb (a b c d e f g:Rat) (z:Int):∀x∈[SV.agg (qC a++(qC b++(qC c++qC d))),SV.agg (qC e),SV.agg (qC f),SV.agg (qC g),.one (.int .i64 z)],CanS x:=fun x hx=>by
 simp only [List.mem_cons,List.not_mem_nil,or_false] at hx
 rcases hx with rfl | rfl | rfl | rfl | rfl
 ·exact y8r _ _ _ _
 ·exact y22 _
 ·exact y22 _
 ·exact y22 _
 ·exact .one _ (.int _ _)
theorem yzf (l h m s p v w:Rat) (d:Int) {S:Nat} (hl:SmQ S l) (hh:SmQ S h) (hS:S<2^20) (e:errR l h m s d≠0):
  Ends Id.y2k [.agg (qC l++(qC h++(qC m++qC s))),.agg (qC p),.agg (qC v),.agg (qC w),.one (.int .i64 d)] (.tup [.agg (qC 0),.one (.int .i64 (errR l h m s d))]):=by
 obtain ⟨N1,h1⟩:=cCheckR l h m s d hl hh hS
 refine Ends.of (N1+1) fun {k} hk=> ?_
 rw [y03 ya0,yct]
 have h1:=h1 k (by omega)
 have e':(errR l h m s d !=0)=true:=by simp [e]
 generalize errR l h m s d=er at h1 e e' ⊢
 simp only [go_sem,Fn.y2k,h1,e']
theorem ysh (l h m s p v w:Rat) (d:Int) {S:Nat} (hl:SmQ S l) (hh:SmQ S h) (hm:SmQ S m) (hs:SmQ S s) (hp:SmQ S p) (hv:SmQ S v) (hS:S<2^20) (e:errR l h m s d=0) (hsafe:safeQ l h m s p v d=false):
  Ends Id.y2k [.agg (qC l++(qC h++(qC m++qC s))),.agg (qC p),.agg (qC v),.agg (qC w),.one (.int .i64 d)] (.tup [.agg (qC 0),.one (.int .i64 13)]):=by
 obtain ⟨N1,h1⟩:=cCheckR l h m s d hl hh hS
 obtain ⟨_,e1,e2,e3,e4⟩:=y9a e
 obtain ⟨N2,h2⟩:=cSafe l h m s p v d hl hh hm hs hp hv (ydm e2 e1) e3 e4 hS
 refine Ends.of (N1+N2+1) fun {k} hk=> ?_
 rw [y03 ya0,yct]
 have h1:=h1 k (by omega)
 have h2:=h2 k (by omega)
 rw [e] at h1
 rw [hsafe] at h2
 have e0:((0:Int) !=0)=false:=rfl
 simp only [go_sem,Fn.y2k,h1,h2,e0,Bool.not_false]
theorem y11f (l h m s p v w:Rat) (d:Int) {S:Nat} {x:Rat} (hl:SmQ S l) (hh:SmQ S h) (hm:SmQ S m) (hs:SmQ S s) (hp:SmQ S p) (hv:SmQ S v) (hS:S<2^20) (e:errR l h m s d=0) (hsafe:safeQ l h m s p v d=true)
  (kx:Ends Id.y21 [.agg (qC l++(qC h++(qC m++qC s))),.agg (qC p),.agg (qC v),.agg (qC w),.one (.int .i64 d)] (.agg (qC x))):
  Ends Id.y2k [.agg (qC l++(qC h++(qC m++qC s))),.agg (qC p),.agg (qC v),.agg (qC w),.one (.int .i64 d)] (.tup [.agg (qC x),.one (.int .i64 0)]):=by
 obtain ⟨N1,h1⟩:=cCheckR l h m s d hl hh hS
 obtain ⟨_,e1,e2,e3,e4⟩:=y9a e
 obtain ⟨N2,h2⟩:=cSafe l h m s p v d hl hh hm hs hp hv (ydm e2 e1) e3 e4 hS
 obtain ⟨N3,h3⟩:=kx.call (ylb _ _ _ _ _ _ _ _)
 refine Ends.of (N1+N2+N3+1) fun {k} hk=> ?_
 rw [y03 ya0]
 have h1:=h1 k (by omega)
 have h2:=h2 k (by omega)
 have h3:=h3 k (by omega)
 rw [e] at h1
 rw [hsafe] at h2
 have e0:((0:Int) !=0)=false:=rfl
 simp only [go_sem,Fn.y2k,h1,h2,h3,e0,Bool.not_true]
end Go.Ev
namespace Go.Ev
def wayQ (m s d n:Rat):Rat:=s*m*(n*(Rat.ofInt 1+d)+(triQ n-n))
theorem ypb {ob ob':Nat→Option AObj} {id:Nat} (h:ob' id=ob id):shut ob ob' id=ob id:=by
 unfold shut
 rw [h]
 cases ob id with
 | none=>rfl
 | some o=>cases o<;>rfl
theorem yjy (l h m s d x:Rat) {S T:Nat} (hm:SmQ S m) (hs:SmQ S s) (hd:SmQ S d) (hx:SmQ T x) (hS:S<2^20) (hT:T<2^24):
  ∃N,∀n,N≤n→∀(ob:Nat→Option AObj) (fz:Nat→Nat) (nx:Nat),25≤nx→ob 0=some (.box (qC l++(qC h++(qC m++qC s))))→ob 15=some (.box (qC (Rat.ofInt 1)))→ob 16=some (.box (qC d))→
   ∃ob' nx',evF E n (.fn Id.y1e) [.agg (qC x),.one (.box 0 0),.one (.box 15 0),.one (.box 16 0)] ⟨ob,fz,nx⟩=some (.agg (qC (wayQ m s d x)),⟨ob',fz,nx'⟩)∧nx≤nx'∧∀id,id<nx→ob' id=ob id:=by
 obtain ⟨N1,h1⟩:=cBrake l h m s hm hs (by omega)
 obtain ⟨N2,h2⟩:=cAdd (Rat.ofInt 1) d smQ_one hd (by omega)
 obtain ⟨N3,h3⟩:=cMul x (Rat.ofInt 1+d) hx (smQ_one.add hd) (by omega)
 obtain ⟨N4,h4⟩:=cTri x hx (by omega)
 obtain ⟨N5,h5⟩:=cSub (triQ x) x (y76 hx) hx (by omega)
 obtain ⟨N6,h6⟩:=cAdd (x*(Rat.ofInt 1+d)) (triQ x-x) (hx.mul (smQ_one.add hd)) ((y76 hx).sub hx) (by omega)
 obtain ⟨N7,h7⟩:=cMul (s*m) (x*(Rat.ofInt 1+d)+(triQ x-x)) (hs.mul hm) ((hx.mul (smQ_one.add hd)).add ((y76 hx).sub hx)) (by omega)
 refine ⟨N1+N2+N3+N4+N5+N6+N7+2,fun n hn ob fz nx hnx o0 o15 o16=> ?_⟩
 obtain ⟨k,rfl⟩:∃k,n=k+1:=⟨n-1,by omega⟩
 rw [y9y ybh]
 have h1:=h1 k (by omega)
 have h2:=h2 k (by omega)
 have h3:=h3 k (by omega)
 have h4:=h4 k (by omega)
 have h5:=h5 k (by omega)
 have h6:=h6 k (by omega)
 have h7:=h7 k (by omega)
 have a0:∀j,(0<nx+j)=True:=fun j=>by simp;omega
 have a15:∀j,(15<nx+j)=True:=fun j=>by simp;omega
 have a16:∀j,(16<nx+j)=True:=fun j=>by simp;omega
 have n0:∀j,(0=nx+j)=False:=fun j=>by simp;omega
 have n15:∀j,(15=nx+j)=False:=fun j=>by simp;omega
 have n16:∀j,(16=nx+j)=False:=fun j=>by simp;omega
 have z0:(0=nx)=False:=by simp;omega
 have z15:(15=nx)=False:=by simp;omega
 have z16:(16=nx)=False:=by simp;omega
 have y0:(nx=0)=False:=by simp;omega
 have y15:(nx=15)=False:=by simp;omega
 have y16:(nx=16)=False:=by simp;omega
 have x0:∀j,(nx+j=0)=False:=fun j=>by simp;omega
 have x15:∀j,(nx+j=15)=False:=fun j=>by simp;omega
 have x16:∀j,(nx+j=16)=False:=fun j=>by simp;omega
 have w1:(nx<nx+2)=True:=by simp
 have w2:(nx+1<nx+2)=True:=by simp
 have w3:(nx=nx+1)=False:=by simp
 have w4:(nx+1=nx)=False:=by simp
 refine ⟨shut ob (upd (upd (upd ob (nx+0) (.box (qC x))) (nx+1) (.box [.bool false,.nils,.nils])) (nx+1) (.box (qC (wayQ m s d x)))),nx+2, ?_,by omega,fun id hid=> ?_⟩
 ·unfold wayQ
  simp only [go_sem,Fn.y1e,o0,o15,o16,a0,a15,a16,n0,n15,n16,z0,z15,z16,y0,y15,y16,x0,x15,x16,w1,w2,w3,w4,h1,h2,h3,h4,h5,h6,h7]
 ·refine ypb ?_
  rw [y00 (by omega),y00 (by omega),y00 (by omega)]
end Go.Ev
namespace Go.Ev
theorem y9d (q:Rat):floorQ q=q.floor:=(Rat.floor_def q).symm
theorem y5x (z:Int):Rat.ofInt z=(z:Rat):=rfl
theorem y74 (n:Rat):2*triQ n=n*(n+1):=by
 unfold triQ
 rw [Rat.mul_comm,Rat.div_mul_cancel (by decide)]
theorem y9w:triQ ((0:Int):Rat)=0:=by
 unfold triQ
 rw [show ((0:Int):Rat)=0 from rfl]
 grind
theorem ypx {a b c:Rat} (hc:0<c):c*a≤c*b↔a≤b:=by rw [←Rat.not_lt,←Rat.not_lt,Rat.mul_lt_mul_left hc]
theorem ybg {a b c:Rat} (hc:0<c):a*c≤b*c↔a≤b:=by rw [←Rat.not_lt,←Rat.not_lt,Rat.mul_lt_mul_right hc]
theorem y9e {B v:Rat} (hB:0<B) (N K:Int) (h1:(N:Rat)*B≤v) (h2:v≤((N:Rat)+1)*B):(K:Rat)*v-B*triQ K≤(N:Rat)*v-B*triQ N:=by
 unfold triQ
 rcases Int.lt_trichotomy K N with h | h | h
 ·have h3:(K:Rat)+1≤(N:Rat):=by
   have:((K+1:Int):Rat)≤(N:Rat):=Rat.intCast_le_intCast.2 h
   rwa [Rat.intCast_add] at this
  generalize (K:Rat)=k at*
  generalize (N:Rat)=n at*
  have p1:0≤(n-k)*(v-n*B):=Rat.mul_nonneg (by grind) (by grind)
  have p2:0≤(n-k)*((n-k-1)*B):=Rat.mul_nonneg (by grind) (Rat.mul_nonneg (by grind) (by grind))
  grind
 ·subst h
  exact Rat.le_refl
 ·have h3:(N:Rat)+1≤(K:Rat):=by
   have:((N+1:Int):Rat)≤(K:Rat):=Rat.intCast_le_intCast.2 h
   rwa [Rat.intCast_add] at this
  generalize (K:Rat)=k at*
  generalize (N:Rat)=n at*
  have p1:0≤(k-n)*((n+1)*B-v):=Rat.mul_nonneg (by grind) (by grind)
  have p2:0≤(k-n)*((k-n-1)*B):=Rat.mul_nonneg (by grind) (Rat.mul_nonneg (by grind) (by grind))
  grind
theorem yae {B v:Rat} (hB:0<B):((floorQ (v / B):Int):Rat)*B≤v∧v≤(((floorQ (v / B):Int):Rat)+1)*B:=by
 rw [y9d]
 have h1:=Rat.floor_le (v / B)
 have h2:=Rat.lt_floor_add_one (v / B)
 rw [Rat.intCast_add] at h2
 have e:v / B*B=v:=Rat.div_mul_cancel (by grind)
 have h3:=Rat.mul_le_mul_of_nonneg_right h1 (c:=B) (by grind)
 have h4:=Rat.mul_lt_mul_of_pos_right h2 hB
 rw [e] at h3 h4
 exact ⟨h3,Rat.le_of_lt h4⟩
theorem y9j {B v:Rat} (hB:0<B) (hv:0≤v):0≤floorQ (v / B):=by
 rw [y9d,Rat.le_floor_iff]
 have:0≤v / B:=by rw [Rat.div_def];exact Rat.mul_nonneg hv (Rat.le_of_lt (Rat.inv_pos.2 hB))
 simpa using this
structure FastOk (h m s p:Rat) (d:Int) (f:Rat):Prop where
 neg:(h-p) / s<0→f=(h-p) / s
 pos:0≤(h-p) / s→∃k:Int,0≤k∧wayQ m s (Rat.ofInt d) (k:Rat)≤(h-p) / s∧(h-p) / s<wayQ m s (Rat.ofInt d) ((k:Rat)+1)∧f*(1+Rat.ofInt d+k)=(h-p) / s+s*m*triQ k
theorem y99 (h m s p v:Rat) (d:Int):(belowQ h m s p v d=true)=(if 0<v then p+s*(d:Rat)*v+s*(((floorQ (v / (s*m)):Int):Rat)*v-s*m*triQ ((floorQ (v / (s*m)):Int):Rat))≤h else p≤h):=by
 unfold belowQ farQ stopQ
 have e:(0<v.num)=(0<v):=by
  exact yqg v
 simp only [decide_eq_true_eq,y72,e,y5x]
 split<;>rfl
theorem y8s {h m s p:Rat} {d:Int} {f:Rat} (hs:0<s) (hm:0<m) (hd:0≤d) (F:FastOk h m s p d f) (w:Rat):(belowQ h m s (p+s*w) w d=true)=(w≤f):=by
 have hB:0<s*m:=Rat.mul_pos hs hm
 have hD:(0:Rat)≤(d:Rat):=Rat.intCast_nonneg.2 hd
 have er:s*((h-p) / s)=h-p:=by rw [Rat.mul_comm,Rat.div_mul_cancel (by grind)]
 obtain ⟨F1,F2⟩:=F
 rw [y99,eq_iff_iff]
 generalize (h-p) / s=room at*
 have sc:∀x:Rat,(p+s*x≤h↔x≤room):=fun x=>by
  have:=ypx (a:=x) (b:=room) hs
  rw [←this]
  constructor<;>intro _<;>grind
 by_cases hw:0<w
 ·rw [if_pos hw]
  have n1:=yae (v:=w) hB
  have n0:=y9j (v:=w) hB (Rat.le_of_lt hw)
  generalize floorQ (w / (s*m))=N at*
  have e1:p+s*w+s*(d:Rat)*w+s*((N:Rat)*w-s*m*triQ (N:Rat))=p+s*(w+(d:Rat)*w+((N:Rat)*w-s*m*triQ (N:Rat))):=by grind
  rw [e1,sc]
  by_cases hr:room<0
  ·have:=F1 hr
   have hN:(0:Rat)≤(N:Rat):=Rat.intCast_nonneg.2 n0
   have t:=y9e hB N 0 n1.1 n1.2
   have t0:=y9w
   have z0:((0:Int):Rat)=0:=rfl
   rw [t0,z0] at t
   have p1:0≤(d:Rat)*w:=Rat.mul_nonneg hD (Rat.le_of_lt hw)
   constructor<;>intro _<;>grind
  ·obtain ⟨k,k0,k1,k2,k3⟩:=F2 (Rat.not_lt.1 hr)
   have hk:(0:Rat)≤(k:Rat):=Rat.intCast_nonneg.2 k0
   unfold wayQ at k1 k2
   simp only [y5x,triQ] at k1 k2 k3
   rw [show ((1:Int):Rat)=1 from rfl] at k1 k2
   clear F1 F2 sc
   have hB':=hB
   have hf1:(k:Rat)*(s*m)≤f:=by
    have c:0<1+(d:Rat)+(k:Rat):=by grind
    rw [←ybg c,k3]
    generalize s*m=B at*
    generalize (k:Rat)=K at*
    generalize (d:Rat)=D at*
    grind
   have hf2:f≤((k:Rat)+1)*(s*m):=by
    have c:0<1+(d:Rat)+(k:Rat):=by grind
    rw [←ybg c,k3]
    generalize s*m=B at*
    generalize (k:Rat)=K at*
    generalize (d:Rat)=D at*
    grind
   have m1:=y9e hB k N hf1 hf2
   have m2:=y9e hB N k n1.1 n1.2
   simp only [triQ] at m1 m2 ⊢
   have hN:(0:Rat)≤(N:Rat):=Rat.intCast_nonneg.2 n0
   generalize s*m=B at*
   generalize (k:Rat)=K at*
   generalize (N:Rat)=n at*
   generalize (d:Rat)=D at*
   constructor
   ·intro hx
    refine Rat.not_lt.1 fun hlt=> ?_
    have q1:0<(1+D+K)*(w-f):=Rat.mul_pos (by grind) (by grind)
    grind
   ·intro hx
    have q1:0≤(1+D+n)*(f-w):=Rat.mul_nonneg (by grind) (by grind)
    grind
 ·rw [if_neg hw,sc]
  by_cases hr:room<0
  ·rw [F1 hr]
  ·obtain ⟨k,k0,k1,k2,k3⟩:=F2 (Rat.not_lt.1 hr)
   have hk:(0:Rat)≤(k:Rat):=Rat.intCast_nonneg.2 k0
   rw [y5x] at k3
   have t1:=y74 (k:Rat)
   have f0:0≤f:=by
    refine Rat.not_lt.1 fun hlt=> ?_
    have q1:0<(1+(d:Rat)+(k:Rat))*(-f):=Rat.mul_pos (by grind) (by grind)
    have q2:0≤s*m*triQ (k:Rat):=Rat.mul_nonneg (by grind) (by have:0≤(k:Rat)*((k:Rat)+1):=Rat.mul_nonneg hk (by grind);grind)
    grind
   constructor<;>intro _<;>grind
def brkQ (B v:Rat):Rat:=if v< -B then v+B else if v≤B then 0 else v-B
theorem yqv {B v:Rat} (hB:0<B):brkQ B (-v)=-brkQ B v:=by unfold brkQ;grind
theorem yp2 {B v:Rat} (hB:0<B):v-B≤brkQ B v∧brkQ B v≤v+B:=by unfold brkQ;grind
theorem ybs {h m s p v:Rat} {d:Int} (hs:0<s) (hm:0<m) (hd:0≤d) (hb:belowQ h m s p v d=true):belowQ h m s (p+s*brkQ (s*m) v) (brkQ (s*m) v) d=true:=by
 have hB:0<s*m:=Rat.mul_pos hs hm
 have hD:(0:Rat)≤(d:Rat):=Rat.intCast_nonneg.2 hd
 rw [y99] at hb ⊢
 by_cases hv:0<v
 ·rw [if_pos hv] at hb
  have n1:=yae (v:=v) hB
  have n0:=y9j (v:=v) hB (Rat.le_of_lt hv)
  generalize floorQ (v / (s*m))=N at*
  have p1:0≤s*(d:Rat)*v:=Rat.mul_nonneg (Rat.mul_nonneg (by grind) hD) (by grind)
  by_cases hle:v≤s*m
  ·have e:brkQ (s*m) v=0:=by unfold brkQ;grind
   rw [e,if_neg (by grind)]
   have t:=y9e hB N 0 n1.1 n1.2
   have t0:=y9w
   have z0:((0:Int):Rat)=0:=rfl
   rw [t0,z0] at t
   have p2:0≤s*((N:Rat)*v-s*m*triQ (N:Rat)):=Rat.mul_nonneg (by grind) (by grind)
   grind
  ·have e:brkQ (s*m) v=v-s*m:=by unfold brkQ;grind
   rw [e]
   have hw:0<v-s*m:=by grind
   rw [if_pos hw]
   generalize floorQ ((v-s*m) / (s*m))=M at*
   have t:=y9e hB N (M+1) n1.1 n1.2
   rw [Rat.intCast_add,show ((1:Int):Rat)=1 from rfl] at t
   have t1:=y74 (M:Rat)
   have t2:=y74 ((M:Rat)+1)
   have t3:=y74 (N:Rat)
   have p3:0≤s*(((N:Rat)*v-s*m*triQ (N:Rat))-(((M:Rat)+1)*v-s*m*triQ ((M:Rat)+1))):=Rat.mul_nonneg (by grind) (by grind)
   have p4:0≤s*(d:Rat)*(s*m):=Rat.mul_nonneg (Rat.mul_nonneg (by grind) hD) (by grind)
   have e3:s*((M:Rat)*(v-s*m)-s*m*triQ (M:Rat))+s*(v-s*m)=s*(((M:Rat)+1)*v-s*m*triQ ((M:Rat)+1)):=by
    have:(M:Rat)*(v-s*m)-s*m*triQ (M:Rat)+(v-s*m)=((M:Rat)+1)*v-s*m*triQ ((M:Rat)+1):=by
     generalize s*m=B at*
     generalize (M:Rat)=K at*
     grind
    grind
   grind
 ·rw [if_neg hv] at hb
  have hw:¬0<brkQ (s*m) v:=by unfold brkQ;grind
  rw [if_neg hw]
  have:0≤s*(-brkQ (s*m) v):=Rat.mul_nonneg (by grind) (by grind)
  grind
theorem ysd {l h m s p:Rat} {d:Int} {f g:Rat} (hs:0<s) (hm:0<m) (hd:0≤d) (F:FastOk h m s p d f) (G:FastOk (-l) m s (-p) d g) (w:Rat):(safeQ l h m s (p+s*w) w d=true)=(w≤f∧-g≤w):=by
 unfold safeQ
 rw [Bool.and_eq_true]
 rw [y8s hs hm hd F w]
 have e:-(p+s*w)=-p+s*(-w):=by grind
 rw [e,y8s hs hm hd G (-w)]
 rw [eq_iff_iff]
 constructor<;>intro h<;>exact ⟨h.1,by grind⟩
theorem ylr {l h m s p v:Rat} {d:Int} {f g:Rat} (hs:0<s) (hm:0<m) (hd:0≤d) (F:FastOk h m s p d f) (G:FastOk (-l) m s (-p) d g) (hsafe:safeQ l h m s p v d=true):∃w,w≤f∧-g≤w∧v-s*m≤w∧w≤v+s*m:=by
 have hB:0<s*m:=Rat.mul_pos hs hm
 unfold safeQ at hsafe
 rw [Bool.and_eq_true] at hsafe
 have h1:=ybs hs hm hd hsafe.1
 have h2:=ybs hs hm hd hsafe.2
 rw [yqv hB] at h2
 rw [y8s hs hm hd F] at h1
 rw [y8s hs hm hd G] at h2
 exact ⟨brkQ (s*m) v,h1,by grind,(yp2 hB).1,(yp2 hB).2⟩
theorem yja {m s v w f g:Rat} (hs:0<s):v+s*holdQ m s v w f g=nextQ m s v w f g:=by
 unfold holdQ
 have:s*((nextQ m s v w f g-v) / s)=nextQ m s v w f g-v:=by rw [Rat.mul_comm,Rat.div_mul_cancel (by grind)]
 grind
theorem yvm {m s v w f g:Rat} (h:∃u,u≤f∧-g≤u∧v-s*m≤u∧u≤v+s*m):
  nextQ m s v w f g≤f∧-g≤nextQ m s v w f g∧v-s*m≤nextQ m s v w f g∧nextQ m s v w f g≤v+s*m∧
   ∀u,u≤f→-g≤u→v-s*m≤u→u≤v+s*m→(u≤v+s*w→u≤nextQ m s v w f g∧nextQ m s v w f g≤v+s*w)∧(v+s*w≤u→nextQ m s v w f g≤u∧v+s*w≤nextQ m s v w f g):=by
 obtain ⟨u,h1,h2,h3,h4⟩:=h
 unfold nextQ
 simp only [ycp,y89]
 generalize s*m=B at*
 generalize v+s*w=x at*
 generalize v+B=vb at*
 generalize v-B=va at*
 refine ⟨by grind,by grind,by grind,by grind,fun u u1 u2 u3 u4=>⟨fun h=>by grind,fun h=>by grind⟩⟩
def fastG (room B D:Rat):Nat→Nat→Rat
 | 0,k=>(room+B*triQ (k:Rat)) / (1+D+(k:Rat))
 | n+1,k=>if room<B*(((k:Rat)+1)*(1+D)+(triQ ((k:Rat)+1)-((k:Rat)+1))) then (room+B*triQ (k:Rat)) / (1+D+(k:Rat)) else fastG room B D n (k+1)
def fastQ (h m s p:Rat) (d:Int):Rat:=if (h-p) / s<0 then (h-p) / s else fastG ((h-p) / s) (s*m) (d:Rat) (floorQ ((h-p) / s / (s*m))).toNat 0
theorem yj6 {room B D:Rat} (hD:0≤D):∀(n k:Nat),B*((k:Rat)*(1+D)+(triQ (k:Rat)-(k:Rat)))≤room→room<B*((((k+n:Nat):Rat)+1)*(1+D)+(triQ (((k+n:Nat):Rat)+1)-(((k+n:Nat):Rat)+1)))→
  ∃j:Nat,B*((j:Rat)*(1+D)+(triQ (j:Rat)-(j:Rat)))≤room∧room<B*(((j:Rat)+1)*(1+D)+(triQ ((j:Rat)+1)-((j:Rat)+1)))∧fastG room B D n k*(1+D+(j:Rat))=room+B*triQ (j:Rat)
 | 0,k,h1,h2=>by
  have hk:(0:Rat)≤(k:Rat):=Rat.natCast_nonneg
  exact ⟨k,h1,h2,by unfold fastG;exact Rat.div_mul_cancel (by grind)⟩
 | n+1,k,h1,h2=>by
  have hk:(0:Rat)≤(k:Rat):=Rat.natCast_nonneg
  unfold fastG
  split
  ·rename_i h3
   exact ⟨k,h1,h3,Rat.div_mul_cancel (by grind)⟩
  ·rename_i h3
   have e:((k+1:Nat):Rat)=(k:Rat)+1:=Rat.natCast_add k 1
   refine yj6 hD n (k+1) (by rw [e];exact Rat.not_lt.1 h3) ?_
   rw [show k+1+n=k+(n+1) by omega]
   exact h2
theorem y97 {h m s p:Rat} {d:Int} (hs:0<s) (hm:0<m) (hd:0≤d):FastOk h m s p d (fastQ h m s p d):=by
 have hB:0<s*m:=Rat.mul_pos hs hm
 have hD:(0:Rat)≤(d:Rat):=Rat.intCast_nonneg.2 hd
 unfold fastQ
 refine ⟨fun hr=>if_pos hr,fun hr=> ?_⟩
 rw [if_neg (Rat.not_lt.2 hr)]
 generalize (h-p) / s=room at*
 have n1:=yae (v:=room) hB
 have n0:=y9j (v:=room) hB hr
 have n2:room<((((floorQ (room / (s*m))).toNat:Nat):Rat)+1)*(s*m):=by
  have h2:=Rat.lt_floor_add_one (room / (s*m))
  rw [←y9d,Rat.intCast_add] at h2
  have h4:=Rat.mul_lt_mul_of_pos_right h2 hB
  rw [Rat.div_mul_cancel (by grind)] at h4
  have e:(((floorQ (room / (s*m))).toNat:Nat):Rat)=((floorQ (room / (s*m)):Int):Rat):=by
   have:(((floorQ (room / (s*m))).toNat:Nat):Int)=floorQ (room / (s*m)):=by omega
   rw [←this];rfl
  rw [e];exact h4
 generalize (floorQ (room / (s*m))).toNat=n at*
 have hn:(0:Rat)≤(n:Rat):=Rat.natCast_nonneg
 have z0:((0:Nat):Rat)=0:=rfl
 have t0:=y74 ((0:Nat):Rat)
 obtain ⟨j,j1,j2,j3⟩:=yj6 (room:=room) (B:=s*m) hD n 0 (by
   have:triQ ((0:Nat):Rat)=0:=by grind
   rw [this,z0];grind) (by
   rw [Nat.zero_add]
   have p1:0≤(s*m)*(((n:Rat)+1)*(d:Rat)):=Rat.mul_nonneg (by grind) (Rat.mul_nonneg (by grind) hD)
   have p2:0≤(s*m)*(((n:Rat)+1)*(n:Rat)):=Rat.mul_nonneg (by grind) (Rat.mul_nonneg (by grind) hn)
   simp only [triQ]
   generalize s*m=B at*
   generalize (n:Rat)=x at*
   generalize (d:Rat)=D at*
   grind)
 refine ⟨(j:Int),by omega, ?_, ?_, ?_⟩
 ·unfold wayQ;exact j1
 ·unfold wayQ;exact j2
 ·exact j3
theorem yn6 {h m s p:Rat} {d:Int} {f g:Rat} (hs:0<s) (hm:0<m) (hd:0≤d) (F:FastOk h m s p d f) (G:FastOk h m s p d g):f=g:=by
 have h1:=y8s hs hm hd F
 have h2:=y8s hs hm hd G
 have a:g≤f:=by rw [←h1,h2];exact Rat.le_refl
 have b:f≤g:=by rw [←h2,h1];exact Rat.le_refl
 exact Rat.le_antisymm b a
end Go.Ev
namespace Go.Ev
theorem yoe {h m s p v:Rat} {d:Int} (hs:0<s) (hm:0<m) (hd:0≤d) (hb:belowQ h m s p v d=true):p≤h:=by
 have hB:0<s*m:=Rat.mul_pos hs hm
 have hD:(0:Rat)≤(d:Rat):=Rat.intCast_nonneg.2 hd
 rw [y99] at hb
 by_cases hv:0<v
 ·rw [if_pos hv] at hb
  have n1:=yae (v:=v) hB
  generalize floorQ (v / (s*m))=N at*
  have p1:0≤s*(d:Rat)*v:=Rat.mul_nonneg (Rat.mul_nonneg (by grind) hD) (by grind)
  have t:=y9e hB N 0 n1.1 n1.2
  have t0:=y9w
  have z0:((0:Int):Rat)=0:=rfl
  rw [t0,z0] at t
  have p2:0≤s*((N:Rat)*v-s*m*triQ (N:Rat)):=Rat.mul_nonneg (by grind) (by grind)
  grind
 ·rw [if_neg hv] at hb
  exact hb
theorem yjm {h m s p v:Rat} {d e:Int} (hs:0<s) (he:e≤d) (hb:belowQ h m s p v d=true):belowQ h m s p v e=true:=by
 rw [y99] at hb ⊢
 by_cases hv:0<v
 ·rw [if_pos hv] at hb ⊢
  have h1:(e:Rat)≤(d:Rat):=Rat.intCast_le_intCast.2 he
  generalize s*(((floorQ (v / (s*m)):Int):Rat)*v-s*m*triQ ((floorQ (v / (s*m)):Int):Rat))=x at*
  have p1:0≤s*((d:Rat)-(e:Rat))*v:=Rat.mul_nonneg (Rat.mul_nonneg (by grind) (by grind)) (by grind)
  grind
 ·rw [if_neg hv] at hb ⊢
  exact hb
theorem yj2 {h m s p v:Rat} {d:Int} (hs:0<s) (hb:belowQ h m s p v d=true):belowQ h m s (p+s*v) v (d-1)=true:=by
 rw [y99] at hb ⊢
 by_cases hv:0<v
 ·rw [if_pos hv] at hb ⊢
  have h1:((d-1:Int):Rat)=(d:Rat)-1:=Rat.intCast_sub d 1
  rw [h1]
  generalize s*(((floorQ (v / (s*m)):Int):Rat)*v-s*m*triQ ((floorQ (v / (s*m)):Int):Rat))=x at*
  grind
 ·rw [if_neg hv] at hb ⊢
  have:0≤s*(-v):=Rat.mul_nonneg (by grind) (by grind)
  grind
theorem yay {l h m s p v:Rat} {d:Int} (hs:0<s) (hm:0<m) (hd:0≤d) (hb:safeQ l h m s p v d=true):l≤p∧p≤h:=by
 unfold safeQ at hb
 rw [Bool.and_eq_true] at hb
 have h1:=yoe hs hm hd hb.1
 have h2:=yoe hs hm hd hb.2
 exact ⟨by grind,h1⟩
theorem ym2 {l h m s p v:Rat} {d e:Int} (hs:0<s) (he:e≤d) (hb:safeQ l h m s p v d=true):safeQ l h m s p v e=true:=by
 unfold safeQ at hb ⊢
 rw [Bool.and_eq_true] at hb ⊢
 exact ⟨yjm hs he hb.1,yjm hs he hb.2⟩
theorem yvn {l h m s p v:Rat} {d:Int} (hs:0<s) (hb:safeQ l h m s p v d=true):safeQ l h m s (p+s*v) v (d-1)=true:=by
 unfold safeQ at hb ⊢
 rw [Bool.and_eq_true] at hb ⊢
 refine ⟨yj2 hs hb.1, ?_⟩
 have:=yj2 hs hb.2
 rwa [show-p+s*-v=-(p+s*v) by grind] at this
theorem ywl {l h m s p v:Rat} {d:Int} (hs:0<s) (hm:0<m) (hd:0≤d) (hb:safeQ l h m s p v d=true):safeQ l h m s (p+s*brkQ (s*m) v) (brkQ (s*m) v) d=true:=by
 have hB:0<s*m:=Rat.mul_pos hs hm
 unfold safeQ at hb ⊢
 rw [Bool.and_eq_true] at hb ⊢
 refine ⟨ybs hs hm hd hb.1, ?_⟩
 have:=ybs hs hm hd hb.2
 rw [yqv hB] at this
 rwa [show-p+s*-brkQ (s*m) v=-(p+s*brkQ (s*m) v) by grind] at this
def brakingQ (m s v:Rat):Rat:=maxQ (-m) (minQ m (-v / s))
theorem ye0 {m s v:Rat} (hs:0<s) (hm:0<m):v+s*brakingQ m s v=brkQ (s*m) v∧-m≤brakingQ m s v∧brakingQ m s v≤m:=by
 have e:s*(-v / s)=-v:=by rw [Rat.mul_comm,Rat.div_mul_cancel (by grind)]
 have sc:∀a b:Rat,s*a<s*b↔a<b:=fun a b=>Rat.mul_lt_mul_left hs
 unfold brakingQ brkQ
 rw [ycp,y89]
 generalize-v / s=x at*
 have h1:=sc x m
 have h2:=sc (-m) x
 have h3:=sc (-m) m
 have e1:s*-m=-(s*m):=by grind
 refine ⟨?_,by grind,by grind⟩
 by_cases c:x<m
 ·rw [if_pos c]
  by_cases c2:-m<x
  ·rw [if_pos c2,if_neg (by grind),if_pos (by grind)];grind
  ·rw [if_neg c2]
   by_cases c3:v-s*m=0
   ·rw [if_neg (by grind),if_pos (by grind)];grind
   ·have:s*x≤s*-m:=Rat.not_lt.1 (fun h=>c2 ((sc _ _).1 h))
    rw [if_neg (by have:0<s*m:=Rat.mul_pos hs hm;grind),if_neg (by grind)];grind
 ·rw [if_neg c,if_pos (by grind)]
  have:s*m≤s*x:=Rat.not_lt.1 (fun h=>c ((sc _ _).1 h))
  by_cases c3:v=-(s*m)
  ·have:0<s*m:=Rat.mul_pos hs hm
   rw [if_neg (by grind),if_pos (by grind)];grind
  ·rw [if_pos (by grind)]
def accQ (l h m s:Rat) (d at_ lng:Int) (i:Int) (p v w:Rat):Rat:=
 if lng=0∨i-at_<0 then holdQ m s v w (fastQ h m s p d) (fastQ (-l) m s (-p) d) else if i-at_≥lng then brakingQ m s v else 0
structure Mo where
 a:Rat
 v:Rat
 p:Rat
def moQ (l h m s:Rat) (d at_ lng:Int) (i:Int) (p v w:Rat):Mo:=
 ⟨accQ l h m s d at_ lng i p v w,v+s*accQ l h m s d at_ lng i p v w,p+s*(v+s*accQ l h m s d at_ lng i p v w)⟩
def driveQ (l h m s:Rat) (d at_ lng:Int):Int→Rat→Rat→List Rat→List Mo
 | i,p,v,[]=>[]
 | i,p,v,w::r=>moQ l h m s d at_ lng i p v w::driveQ l h m s d at_ lng (i+1) (moQ l h m s d at_ lng i p v w).p (moQ l h m s d at_ lng i p v w).v r
theorem ylo (l h m s:Rat) (d at_ lng:Int):∀(ws:List Rat) (i:Int) (p v:Rat),(driveQ l h m s d at_ lng i p v ws).length=ws.length
 | [],i,p,v=>rfl
 | w::r,i,p,v=>by unfold driveQ;rw [List.length_cons,List.length_cons,ylo l h m s d at_ lng r]
def lookQ (d at_ lng i:Int):Int:=if lng=0∨i≤at_ then d else if i-at_≤lng then d-(i-at_) else 0
def slowQ (v w c:Rat):Prop:=if absQ v≤c then w=0 else absQ w=absQ v-c∧(0<w↔0<v)∧(w<0↔v<0)
theorem yxq {B v:Rat} (hB:0<B):slowQ v (brkQ B v) B:=by
 unfold slowQ brkQ
 simp only [yk0]
 by_cases h1:v< -B
 ·rw [if_pos h1,if_pos (show v<0 by grind),if_neg (by grind)]
  refine ⟨by grind,by grind,by grind⟩
 ·rw [if_neg h1]
  by_cases h2:v≤B
  ·rw [if_pos h2,if_pos (by grind)]
  ·rw [if_neg h2,if_neg (show ¬v<0 by grind),if_neg (by grind)]
   refine ⟨by grind,by grind,by grind⟩
theorem yyw {m s a v:Rat} (hs:0<s) (h1:v-s*m≤v+s*a) (h2:v+s*a≤v+s*m):-m≤a∧a≤m:=by
 constructor
 ·refine Rat.not_lt.1 fun hlt=> ?_
  have:=Rat.mul_lt_mul_of_pos_left hlt hs
  grind
 ·refine Rat.not_lt.1 fun hlt=> ?_
  have:=Rat.mul_lt_mul_of_pos_left hlt hs
  grind
theorem mo_ok {l h m s:Rat} {d at_ lng i:Int} {p v w:Rat} (hs:0<s) (hm:0<m) (hd:0≤d) (h1:0≤lng) (h2:lng≤d) (hsafe:safeQ l h m s p v (lookQ d at_ lng i)=true):
  let o:=moQ l h m s d at_ lng i p v w
  safeQ l h m s o.p o.v (lookQ d at_ lng (i+1))=true∧l≤o.p∧o.p≤h∧-m≤o.a∧o.a≤m∧(lng=0∨i<at_→safeQ l h m s o.p o.v d=true)∧(¬(lng=0∨i<at_)→lng≤i-at_→slowQ v o.v (s*m)):=by
 have hB:0<s*m:=Rat.mul_pos hs hm
 intro o
 have key:∃e,0≤e∧lookQ d at_ lng (i+1)≤e∧safeQ l h m s o.p o.v e=true∧-m≤o.a∧o.a≤m∧(lng=0∨i<at_→e=d)∧(¬(lng=0∨i<at_)→lng≤i-at_→slowQ v o.v (s*m)):=by
  show ∃e,0≤e∧lookQ d at_ lng (i+1)≤e∧safeQ l h m s (p+s*(v+s*accQ l h m s d at_ lng i p v w)) (v+s*accQ l h m s d at_ lng i p v w) e=true∧-m≤accQ l h m s d at_ lng i p v w∧accQ l h m s d at_ lng i p v w≤m∧(lng=0∨i<at_→e=d)∧(¬(lng=0∨i<at_)→lng≤i-at_→slowQ v (v+s*accQ l h m s d at_ lng i p v w) (s*m))
  unfold accQ
  by_cases c1:lng=0∨i-at_<0
  ·rw [if_pos c1]
   have el:lookQ d at_ lng i=d:=if_pos (by omega)
   rw [el] at hsafe
   have F:=y97 (h:=h) (p:=p) hs hm hd
   have G:=y97 (h:=-l) (p:=-p) hs hm hd
   have hr:=ylr hs hm hd F G hsafe
   have hn:=yvm (w:=w) hr
   have e:=yja (m:=m) (v:=v) (w:=w) (f:=fastQ h m s p d) (g:=fastQ (-l) m s (-p) d) hs
   obtain ⟨n1,n2,n3,n4,-⟩:=hn
   rw [←e] at n1 n2 n3 n4
   have na:=yyw hs n3 n4
   refine ⟨d,hd, ?_, ?_,na.1,na.2,fun _=>rfl,fun hc=>absurd (by omega) hc⟩
   ·unfold lookQ;split
    ·omega
    ·split<;>omega
   ·rw [ysd hs hm hd F G];exact ⟨n1,n2⟩
  ·rw [if_neg c1]
   by_cases c2:i-at_≥lng
   ·rw [if_pos c2]
    obtain ⟨b1,b2,b3⟩:=ye0 (v:=v) hs hm
    rw [b1]
    have hsafe0:safeQ l h m s p v 0=true:=by
     refine ym2 hs ?_ hsafe
     unfold lookQ;split
     ·omega
     ·split<;>omega
    refine ⟨0,by omega, ?_,ywl hs hm (by omega) hsafe0,b2,b3,fun hc=>absurd (by omega) c1,fun _ _=>yxq hB⟩
    unfold lookQ;split
    ·omega
    ·split<;>omega
   ·rw [if_neg c2]
    have e0:v+s*0=v:=by grind
    rw [e0]
    refine ⟨lookQ d at_ lng i-1, ?_, ?_,yvn hs hsafe,by grind,by grind,fun hc=>absurd (by omega) c1,fun _ hc=>absurd hc (by omega)⟩
    ·unfold lookQ;split
     ·omega
     ·split<;>omega
    ·unfold lookQ;split
     ·split
      ·omega
      ·split<;>omega
     ·split
      ·split
       ·omega
       ·split<;>omega
      ·split
       ·omega
       ·split<;>omega
 obtain ⟨e,e0,e1,e2,e3,e4,e5,e6⟩:=key
 have hl:=yay hs hm e0 e2
 exact ⟨ym2 hs e1 e2,hl.1,hl.2,e3,e4,fun hc=>by rw [←e5 hc];exact e2,e6⟩
end Go.Ev
namespace Go.Ev
theorem yyd {B v:Rat} (hB:0<B) (N K:Int) (h1:(N:Rat)*B≤v) (h2:v≤((N:Rat)+1)*B) (k1:(K:Rat)*B≤v) (k2:v≤((K:Rat)+1)*B):(N:Rat)*v-B*triQ N=(K:Rat)*v-B*triQ K:=
 Rat.le_antisymm (y9e hB K N k1 k2) (y9e hB N K h1 h2)
theorem yov {m s v:Rat} (hs:0<s) (hm:0<m) (N:Int) (h1:(N:Rat)*(s*m)≤v) (h2:v≤((N:Rat)+1)*(s*m)):stopQ m s v=s*((N:Rat)*v-s*m*triQ (N:Rat)):=by
 have hB:0<s*m:=Rat.mul_pos hs hm
 have n1:=yae (v:=v) hB
 unfold stopQ
 rw [y5x,yyd hB _ N n1.1 n1.2 h1 h2]
theorem yse {m s:Rat} (hs:0<s) (hm:0<m):stopQ m s 0=0:=by
 have hB:0<s*m:=Rat.mul_pos hs hm
 have z0:((0:Int):Rat)=0:=rfl
 rw [yov hs hm 0 (by rw [z0,Rat.zero_mul];exact Rat.le_refl) (by rw [z0];grind),y9w,z0]
 grind
theorem ybx {h m s p v:Rat} {d:Int} (hs:0<s) (hm:0<m):(belowQ h m s p v d=true)=(p+(s*(d:Rat)*maxQ v 0+stopQ m s (maxQ v 0))≤h):=by
 rw [y99]
 by_cases hv:0<v
 ·rw [if_pos hv]
  have e:maxQ v 0=v:=by rw [y89,if_neg (by grind)]
  rw [e]
  unfold stopQ
  rw [y5x,Rat.add_assoc]
 ·rw [if_neg hv]
  have e:maxQ v 0=0:=by rw [y89];grind
  rw [e,yse hs hm]
  have:p+(s*(d:Rat)*0+0)=p:=by grind
  rw [this]
def safeR (l h m s p v:Rat) (d:Int):Bool:=decide (l≤p)&&(decide (p≤h)&&(decide (p+(s*(d:Rat)*maxQ v 0+stopQ m s (maxQ v 0))≤h)&&decide (l≤p-(s*(d:Rat)*maxQ (-v) 0+stopQ m s (maxQ (-v) 0)))))
theorem ywu {l h m s p v:Rat} {d:Int} (hs:0<s) (hm:0<m) (hd:0≤d):safeR l h m s p v d=safeQ l h m s p v d:=by
 unfold safeR
 rw [Bool.eq_iff_iff]
 simp only [Bool.and_eq_true,decide_eq_true_eq]
 constructor
 ·intro ⟨h1,h2,h3,h4⟩
  unfold safeQ
  rw [Bool.and_eq_true,ybx hs hm,ybx hs hm]
  exact ⟨h3,by grind⟩
 ·intro hsafe
  have hle:=yay hs hm hd hsafe
  unfold safeQ at hsafe
  rw [Bool.and_eq_true,ybx hs hm,ybx hs hm] at hsafe
  exact ⟨hle.1,hle.2,hsafe.1,by grind⟩
theorem yqy {B D x T:Rat} (t0:2*T=x*(x+1)):B*((x+1)*D+(T+x+1))=B*(x+1)*(1+D+x)-B*T:=by
 have b0:B*(2*T)=B*(x*(x+1)):=by rw [t0]
 grind
theorem y10n {h m s p f:Rat} {d:Int} (hs:0<s) (hm:0<m) (hd:0≤d) (n:Nat) (r0:0≤(h-p) / s) (e:f*(1+(d:Rat)+(n:Rat))=(h-p) / s+s*m*triQ (n:Rat)) (h1:f≤s*m*((n:Rat)+1)) (h2:n=0∨wayQ m s (d:Rat) (n:Rat)≤(h-p) / s):f=fastQ h m s p d:=by
 have hB:0<s*m:=Rat.mul_pos hs hm
 have hD:(0:Rat)≤(d:Rat):=Rat.intCast_nonneg.2 hd
 refine yn6 hs hm hd ⟨fun c=>absurd r0 (Rat.not_le.2 c),fun _=> ?_⟩ (y97 hs hm hd)
 have hn0:(0:Rat)≤(n:Rat):=Rat.natCast_nonneg
 have t0:=y74 (n:Rat)
 have t01:triQ ((n:Rat)+1)=triQ (n:Rat)+(n:Rat)+1:=by have:=y74 ((n:Rat)+1);grind
 have t12:triQ ((n:Rat)+1+1)=triQ (n:Rat)+2*(n:Rat)+3:=by have:=y74 ((n:Rat)+1+1);grind
 have way0:∀x:Rat,wayQ m s (Rat.ofInt d) x=s*m*(x*(d:Rat)+triQ x):=fun x=>by
  have o1:Rat.ofInt 1=1:=rfl
  unfold wayQ;rw [o1,y5x];grind
 have h2':wayQ m s (Rat.ofInt d) (n:Rat)≤(h-p) / s:=by
  rcases h2 with h2 | h2
  ·subst h2
   rw [way0]
   have z:triQ ((0:Nat):Rat)=0:=y9w
   have z0:((0:Nat):Rat)=0:=rfl
   rw [z,z0,Rat.zero_mul,Rat.add_zero,Rat.mul_zero]
   exact r0
  ·exact h2
 have wt:=yqy (B:=s*m) (D:=(d:Rat)) t0
 have hf:f≠s*m*((n:Rat)+1)→f*(1+(d:Rat)+(n:Rat))<s*m*((n:Rat)+1)*(1+(d:Rat)+(n:Rat)):=fun hne=>Rat.mul_lt_mul_of_pos_right (by grind) (by grind)
 by_cases c:f=s*m*((n:Rat)+1)
 ·have ec:(((n+1:Nat):Int):Rat)=(n:Rat)+1:=Rat.natCast_add n 1
  refine ⟨((n+1:Nat):Int),by omega, ?_, ?_, ?_⟩
  ·rw [way0,ec,t01,wt,←c,e]
   have:(h-p) / s+s*m*triQ (n:Rat)-s*m*triQ (n:Rat)=(h-p) / s:=by grind
   rw [this];exact Rat.le_refl
  ·rw [way0,ec,t12]
   have e2:s*m*(((n:Rat)+1+1)*(d:Rat)+(triQ (n:Rat)+2*(n:Rat)+3))=s*m*(((n:Rat)+1)*(d:Rat)+(triQ (n:Rat)+(n:Rat)+1))+s*m*((d:Rat)+(n:Rat)+2):=by grind
   rw [e2,wt,←c,e]
   have p1:0<s*m*((d:Rat)+(n:Rat)+2):=Rat.mul_pos hB (by grind)
   grind
  ·rw [ec,y5x,t01]
   have e3:f*(1+(d:Rat)+((n:Rat)+1))=f*(1+(d:Rat)+(n:Rat))+f:=by grind
   rw [e3,e]
   grind
 ·have ec:(((n:Nat):Int):Rat)=(n:Rat):=rfl
  refine ⟨((n:Nat):Int),by omega,h2', ?_, ?_⟩
  ·rw [way0,ec,t01,wt]
   have:=hf c
   rw [e] at this
   grind
  ·rw [ec,y5x]
   exact e
theorem yy8 {m s v w f g:Rat} (hs:0<s) (hm:0<m) (h:∃u,u≤f∧-g≤u∧v-s*m≤u∧u≤v+s*m):
  maxQ (-g) (minQ f (v+s*maxQ (-m) (minQ m w)))=nextQ m s v w f g:=by
 obtain ⟨u,h1,h2,h3,h4⟩:=h
 have e:v+s*maxQ (-m) (minQ m w)=maxQ (v-s*m) (minQ (v+s*m) (v+s*w)):=by
  have a1:(w<m)=(s*w<s*m):=by rw [Rat.mul_lt_mul_left hs]
  have a2:(-m<w)=(s*(-m)<s*w):=by rw [Rat.mul_lt_mul_left hs]
  have a3:0<s*m:=Rat.mul_pos hs hm
  have a4:s*(-m)=-(s*m):=by grind
  rw [a4] at a2
  have e1:s*maxQ (-m) (minQ m w)=maxQ (-(s*m)) (minQ (s*m) (s*w)):=by
   simp only [ycp,y89]
   by_cases c1:w<m
   ·have c1':s*w<s*m:=a1 ▸ c1
    simp only [if_pos c1,if_pos c1']
    by_cases c2:-m<w
    ·have c2':-(s*m)<s*w:=a2 ▸ c2
     simp only [if_pos c2,if_pos c2']
    ·have c2':¬-(s*m)<s*w:=fun hh=>c2 (a2 ▸ hh)
     simp only [if_neg c2,if_neg c2',a4]
   ·have c1':¬s*w<s*m:=fun hh=>c1 (a1 ▸ hh)
    have c2:-m<m:=by grind
    have c2':-(s*m)<s*m:=by grind
    simp only [if_neg c1,if_neg c1',if_pos c2,if_pos c2']
  rw [e1]
  generalize s*m=B at*
  generalize s*w=x at*
  simp only [ycp,y89]
  grind
 rw [e]
 unfold nextQ
 simp only [ycp,y89]
 generalize s*m=B at*
 generalize v+s*w=x at*
 generalize v+B=vb at*
 generalize v-B=va at*
 grind
theorem yq5 (m s v:Rat) (hs:0<s):maxQ (-m) (minQ m (-(v / s)))=brakingQ m s v:=by
 unfold brakingQ
 have:-(v / s)=-v / s:=by rw [Rat.div_def,Rat.div_def,Rat.neg_mul]
 rw [this]
end Go.Ev
