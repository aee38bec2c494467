import Derived.Test.YthghhnhojdmcpaaGreatP4
import Derived.Test.YthghhnhojdmcpaaGreatP1
import Derived.Laws.Strings
set_option linter.all false
namespace Go.Ev
open Go.Dig
theorem yca {n:Nat} {f:FuncId} {r:SV} {es:List (List AV)} (h:evV E n f [.one (.sl false es)]=some r) (hc:CanonEs es) {ob:Nat→Option AObj} {fz:Nat→Nat} {id ver sz z:Nat} {full:Bool} (hr:rowAt ob id ver=some (z,es)):
  callV (evF E n) f [.one (.rsl id ver sz 0 es.length full)] ob fz=some (.fzd (raise fz id es.length) r):=by
 rw [y6r]
 have h1:=yak (sz:=sz) (full:=full) fz hr (lo:=0) (len:=es.length) (by simp) hc
 simp only [List.drop_zero,Nat.zero_add,List.take_length] at h1
 simp only [mapFz,h1,h,Option.map_some]
theorem canonEs2 {a b:List AV} (ha:CanL a) (hb:CanL b):CanonEs [a,b]:=fun e he x hx=>by
 simp only [List.mem_cons,List.not_mem_nil,or_false] at he
 rcases he with rfl | rfl
 ·exact ha x hx
 ·exact hb x hx
theorem canonEs1 {a:List AV} (ha:CanL a):CanonEs [a]:=fun e he x hx=>by
 simp only [List.mem_cons,List.not_mem_nil,or_false] at he
 subst he
 exact ha x hx
def minQ (a b:Rat):Rat:=if cmpQ b a<0 then b else a
def maxQ (a b:Rat):Rat:=if cmpQ b a>0 then b else a
theorem yvl {S:Nat} (a b:Rat) (ha:SmQ S a) (hb:SmQ S b) (hS:S≤2^30):Ends Id.y5z [.one (.sl false [qC a,qC b])] (.agg (qC (minQ a b))):=by
 refine .of (4*(S+S)+110) fun {n} hn=> ?_
 obtain ⟨n,rfl⟩:∃m,n=m+2:=⟨n-2,by omega⟩
 have h:=y01 (ylx Id.y4q a b _ (n:=n+1) (by omega) (yvw b a hb ha (by omega) (n:=n) (by omega))) (can2 (.one _ (.fn _)) (.one _ (.sl _)))
 rw [y02 yon]
 have e:(if decide (cmpQ b a<0)=true then b else a)=minQ a b:=by unfold minQ;simp
 rw [e] at h
 unfold qV at h
 obtain ⟨a1,a2,a3,ea,f1,f2,f3⟩:=y08 (minQ a b)
 rw [ea] at h ⊢
 unfold Fz at*
 simp only [go_sem,Fn.y5z,h,f1,f2,f3]
theorem yxy {S:Nat} (a b:Rat) (ha:SmQ S a) (hb:SmQ S b) (hS:S≤2^30):Ends Id.y61 [.one (.sl false [qC a,qC b])] (.agg (qC (maxQ a b))):=by
 refine .of (4*(S+S)+110) fun {n} hn=> ?_
 obtain ⟨n,rfl⟩:∃m,n=m+2:=⟨n-2,by omega⟩
 have h:=y01 (ylx Id.y4r a b _ (n:=n+1) (by omega) (yw2 b a hb ha (by omega) (n:=n) (by omega))) (can2 (.one _ (.fn _)) (.one _ (.sl _)))
 rw [y02 yoo]
 have e:(if decide (cmpQ b a>0)=true then b else a)=maxQ a b:=by unfold maxQ;simp
 rw [e] at h
 unfold qV at h
 obtain ⟨a1,a2,a3,ea,f1,f2,f3⟩:=y08 (maxQ a b)
 rw [ea] at h ⊢
 unfold Fz at*
 simp only [go_sem,Fn.y61,h,f1,f2,f3]
theorem SmQ.min {S:Nat} {a b:Rat} (ha:SmQ S a) (hb:SmQ S b):SmQ S (minQ a b):=by unfold minQ;split<;>assumption
theorem SmQ.max {S:Nat} {a b:Rat} (ha:SmQ S a) (hb:SmQ S b):SmQ S (maxQ a b):=by unfold maxQ;split<;>assumption
def clampQ (q lo hi:Rat):Rat:=maxQ lo (minQ hi q)
theorem SmQ.clamp {S:Nat} {q lo hi:Rat} (h:SmQ S q) (h1:SmQ S lo) (h2:SmQ S hi):SmQ S (clampQ q lo hi):=h1.max (h2.min h)
theorem yrr {S:Nat} (q lo hi:Rat) (h:SmQ S q) (h1:SmQ S lo) (h2:SmQ S hi) (hS:S≤2^30):Ends Id.y4i [.agg (qC q),.agg (qC lo),.agg (qC hi)] (.agg (qC (clampQ q lo hi))):=by
 obtain ⟨N1,k1⟩:=yvl hi q h2 h hS
 obtain ⟨N2,k2⟩:=yxy lo (minQ hi q) h1 (h2.min h) hS
 refine .of (N1+N2) fun {n} hn=> ?_
 have k1:=fun ob fz (hr:rowAt ob 7 0=some (3,[qC hi,qC q]))=>yca (sz:=3) (full:=false) (fz:=fz) (k1 n (by omega)) (canonEs2 (.q _) (.q _)) hr
 have k2:=fun ob fz (hr:rowAt ob 9 0=some (3,[qC lo,qC (minQ hi q)]))=>yca (sz:=3) (full:=false) (fz:=fz) (k2 n (by omega)) (canonEs2 (.q _) (.q _)) hr
 rw [y02 yoa]
 unfold clampQ
 generalize minQ hi q=m at*
 generalize maxQ lo m=r at*
 obtain ⟨a1,a2,a3,ea,-,-,-⟩:=y08 q
 obtain ⟨b1,b2,b3,eb,-,-,-⟩:=y08 lo
 obtain ⟨c1,c2,c3,ec,-,-,-⟩:=y08 hi
 obtain ⟨d1,d2,d3,ed,-,-,-⟩:=y08 m
 obtain ⟨e1,e2,e3,ee,f1,f2,f3⟩:=y08 r
 rw [ea,ec,ed] at k1
 rw [eb,ed,ee] at k2
 rw [ea,eb,ec,ee]
 have k1:=fun ob fz=>k1 (upd ob 7 (.row 3 [[c1,c2,c3],[a1,a2,a3]] 0)) fz y3d
 have k2:=fun ob fz=>k2 (upd ob 9 (.row 3 [[b1,b2,b3],[d1,d2,d3]] 0)) fz y3d
 simp only [List.length_cons,List.length_nil,Nat.zero_add,Nat.reduceAdd] at k1 k2
 unfold Fz at*
 simp only [go_sem,Fn.y4i,k1,k2,f1,f2,f3]
theorem can3 {a b c:SV} (ha:CanS a) (hb:CanS b) (hc:CanS c):∀x∈[a,b,c],CanS x:=fun x hx=>by
 simp only [List.mem_cons,List.not_mem_nil,or_false] at hx
 rcases hx with rfl | rfl | rfl
 ·exact ha
 ·exact hb
 ·exact hc
theorem yi1 {S:Nat} (q lo hi:Rat) (h:SmQ S q) (h1:SmQ S lo) (h2:SmQ S hi) (hS:S≤2^30):Calling Id.y4i [.agg (qC q),.agg (qC lo),.agg (qC hi)] (.agg (qC (clampQ q lo hi))):=
 (yrr q lo hi h h1 h2 hS).call (can3 (y1b _) (y1b _) (y1b _))
theorem yoq {S:Nat} (p:Pt) (q:Rat) (hp:SmQ S p.x) (hq:SmQ S q) (hS:S≤2^30):∃N,∀n,N≤n→evV E n Id.y0j [.agg p.c,.agg (qC q)]=some (.one (.int .i64 (cmpQ p.x q))):=by
 obtain ⟨N1,k1⟩:=y8o p.x q hp hq hS
 refine Ends.of N1 fun {n} hn=> ?_
 have k1:=k1 n (by omega)
 rw [y02 yc5]
 obtain ⟨a1,a2,a3,a4,a5,a6,ea,eb,ec⟩:=y5u p
 obtain ⟨b1,b2,b3,ed,-,-,-⟩:=y08 q
 rw [ea,ed] at k1
 rw [ec,ed]
 simp only [go_sem,Fn.y0j,k1]
def bs (l:List Pt) (q:Rat):Nat→Nat→Nat→Nat
 | 0,lo,_=>lo
 | m+1,lo,hi=>if lo<hi then (if cmpQ ((l[(lo+hi) / 2]?).getD ⟨0,0⟩).x q<0 then bs l q m ((lo+hi) / 2+1) hi else bs l q m lo ((lo+hi) / 2)) else lo
theorem bs_le (l:List Pt) (q:Rat):∀m lo hi,lo≤hi→bs l q m lo hi≤hi
 | 0,lo,hi,h=>h
 | m+1,lo,hi,h=>by
  unfold bs
  split
  ·split
   ·exact bs_le l q m _ _ (by omega)
   ·exact Nat.le_trans (bs_le l q m _ _ (by omega)) (by omega)
  ·exact h
theorem yyu {n id:Nat} {ob:Nat→Option AObj} {fz:Nat→Nat} {nx:Nat} (l:List Pt) (q:Rat) (hl:l.length<2^60) (hid:id<nx) (hob:ob id=some (.box (qC q))) (hc:∀p∈l,∀(ob:Nat→Option AObj) (fz:Nat→Nat),callV (evF E n) Id.y0j [.agg p.c,.agg (qC q)] ob fz=some (.fzd fz (.one (.int .i64 (cmpQ p.x q))))):∀(m lo hi:Nat),hi-lo≤m→lo≤hi→hi≤l.length→∀(X:List (Nat×SV)) (N:Nat),m<N→∃X',
  loopN (evC (evF E n) n Fn.y0e) N ⟨env ((0,.one (.sl false (l.map Pt.c)))::(2,.one (.fn Id.y0j [] []))::(4,.one (.box id 0))::(8,.one (.int .i64 (l.length:Int)))::(9,.one (.int .i64 (lo:Int)))::(10,.one (.int .i64 (hi:Int)))::X),ob,fz,nx⟩=
   some (.ext 0,⟨env ((0,.one (.sl false (l.map Pt.c)))::(2,.one (.fn Id.y0j [] []))::(4,.one (.box id 0))::(8,.one (.int .i64 (l.length:Int)))::(9,.one (.int .i64 (bs l q m lo hi:Int)))::X'),ob,fz,nx⟩):=by
 intro m
 induction m with
 | zero=>
  intro lo hi h1 h2 h3 X N hN
  obtain ⟨M,rfl⟩:∃M,N=M+1:=⟨N-1,by omega⟩
  have g:(((lo:Nat):Int)<((hi:Nat):Int))=False:=by simp only [eq_iff_iff,iff_false];omega
  refine ⟨[(10,.one (.int .i64 (hi:Int))),(17,.one (.bool false))],y06 ?_⟩
  unfold bs
  simp only [go_sem,Fn.y0e,g]
 | succ m ih=>
  intro lo hi h1 h2 h3 X N hN
  obtain ⟨M,rfl⟩:∃M,N=M+1:=⟨N-1,by omega⟩
  by_cases hlt:lo<hi
  ·have g:(((lo:Nat):Int)<((hi:Nat):Int))=True:=by simp;omega
   have ha:IntKind.i64.wrap ((lo:Int)+(hi:Int))=((lo+hi:Nat):Int):=addi64 _ _ (by omega)
   have hu:IntKind.u64.wrap ((lo+hi:Nat):Int)=((lo+hi:Nat):Int):=w64 (by omega)
   have hs:shiftI .shr .u64 ((lo+hi:Nat):Int) 1=some (.int .u64 (((lo+hi) / 2:Nat):Int)):=y9c .u64 (lo+hi) 1 (by decide)
   have hi':IntKind.i64.wrap (((lo+hi) / 2:Nat):Int)=(((lo+hi) / 2:Nat):Int):=wi64 (by omega)
   obtain ⟨h,hh⟩:∃h,h=(lo+hi) / 2:=⟨_,rfl⟩
   have hhl:h<l.length:=by omega
   have m1:hi-(h+1)≤m:=by omega
   have m2:h+1≤hi:=by omega
   have m3:h-lo≤m:=by omega
   have m4:lo≤h:=by omega
   have m5:h≤l.length:=by omega
   have w1:IntKind.i64.wrap ((h+1:Nat):Int)=((h+1:Nat):Int):=wi64 (by omega)
   have okz:okSz 6 (l.map Pt.c)=true:=y1m yam l
   have hcc:=hc l[h] (by simp)
   have gd:(l.map Pt.c)[h]? =some l[h].c:=by rw [List.getElem?_map,List.getElem?_eq_getElem hhl];rfl
   have gq:l[h]? =some l[h]:=by simp
   unfold bs
   rw [if_pos hlt]
   rw [←hh] at hs hi' ⊢
   rw [gq,Option.getD_some]
   generalize l[h]=p at*
   obtain ⟨a1,a2,a3,a4,a5,a6,-,-,ec⟩:=y5u p
   obtain ⟨b1,b2,b3,ed,-,-,-⟩:=y08 q
   rw [ec] at gd hcc
   rw [ed] at hcc hob
   have hidT:(id<nx)=True:=by simp [hid]
   generalize lo+hi=lh at*
   generalize cmpQ p.x q=k at*
   by_cases hk:k<0
   ·rw [if_pos hk]
    obtain ⟨X',hX⟩:=ih (h+1) hi m1 m2 h3 [] M (by omega)
    refine ⟨X', ?_⟩
    have hst:evC (evF E n) n Fn.y0e ⟨env ((0,.one (.sl false (l.map Pt.c)))::(2,.one (.fn Id.y0j [] []))::(4,.one (.box id 0))::(8,.one (.int .i64 (l.length:Int)))::(9,.one (.int .i64 (lo:Int)))::(10,.one (.int .i64 (hi:Int)))::X),ob,fz,nx⟩=some (.nrm,⟨env [(0,.one (.sl false (l.map Pt.c))),(2,.one (.fn Id.y0j [] [])),(4,.one (.box id 0)),(8,.one (.int .i64 (l.length:Int))),(9,.one (.int .i64 ((h+1:Nat):Int))),(10,.one (.int .i64 (hi:Int)))],ob,fz,nx⟩):=by
     simp only [go_sem,Fn.y0e,g,ha,hu,hs,hi',gd,okz,hob,hidT,hcc,hk,add1,w1]
    rw [y05 hst,hX]
   ·rw [if_neg hk]
    obtain ⟨X',hX⟩:=ih lo h m3 m4 m5 [] M (by omega)
    refine ⟨X', ?_⟩
    have hst:evC (evF E n) n Fn.y0e ⟨env ((0,.one (.sl false (l.map Pt.c)))::(2,.one (.fn Id.y0j [] []))::(4,.one (.box id 0))::(8,.one (.int .i64 (l.length:Int)))::(9,.one (.int .i64 (lo:Int)))::(10,.one (.int .i64 (hi:Int)))::X),ob,fz,nx⟩=some (.nrm,⟨env [(0,.one (.sl false (l.map Pt.c))),(2,.one (.fn Id.y0j [] [])),(4,.one (.box id 0)),(8,.one (.int .i64 (l.length:Int))),(9,.one (.int .i64 (lo:Int))),(10,.one (.int .i64 (h:Int)))],ob,fz,nx⟩):=by
     simp only [go_sem,Fn.y0e,g,ha,hu,hs,hi',gd,okz,hob,hidT,hcc,hk]
    rw [y05 hst,hX]
  ·have g:(((lo:Nat):Int)<((hi:Nat):Int))=False:=by simp only [eq_iff_iff,iff_false];omega
   refine ⟨[(10,.one (.int .i64 (hi:Int))),(17,.one (.bool false))],y06 ?_⟩
   unfold bs
   rw [if_neg hlt]
   simp only [go_sem,Fn.y0e,g]
def place (l:List Pt) (q:Rat):Nat:=bs l q l.length 0 l.length
theorem ycp (l:List Pt) (q:Rat):place l q≤l.length:=bs_le l q _ _ _ (Nat.zero_le _)
theorem yp7 {S:Nat} (l:List Pt) (q:Rat) (hl:l.length<2^60) (hp:∀p∈l,SmQ S p.x) (hq:SmQ S q) (hS:S≤2^30):∃b,Ends Id.y04 [.one (.sl false (l.map Pt.c)),.agg (qC q),.one (.fn Id.y0j [] [])] (.tup [.one (.int .i64 (place l q:Int)),.one (.bool b)]):=by
 obtain ⟨N,hN⟩:∃N,∀n,N≤n→∀p∈l,∀(ob:Nat→Option AObj) (fz:Nat→Nat),callV (evF E n) Id.y0j [.agg p.c,.agg (qC q)] ob fz=some (.fzd fz (.one (.int .i64 (cmpQ p.x q)))):=by
  clear hl
  induction l with
  | nil=>exact ⟨0,fun _ _ _ h=>by simp at h⟩
  | cons c r ih=>
   obtain ⟨Na,ka⟩:=(yoq c q (hp c (by simp)) hq hS)
   obtain ⟨Nb,kb⟩:=ih (fun c hc=>hp c (by simp [hc]))
   refine ⟨Na+Nb,fun n hn y hy=> ?_⟩
   rcases List.mem_cons.1 hy with rfl | e
   ·exact y01 (ka n (by omega)) (can2 (CanL.pt _).agg (y1b _))
   ·exact kb n (by omega) y e
 have hk:=ycp l q
 refine ⟨if place l q<l.length then cmpQ ((l[place l q]?).getD ⟨0,0⟩).x q==0 else false,Ends.of (N+l.length+1) fun {n} hn=> ?_⟩
 rw [y02 y68]
 have hc:=hN n (by omega)
 obtain ⟨X',hlo⟩:=yyu (n:=n) (id:=0) (fz:=fz0) (nx:=3) (ob:=upd ob0 0 (.box (qC q))) l q hl (by decide) (upd_same _ _ _) hc l.length 0 l.length (by omega) (by omega) (Nat.le_refl _) [] n (by omega)
 rw [show bs l q l.length 0 l.length=place l q from rfl,show ((0:Nat):Int)=0 from rfl] at hlo
 have okz:okSz 6 (l.map Pt.c)=true:=y1m yam l
 obtain ⟨b1,b2,b3,ed,-,-,-⟩:=y08 q
 rw [ed] at hc hlo ⊢
 generalize place l q=k at*
 by_cases hlt:k<l.length
 ·have g:(((k:Nat):Int)<((l.length:Nat):Int))=True:=by simp;omega
  have hcc:=hc l[k] (by simp)
  have gd:(l.map Pt.c)[k]? =some l[k].c:=by rw [List.getElem?_map,List.getElem?_eq_getElem hlt];rfl
  have gq:l[k]? =some l[k]:=by simp
  rw [if_pos hlt,gq,Option.getD_some]
  generalize l[k]=p at*
  obtain ⟨a1,a2,a3,a4,a5,a6,-,-,ec⟩:=y5u p
  rw [ec] at gd hcc
  simp only [go_sem,Fn.y04,List.length_map,hlo,g,gd,okz,hcc]
 ·have g:(((k:Nat):Int)<((l.length:Nat):Int))=False:=by simp only [eq_iff_iff,iff_false];omega
  rw [if_neg hlt]
  simp only [go_sem,Fn.y04,List.length_map,hlo,g]
theorem yom {S:Nat} (l:List Pt) (q:Rat) (hl:l.length<2^60) (hp:∀p∈l,SmQ S p.x) (hq:SmQ S q) (hS:S≤2^30):∃b,Calling Id.y04 [.one (.sl false (l.map Pt.c)),.agg (qC q),.one (.fn Id.y0j [] [])] (.tup [.one (.int .i64 (place l q:Int)),.one (.bool b)]):=by
 obtain ⟨b,h⟩:=yp7 l q hl hp hq hS
 exact ⟨b,h.call (can3 (.one _ (.sl _)) (y1b _) (.one _ (.fn _)))⟩
end Go.Ev
namespace Go.Ev
open Go.Dig
theorem ygi {S T:Nat} (a b:Rat) (ha:SmQ S a) (hb:SmQ T b) (hS:S+T<2^36):Calling Id.y3b [.agg (qC a),.agg (qC b)] (.agg (qC (a-b))):=
 (Ends.of (K (S+T+1)+4) fun hn=>yq8 a b ha hb hS hn:Ends Id.y3b [.agg (qC a),.agg (qC b)] (.agg (qC (a-b)))).call (can2 (y1b _) (y1b _))
theorem yxu {S T:Nat} (a b:Rat) (ha:SmQ S a) (hb:SmQ T b) (hS:S+T<2^36):Calling Id.y23 [.agg (qC a),.agg (qC b)] (.agg (qC (a+b))):=
 (Ends.of (K (S+T+1)+2) fun hn=>ya6 a b ha hb hS hn:Ends Id.y23 [.agg (qC a),.agg (qC b)] (.agg (qC (a+b)))).call (can2 (y1b _) (y1b _))
theorem yc6 {S T:Nat} (a b:Rat) (ha:SmQ S a) (hb:SmQ T b) (hS:S+T<2^36):Calling Id.y1t [.agg (qC a),.agg (qC b)] (.agg (qC (a*b))):=
 (Ends.of (K (S+T)+2) fun hn=>yj6 a b ha hb hS hn:Ends Id.y1t [.agg (qC a),.agg (qC b)] (.agg (qC (a*b)))).call (can2 (y1b _) (y1b _))
theorem ywz {S T:Nat} (a b:Rat) (h0:b.num≠0) (ha:SmQ S a) (hb:SmQ T b) (hS:S+T<2^36):Calling Id.y4m [.agg (qC a),.agg (qC b)] (.tup [.agg (qC (a / b)),.one (.int .i64 0)]):=
 (Ends.of (K (S+T)+4) fun hn=>yza a b h0 ha hb hS hn:Ends Id.y4m [.agg (qC a),.agg (qC b)] (.tup [.agg (qC (a / b)),.one (.int .i64 0)])).call (can2 (y1b _) (y1b _))
theorem yxp (a:Rat):Calling Id.y46 [.agg (qC a)] (.agg (qC (-a))):=
 (Ends.of 1 fun {n} hn=>by obtain ⟨m,rfl⟩:∃m,n=m+1:=⟨n-1,by omega⟩;exact yq1 a m:Ends Id.y46 [.agg (qC a)] (.agg (qC (-a)))).call (can1 (y1b _))
theorem yva (z:Int) (h1:-9223372036854775808≤z) (h2:z<9223372036854775808):Calling Id.y2n [.one (.int .i64 z)] (.agg (qC (Rat.ofInt z))):=
 (Ends.of 8 fun hn=>yyz z h1 h2 hn:Ends Id.y2n [.one (.int .i64 z)] (.agg (qC (Rat.ofInt z)))).call (can1 (y2j _ _))
theorem SmQ.one:SmQ 1 (Rat.ofInt 1):=⟨by decide,by decide⟩
theorem yus (a:Rat):cmpQ a a=0:=by
 unfold cmpQ cmpZ
 rw [if_neg (Int.lt_irrefl _),if_neg (Int.lt_irrefl _)]
theorem yj7 {a b:Rat} (h:cmpQ a b<0):(b-a).num≠0:=by
 intro e
 have h0:b-a=0:=Rat.num_eq_zero.1 e
 have h1:b=a:=by
  have:b-a+a=0+a:=by rw [h0]
  rw [Rat.sub_add_cancel,Rat.zero_add] at this
  exact this
 subst h1
 rw [yus] at h
 exact absurd h (by decide)
theorem ycn:∀(l:List Pt) (k:Nat) (h:k+1<l.length),incC l=true→cmpQ (l[k]'(by omega)).x l[k+1].x<0
 | [],k,h,_=>by simp at h
 | [a],k,h,_=>by simp at h
 | a::b::r,0,h,hi=>by
  simp only [incC,Bool.and_eq_true,decide_eq_true_eq] at hi
  exact hi.1
 | a::b::r,k+1,h,hi=>by
  simp only [incC,Bool.and_eq_true,decide_eq_true_eq] at hi
  exact ycn (b::r) k (by simpa using h) hi.2
def partC (p:Nat×Rat):List AV:=.int .i64 (p.1:Int)::qC p.2
theorem CanL.part (p:Nat×Rat):CanL (partC p):=.cons (.int _ _) (.q _)
def ptAt (l:List Pt) (k:Nat):Pt:=(l[k]?).getD ⟨0,0⟩
def shareQ (l:List Pt) (q:Rat) (k:Nat):Rat:=(q-(ptAt l (k-1)).x) / ((ptAt l k).x-(ptAt l (k-1)).x)
def partsL (l:List Pt) (q:Rat):List (Nat×Rat):=
 if place l q=l.length then [(place l q-1,Rat.ofInt 1)]
 else if place l q=0 then [(place l q,Rat.ofInt 1)]
 else if cmpQ (ptAt l (place l q)).x q=0 then [(place l q,Rat.ofInt 1)]
 else [(place l q-1,Rat.ofInt 1-shareQ l q (place l q)),(place l q,shareQ l q (place l q))]
theorem yce {ob:Nat→Option AObj} {id:Nat} {es:List (List AV)} (hc:CanonEs es) (fz:Nat→Nat) (full:Bool):frzS (upd ob id (.row 4 es 0)) fz (.one (.rsl id 0 4 0 es.length full))=some (raise fz id es.length,.one (.sl false es)):=by
 have h1:=yak (sz:=4) (full:=full) fz (y3d (ob:=ob) (id:=id) (ver:=0) (sz:=4) (es:=es)) (lo:=0) (len:=es.length) (by simp) hc
 simpa only [List.drop_zero,Nat.zero_add,List.take_length] using h1
theorem yqq (l:List Pt) (q:Rat) (hl:l.length<2^20) (h1:1≤l.length) (hi:incC l=true) (hp:∀p∈l,SmPt p) (hq:SmQ 256 q):Ends Id.y1y [.one (.sl false (l.map Pt.c)),.agg (qC q)] (.one (.sl false ((partsL l q).map partC))):=by
 obtain ⟨b,N1,k1⟩:=yom (S:=256) l q (Nat.lt_trans hl (by decide)) (fun p h=>(hp p h).x) hq (by decide)
 obtain ⟨N2,k2⟩:=yva 1 (by decide) (by decide)
 have hk:=ycp l q
 have okz:okSz 6 (l.map Pt.c)=true:=y1m yam l
 have n0:((1:Nat):Int)=1:=rfl
 unfold partsL
 by_cases c1:place l q=l.length
 ·rw [if_pos c1]
  refine .of (N1+N2) fun {n} hn=> ?_
  have k1:=k1 n (by omega)
  have k2:=k2 n (by omega)
  rw [y02 y7d]
  rw [c1] at k1 ⊢
  have w1:IntKind.i64.wrap ((l.length:Int)-1)=((l.length-1:Nat):Int):=by rw [wrap_i64 (by omega)];omega
  have hf:=fun ob id fz full=>yce (ob:=ob) (id:=id) (canonEs1 (CanL.part (l.length-1,Rat.ofInt 1))) fz full
  unfold partC at hf
  simp only [List.map_cons,List.map_nil]
  unfold partC
  obtain ⟨a1,a2,a3,ea,-,-,-⟩:=y08 q
  obtain ⟨b1,b2,b3,eb,-,-,-⟩:=y08 (Rat.ofInt 1)
  dsimp only at hf ⊢
  rw [eb] at hf k2 ⊢
  rw [ea] at k1 ⊢
  simp only [List.length_cons,List.length_nil,Nat.zero_add] at hf
  simp only [go_sem,Fn.y1y,List.length_map,k1,k2,beq_self_eq_true,w1,hf]
 rw [if_neg c1]
 have hkl:place l q<l.length:=by omega
 have e1:(((place l q:Nat):Int)==((l.length:Nat):Int))=false:=by simp only [beq_eq_false_iff_ne,ne_eq];omega
 by_cases c2:place l q=0
 ·rw [if_pos c2]
  refine .of (N1+N2) fun {n} hn=> ?_
  have k1:=k1 n (by omega)
  have k2:=k2 n (by omega)
  rw [y02 y7d]
  rw [c2] at k1 e1 ⊢
  have hf:=fun ob id fz full=>yce (ob:=ob) (id:=id) (canonEs1 (CanL.part (0,Rat.ofInt 1))) fz full
  unfold partC at hf
  simp only [List.map_cons,List.map_nil]
  unfold partC
  obtain ⟨a1,a2,a3,ea,-,-,-⟩:=y08 q
  obtain ⟨b1,b2,b3,eb,-,-,-⟩:=y08 (Rat.ofInt 1)
  dsimp only at hf ⊢
  rw [eb] at hf k2 ⊢
  rw [ea] at k1 ⊢
  have e2:(((0:Nat):Int)==0)=true:=rfl
  simp only [List.length_cons,List.length_nil,Nat.zero_add] at hf
  simp only [go_sem,Fn.y1y,List.length_map,k1,k2,e1,e2,hf]
 rw [if_neg c2]
 have e2:(((place l q:Nat):Int)==0)=false:=by simp only [beq_eq_false_iff_ne,ne_eq];omega
 have gk:l[place l q]? =some l[place l q]:=by simp
 have gk1:l[place l q-1]? =some (l[place l q-1]'(by omega)):=List.getElem?_eq_getElem _
 have pk:ptAt l (place l q)=l[place l q]:=by unfold ptAt;rw [gk];rfl
 have pk1:ptAt l (place l q-1)=l[place l q-1]'(by omega):=by unfold ptAt;rw [gk1];rfl
 have hm:ptAt l (place l q)∈l:=by rw [pk];simp
 have hm1:ptAt l (place l q-1)∈l:=by rw [pk1];simp
 have hk':l[place l q]? =some (ptAt l (place l q)):=by rw [pk,gk]
 have hk1':l[place l q-1]? =some (ptAt l (place l q-1)):=by rw [pk1,gk1]
 have hinc:cmpQ (ptAt l (place l q-1)).x (ptAt l (place l q)).x<0:=by
  have h:=ycn l (place l q-1) (by omega) hi
  rw [pk,pk1]
  simpa only [Nat.sub_add_cancel (show 1≤place l q by omega)] using h
 have w1:IntKind.i64.wrap ((place l q:Int)-1)=((place l q-1:Nat):Int):=by rw [wrap_i64 (by omega)];omega
 unfold shareQ
 clear pk pk1 gk gk1
 generalize place l q=k at*
 generalize ptAt l k=P at*
 generalize ptAt l (k-1)=P1 at*
 have ge:(l.map Pt.c)[k]? =some P.c:=by rw [List.getElem?_map,hk'];rfl
 have ge1:(l.map Pt.c)[k-1]? =some P1.c:=by rw [List.getElem?_map,hk1'];rfl
 obtain ⟨N3,k3⟩:=y8o P.x q (hp P hm).x hq (by decide)
 by_cases c3:cmpQ P.x q=0
 ·rw [if_pos c3]
  refine .of (N1+N2+N3) fun {n} hn=> ?_
  have k1:=k1 n (by omega)
  have k2:=k2 n (by omega)
  have k3:=k3 n (by omega)
  rw [y02 y7d]
  have hf:=fun ob id fz full=>yce (ob:=ob) (id:=id) (canonEs1 (CanL.part (k,Rat.ofInt 1))) fz full
  unfold partC at hf
  simp only [List.map_cons,List.map_nil]
  unfold partC
  obtain ⟨p1,p2,p3,p4,p5,p6,ep,-,ep'⟩:=y5u P
  obtain ⟨a1,a2,a3,ea,-,-,-⟩:=y08 q
  obtain ⟨b1,b2,b3,eb,-,-,-⟩:=y08 (Rat.ofInt 1)
  dsimp only at hf ⊢
  rw [eb] at hf k2 ⊢
  rw [ea] at k1 k3 ⊢
  rw [ep,c3] at k3
  rw [ep'] at ge
  have e3:((0:Int)==0)=true:=rfl
  simp only [List.length_cons,List.length_nil,Nat.zero_add] at hf
  simp only [go_sem,Fn.y1y,List.length_map,k1,k2,k3,e1,e2,e3,ge,okz,hf]
 ·rw [if_neg c3]
  have s1:=(SmQ.sub hq (hp P1 hm1).x)
  have s2:=(SmQ.sub (hp P hm).x (hp P1 hm1).x)
  have s3:=SmQ.div (yj7 hinc) s1 s2
  obtain ⟨N4,k4⟩:=ygi q P1.x hq (hp P1 hm1).x (by decide)
  obtain ⟨N5,k5⟩:=ygi P.x P1.x (hp P hm).x (hp P1 hm1).x (by decide)
  obtain ⟨N6,k6⟩:=ywz (q-P1.x) (P.x-P1.x) (yj7 hinc) s1 s2 (by decide)
  obtain ⟨N7,k7⟩:=ygi (Rat.ofInt 1) ((q-P1.x) / (P.x-P1.x)) SmQ.one s3 (by decide)
  refine .of (N1+N2+N3+N4+N5+N6+N7) fun {n} hn=> ?_
  have k1:=k1 n (by omega)
  have k2:=k2 n (by omega)
  have k3:=k3 n (by omega)
  have k4:=k4 n (by omega)
  have k5:=k5 n (by omega)
  have k6:=k6 n (by omega)
  have k7:=k7 n (by omega)
  rw [y02 y7d]
  generalize (q-P1.x) / (P.x-P1.x)=sh at*
  generalize Rat.ofInt 1-sh=os at*
  have hf:=fun ob id fz full=>yce (ob:=ob) (id:=id) (canonEs2 (CanL.part (k-1,os)) (CanL.part (k,sh))) fz full
  unfold partC at hf
  simp only [List.map_cons,List.map_nil]
  unfold partC
  obtain ⟨p1,p2,p3,p4,p5,p6,ep,-,ep'⟩:=y5u P
  obtain ⟨r1,r2,r3,r4,r5,r6,er,-,er'⟩:=y5u P1
  obtain ⟨a1,a2,a3,ea,-,-,-⟩:=y08 q
  obtain ⟨b1,b2,b3,eb,-,-,-⟩:=y08 (Rat.ofInt 1)
  obtain ⟨d1,d2,d3,ed,-,-,-⟩:=y08 sh
  obtain ⟨g1,g2,g3,eg,-,-,-⟩:=y08 os
  obtain ⟨h1',h2',h3',eh,-,-,-⟩:=y08 (q-P1.x)
  obtain ⟨i1,i2,i3,ei,-,-,-⟩:=y08 (P.x-P1.x)
  have e3:(cmpQ P.x q==0)=false:=by simpa using c3
  dsimp only at hf ⊢
  rw [ed,eg] at hf ⊢
  rw [eb] at k2
  rw [ea] at k1 k3 ⊢
  rw [ep] at k3
  rw [ea,er,eh] at k4
  rw [ep,er,ei] at k5
  rw [eh,ei,ed] at k6
  rw [eb,ed,eg] at k7
  rw [ep'] at ge
  rw [er'] at ge1
  simp only [List.length_cons,List.length_nil,Nat.zero_add] at hf
  simp only [go_sem,Fn.y1y,List.length_map,k1,k2,k3,k4,k5,k6,k7,e1,e2,e3,ge,ge1,okz,w1,hf]
end Go.Ev
namespace Go.Ev
open Go.Dig
theorem ybx:qC 0=[.bool false,.sl false [],.sl false []]:=by
 unfold qC natV
 have e1:((0:Rat).num.natAbs)=0:=rfl
 have e2:((0:Rat).den-1)=0:=rfl
 rw [e1,e2,y0s]
 rfl
theorem ycm {n:Nat} {f:FuncId} {r y:SV} (h:evV E n f [.agg (qC 0),y]=some r) (hy:CanS y) (ob:Nat→Option AObj) (fz:Nat→Nat):callV (evF E n) f [.agg [.bool false,.nils,.nils],y] ob fz=some (.fzd fz r):=by
 have h2:=y01 h (can2 (y1b 0) hy) ob fz
 rw [y6r] at h2 ⊢
 have e:mapFz (frzS ob) fz [.agg [.bool false,.nils,.nils],y]=mapFz (frzS ob) fz [.agg (qC 0),y]:=by
  rw [ybx]
  simp only [mapFz,yjj,yub]
 rw [e]
 exact h2
def atQ (l:List Pt) (q:Rat):Rat:=(partsL l q).foldl (fun m p=>m+(ptAt l p.1).z*p.2) 0
theorem ygz {n b5:Nat} {ob:Nat→Option AObj} {fz:Nat→Nat} {nx i:Nat} {m1 m2 m3:AV} (l:List Pt) (ps:List (Nat×Rat)) (p:Nat×Rat) (P:Pt) (m':Rat) (gp:ps[i]? =some p) (hi:i<ps.length) (hps:ps.length<2^20) (hk:l[p.1]? =some P) (h5:b5<nx) (o5:ob b5=some (.box [m1,m2,m3]))
  (hm:∀(ob:Nat→Option AObj) (fz:Nat→Nat),callV (evF E n) Id.y1t [.agg (qC P.z),.agg (qC p.2)] ob fz=some (.fzd fz (.agg (qC (P.z*p.2)))))
  (ha:∀(ob:Nat→Option AObj) (fz:Nat→Nat),callV (evF E n) Id.y23 [.agg [m1,m2,m3],.agg (qC (P.z*p.2))] ob fz=some (.fzd fz (.agg (qC m')))) (x4:SV) (X:List (Nat×SV)):
  ∃ob':Nat→Option AObj,evC (evF E n) n Fn.y54 ⟨env ((0,.one (.sl false (l.map Pt.c)))::(4,x4)::(5,.one (.box b5 0))::(10,.one (.sl false (ps.map partC)))::(11,.one (.int .i64 (ps.length:Int)))::(12,.one (.int .i64 (i:Int)))::X),ob,fz,nx⟩=
   some (.nrm,⟨env [(0,.one (.sl false (l.map Pt.c))),(4,x4),(5,.one (.box b5 0)),(10,.one (.sl false (ps.map partC))),(11,.one (.int .i64 (ps.length:Int))),(12,.one (.int .i64 ((i+1:Nat):Int)))],ob',fz,nx+4⟩)∧ob' b5=some (.box (qC m'))∧∀id,id<nx→id≠b5→ob' id=ob id:=by
 have h1:(((i:Nat):Int)<((ps.length:Nat):Int))=True:=by simp;omega
 have wk:IntKind.i64.wrap ((i+1:Nat):Int)=((i+1:Nat):Int):=wi64 (by omega)
 have okz:okSz 6 (l.map Pt.c)=true:=y1m yam l
 have okp:okSz 4 (ps.map partC)=true:=y1m (f:=partC) (k:=4) (fun _=>rfl) ps
 have ge:(ps.map partC)[i]? =some (.int .i64 (p.1:Int)::qC p.2):=by rw [List.getElem?_map,gp];rfl
 have gl:(l.map Pt.c)[p.1]? =some P.c:=by rw [List.getElem?_map,hk];rfl
 obtain ⟨k,sh⟩:=p
 dsimp only at*
 obtain ⟨p1,p2,p3,p4,p5,p6,-,ep,ep'⟩:=y5u P
 obtain ⟨d1,d2,d3,ed,-,-,-⟩:=y08 sh
 obtain ⟨e1,e2,e3,ee,-,-,-⟩:=y08 (P.z*sh)
 obtain ⟨g1,g2,g3,eg,-,-,-⟩:=y08 m'
 rw [ed] at ge
 rw [ep,ed,ee] at hm
 rw [ee,eg] at ha
 rw [ep'] at gl
 rw [eg]
 have n5:∀k,(b5=nx+k)=False:=fun k=>by simp only [eq_iff_iff,iff_false];omega
 have t5:∀k,(b5<nx+k)=True:=fun k=>by simp only [eq_iff_iff,iff_true];omega
 have n5':∀k,(nx+k=b5)=False:=fun k=>by simp only [eq_iff_iff,iff_false];omega
 obtain ⟨r,hr0⟩:∃r,evC (evF E n) n Fn.y54 ⟨env ((0,.one (.sl false (l.map Pt.c)))::(4,x4)::(5,.one (.box b5 0))::(10,.one (.sl false (ps.map partC)))::(11,.one (.int .i64 (ps.length:Int)))::(12,.one (.int .i64 (i:Int)))::X),ob,fz,nx⟩=r:=⟨_,rfl⟩
 have hr:=hr0
 simp only [go_sem,Fn.y54,h1,ge,gl,okz,okp,o5,n5,n5',t5,hm,ha,add1,wk] at hr
 rw [hr0,←hr]
 refine ⟨_,rfl,upd_same _ _ _,fun id q1 q2=> ?_⟩
 have m0:∀k,(id=nx+k)=False:=fun k=>by simp only [eq_iff_iff,iff_false];omega
 have m2':(id=b5)=False:=by simp [q2]
 simp only [y0n,m0,m2',if_false]
theorem ypu {n:Nat} {ob:Nat→Option AObj} {fz:Nat→Nat} {nx i:Nat} (l:List Pt) (ps:List (Nat×Rat)) (hi:i=ps.length) (x4 x5:SV) (X:List (Nat×SV)):∃X',evC (evF E n) n Fn.y54 ⟨env ((0,.one (.sl false (l.map Pt.c)))::(4,x4)::(5,x5)::(10,.one (.sl false (ps.map partC)))::(11,.one (.int .i64 (ps.length:Int)))::(12,.one (.int .i64 (i:Int)))::X),ob,fz,nx⟩=some (.ext 0,⟨env ((0,.one (.sl false (l.map Pt.c)))::(4,x4)::(5,x5)::X'),ob,fz,nx⟩):=by
 have h1:(((i:Nat):Int)<((ps.length:Nat):Int))=False:=by simp only [eq_iff_iff,iff_false];omega
 refine ⟨[(10,.one (.sl false (ps.map partC))),(11,.one (.int .i64 (ps.length:Int))),(12,.one (.int .i64 (i:Int))),(13,.one (.bool false))], ?_⟩
 simp only [go_sem,Fn.y54,h1]
theorem SmQ.zero:SmQ 1 (0:Rat):=⟨by decide,by decide⟩
theorem yue (l:List Pt) (q:Rat) (h1:1≤l.length) (hi:incC l=true) (hp:∀p∈l,SmPt p) (hq:SmQ 256 q):((∃p,partsL l q=[p])∨∃p p',partsL l q=[p,p'])∧∀p∈partsL l q,p.1<l.length∧SmQ 1028 p.2:=by
 have hk:=ycp l q
 unfold partsL
 split
 ·refine ⟨.inl ⟨_,rfl⟩,fun p h=> ?_⟩
  simp only [List.mem_cons,List.not_mem_nil,or_false] at h
  subst h
  exact ⟨by dsimp only;omega,SmQ.mono SmQ.one (by decide)⟩
 ·split
  ·refine ⟨.inl ⟨_,rfl⟩,fun p h=> ?_⟩
   simp only [List.mem_cons,List.not_mem_nil,or_false] at h
   subst h
   exact ⟨by dsimp only;omega,SmQ.mono SmQ.one (by decide)⟩
  ·split
   ·refine ⟨.inl ⟨_,rfl⟩,fun p h=> ?_⟩
    simp only [List.mem_cons,List.not_mem_nil,or_false] at h
    subst h
    exact ⟨by dsimp only;omega,SmQ.mono SmQ.one (by decide)⟩
   ·rename_i c1 c2 c3
    have pk:ptAt l (place l q)=l[place l q]'(by omega):=by unfold ptAt;rw [List.getElem?_eq_getElem (by omega)];rfl
    have pk1:ptAt l (place l q-1)=l[place l q-1]'(by omega):=by unfold ptAt;rw [List.getElem?_eq_getElem (by omega)];rfl
    have hm:ptAt l (place l q)∈l:=by rw [pk];simp
    have hm1:ptAt l (place l q-1)∈l:=by rw [pk1];simp
    have hinc:cmpQ (ptAt l (place l q-1)).x (ptAt l (place l q)).x<0:=by
     have h:=ycn l (place l q-1) (by omega) hi
     rw [pk,pk1]
     simpa only [Nat.sub_add_cancel (show 1≤place l q by omega)] using h
    have hs:SmQ 1026 (shareQ l q (place l q)):=SmQ.div (yj7 hinc) (SmQ.sub hq (hp _ hm1).x) (SmQ.sub (hp _ hm).x (hp _ hm1).x)
    refine ⟨.inr ⟨_,_,rfl⟩,fun p h=> ?_⟩
    simp only [List.mem_cons,List.not_mem_nil,or_false] at h
    rcases h with rfl | rfl
    ·exact ⟨by dsimp only;omega,SmQ.sub SmQ.one hs⟩
    ·exact ⟨by dsimp only;omega,SmQ.mono hs (by decide)⟩
def atT:ACode:=match Fn.y24.code with | .seq _ (.seq _ (.seq _ t))=>t | _=>.skip
theorem yeh (l:List Pt) (q:Rat) (hl:l.length<2^20) (h1:1≤l.length) (hi:incC l=true) (hp:∀p∈l,SmPt p) (hq:SmQ 256 q):Ends Id.y24 [.one (.sl false (l.map Pt.c)),.agg (qC q)] (.agg (qC (atQ l q)))∧SmQ 2571 (atQ l q):=by
 obtain ⟨N0,k0⟩:=(yqq l q hl h1 hi hp hq).call (can2 (.one _ (.sl _)) (y1b _))
 obtain ⟨hs,hok⟩:=yue l q h1 hi hp hq
 have gk:∀k,k<l.length→l[k]? =some (ptAt l k):=fun k hk=>by unfold ptAt;rw [List.getElem?_eq_getElem hk];rfl
 have gm:∀k,k<l.length→ptAt l k∈l:=fun k hk=>by unfold ptAt;rw [List.getElem?_eq_getElem hk];simp
 unfold atQ
 generalize partsL l q=ps at*
 obtain ⟨a1,a2,a3,ea,-,-,-⟩:=y08 q
 rw [ea] at k0 ⊢
 have z0:((0:Nat):Int)=0:=rfl
 have fin:∀(n:Nat) (r:Rat),(∀ob fz,callV (evF E n) Id.y1y [.one (.sl false (l.map Pt.c)),.agg [a1,a2,a3]] ob fz=some (.fzd fz (.one (.sl false (ps.map partC)))))→
   (∀ob:Nat→Option AObj,ob 1=some (.box [.bool false,.nils,.nils])→ob 2=some (.box [.bool false,.nils,.nils])→∃(ob':Nat→Option AObj) (nx':Nat) (X':List (Nat×SV)),loopN (evC (evF E n) n Fn.y54) n ⟨env [(0,.one (.sl false (l.map Pt.c))),(4,.one (.box 1 0)),(5,.one (.box 2 0)),(10,.one (.sl false (ps.map partC))),(11,.one (.int .i64 (ps.length:Int))),(12,.one (.int .i64 0))],ob,fz0,3⟩=some (.ext 0,⟨env ((0,.one (.sl false (l.map Pt.c)))::(4,.one (.box 1 0))::(5,.one (.box 2 0))::X'),ob',fz0,nx'⟩)∧ob' 2=some (.box (qC r))∧ob' 1=some (.box [.bool false,.nils,.nils]))→
   evV E (n+1) Id.y24 [.one (.sl false (l.map Pt.c)),.agg [a1,a2,a3]]=some (.agg (qC r)):=by
  intro n r k0 hlo
  rw [y02 yhu]
  have key:∀(ob:Nat→Option AObj),ob 1=some (.box [.bool false,.nils,.nils])→ob 2=some (.box [.bool false,.nils,.nils])→finV Fn.y24.res (thenC (evF E n) n atT (blkC 0 (loopN (evC (evF E n) n Fn.y54) n ⟨env [(0,.one (.sl false (l.map Pt.c))),(4,.one (.box 1 0)),(5,.one (.box 2 0)),(10,.one (.sl false (ps.map partC))),(11,.one (.int .i64 (ps.length:Int))),(12,.one (.int .i64 0))],ob,fz0,3⟩)))=some (.agg (qC r)):=by
   intro ob o1 o2
   obtain ⟨ob',nx',X',hl,p2,p1⟩:=hlo ob o1 o2
   obtain ⟨g1,g2,g3,eg,f1,f2,f3⟩:=y08 r
   rw [eg] at p2 ⊢
   unfold Fz at*
   unfold atT Fn.y24
   simp only [go_sem,hl,p1,p2,f1,f2,f3]
  unfold Fn.y24
  simp only [go_sem,k0,List.length_map]
  refine key _ ?_ ?_
  ·rfl
  ·rfl
 rcases hs with ⟨p,rfl⟩ | ⟨p,p',rfl⟩
 ·obtain ⟨i1,s1⟩:=hok p (by simp)
  have sm:=SmQ.mul (hp _ (gm _ i1)).z s1
  have sa:=SmQ.add SmQ.zero sm
  obtain ⟨N1,k1⟩:=yc6 _ _ (hp _ (gm _ i1)).z s1 (by decide)
  have k2:=fun n (hn:K (1+(256+1028)+1)+2≤n)=>ycm (ya6 (0:Rat) ((ptAt l p.1).z*p.2) SmQ.zero sm (by decide) (n:=n) hn) (y1b _)
  refine ⟨.of (N0+N1+K (1+(256+1028)+1)+6) fun {n} hn=> ?_,SmQ.mono sa (by decide)⟩
  refine fin n _ (k0 n (by omega)) fun ob o1 o2=> ?_
  obtain ⟨n,rfl⟩:∃m,n=m+2:=⟨n-2,by omega⟩
  obtain ⟨ob',hr,p5,pf⟩:=ygz (n:=n+2) (ob:=ob) (fz:=fz0) (nx:=3) (i:=0) l [p] p _ (0+(ptAt l p.1).z*p.2) rfl (by simp) (by simp) (gk _ i1) (by decide) o2 (k1 _ (by omega)) (k2 (n+1) (by omega)) (.one (.box 1 0)) []
  obtain ⟨X',he⟩:=ypu (n:=n+2) (ob:=ob') (fz:=fz0) (nx:=3+4) (i:=0+1) l [p] rfl (.one (.box 1 0)) (.one (.box 2 0)) []
  refine ⟨ob',3+4,X', ?_,p5,by rw [pf 1 (by decide) (by decide)];exact o1⟩
  rw [z0] at hr
  rw [y05 hr]
  exact y06 he
 ·obtain ⟨i1,s1⟩:=hok p (by simp)
  obtain ⟨i2,s2⟩:=hok p' (by simp)
  have sm:=SmQ.mul (hp _ (gm _ i1)).z s1
  have sa:=SmQ.add SmQ.zero sm
  have sm':=SmQ.mul (hp _ (gm _ i2)).z s2
  have sa':=SmQ.add sa sm'
  obtain ⟨N1,k1⟩:=yc6 _ _ (hp _ (gm _ i1)).z s1 (by decide)
  have k2:=fun n (hn:K (1+(256+1028)+1)+2≤n)=>ycm (ya6 (0:Rat) ((ptAt l p.1).z*p.2) SmQ.zero sm (by decide) (n:=n) hn) (y1b _)
  obtain ⟨N3,k3⟩:=yc6 _ _ (hp _ (gm _ i2)).z s2 (by decide)
  obtain ⟨N4,k4⟩:=yxu _ _ sa sm' (by decide)
  refine ⟨.of (N0+N1+N3+N4+K (1+(256+1028)+1)+6) fun {n} hn=> ?_,SmQ.mono sa' (by decide)⟩
  refine fin n _ (k0 n (by omega)) fun ob o1 o2=> ?_
  obtain ⟨n,rfl⟩:∃m,n=m+3:=⟨n-3,by omega⟩
  obtain ⟨ob1,hr,p5,pf⟩:=ygz (n:=n+3) (ob:=ob) (fz:=fz0) (nx:=3) (i:=0) l [p,p'] p _ (0+(ptAt l p.1).z*p.2) rfl (by simp) (by simp) (gk _ i1) (by decide) o2 (k1 _ (by omega)) (k2 (n+2) (by omega)) (.one (.box 1 0)) []
  obtain ⟨c1,c2,c3,ec,-,-,-⟩:=y08 (0+(ptAt l p.1).z*p.2)
  rw [ec] at p5 k4
  obtain ⟨ob2,hr2,p52,pf2⟩:=ygz (n:=n+3) (ob:=ob1) (fz:=fz0) (nx:=3+4) (i:=0+1) l [p,p'] p' _ (0+(ptAt l p.1).z*p.2+(ptAt l p'.1).z*p'.2) rfl (by simp) (by simp) (gk _ i2) (by decide) p5 (k3 _ (by omega)) (k4 _ (by omega)) (.one (.box 1 0)) []
  obtain ⟨X',he⟩:=ypu (n:=n+3) (ob:=ob2) (fz:=fz0) (nx:=3+4+4) (i:=0+1+1) l [p,p'] rfl (.one (.box 1 0)) (.one (.box 2 0)) []
  refine ⟨ob2,3+4+4,X', ?_,p52,by rw [pf2 1 (by decide) (by decide),pf 1 (by decide) (by decide)];exact o1⟩
  rw [z0] at hr
  rw [y05 hr,y05 hr2]
  exact y06 he
theorem yzm (l:List Pt) (q:Rat) (hl:l.length<2^20) (h1:1≤l.length) (hi:incC l=true) (hp:∀p∈l,SmPt p) (hq:SmQ 256 q):Calling Id.y24 [.one (.sl false (l.map Pt.c)),.agg (qC q)] (.agg (qC (atQ l q))):=(yeh l q hl h1 hi hp hq).1.call (can2 (.one _ (.sl _)) (y1b _))
end Go.Ev
namespace Go.Ev
open Go.Dig
def IntKeys (es:List AEnt):Prop:=∀e∈es,∃z:Int,e.key=.int .i64 z
theorem y8d (a b:Int):keyEq (.int .i64 a) (.int .i64 b)=some (a==b):=rfl
theorem yk9 (z:Int) (v:SV):∀(es:List AEnt),IntKeys es→∀i,
  (findE (.int .i64 z) es i=some none∧∀b y,findE (.int .i64 y) (es++[⟨.int .i64 z,v,b⟩]) i=if y=z then some (some (i+es.length,⟨.int .i64 z,v,b⟩)) else findE (.int .i64 y) es i)∨
  (∃j e,findE (.int .i64 z) es i=some (some (i+j,e))∧∀b y,findE (.int .i64 y) (es.set j ⟨.int .i64 z,v,b⟩) i=if y=z then some (some (i+j,⟨.int .i64 z,v,b⟩)) else findE (.int .i64 y) es i)
 | [],_,i=>by
  left
  refine ⟨rfl,fun b y=> ?_⟩
  simp only [List.nil_append,findE,y8d]
  by_cases h:y=z
  ·subst h;simp
  ·have h':(y==z)=false:=by simp [h]
   simp only [h',if_neg h]
 | e0::r,hk,i=>by
  obtain ⟨a,ha⟩:=hk e0 (by simp)
  have hr:IntKeys r:=fun e he=>hk e (by simp [he])
  by_cases hza:z=a
  ·right
   refine ⟨0,e0, ?_,fun b y=> ?_⟩
   ·simp only [findE,ha,y8d,hza,beq_self_eq_true,Nat.add_zero]
   ·simp only [List.set_cons_zero,findE,y8d,ha,Nat.add_zero]
    by_cases h:y=z
    ·subst h;simp
    ·have h':(y==z)=false:=by simp [h]
     have h'':(y==a)=false:=by rw [←hza];exact h'
     simp only [h',h'',if_neg h]
  ·have hza':(z==a)=false:=by simp [hza]
   rcases yk9 z v r hr (i+1) with ⟨h1,h2⟩ | ⟨j,e,h1,h2⟩
   ·left
    refine ⟨by simp only [findE,ha,y8d,hza',h1],fun b y=> ?_⟩
    simp only [List.cons_append,findE,ha,y8d,List.length_cons]
    rw [h2 b y]
    by_cases hya:y=a
    ·have:(y==a)=true:=by simp [hya]
     have hyz:¬y=z:=fun e=>hza (by rw [←e,hya])
     simp only [this,if_neg hyz]
    ·have:(y==a)=false:=by simp [hya]
     simp only [this]
     split
     ·rw [show i+1+r.length=i+(r.length+1) by omega]
     ·rfl
   ·right
    refine ⟨j+1,e,by simp only [findE,ha,y8d,hza',h1,show i+1+j=i+(j+1) by omega],fun b y=> ?_⟩
    simp only [List.set_cons_succ,findE,ha,y8d]
    rw [h2 b y]
    by_cases hya:y=a
    ·have:(y==a)=true:=by simp [hya]
     have hyz:¬y=z:=fun e=>hza (by rw [←e,hya])
     simp only [this,if_neg hyz]
    ·have:(y==a)=false:=by simp [hya]
     simp only [this,show i+1+j=i+(j+1) by omega]
theorem yox {es:List AEnt} (h:IntKeys es) (z:Int) (v:SV) (b:Nat):IntKeys (es++[⟨.int .i64 z,v,b⟩]):=fun e he=>by
 rcases List.mem_append.1 he with h1 | h1
 ·exact h e h1
 ·simp only [List.mem_cons,List.not_mem_nil,or_false] at h1
  subst h1
  exact ⟨z,rfl⟩
theorem ype {es:List AEnt} (h:IntKeys es) (j:Nat) (z:Int) (v:SV) (b:Nat):IntKeys (es.set j ⟨.int .i64 z,v,b⟩):=fun e he=>by
 rcases List.mem_or_eq_of_mem_set he with h1 | h1
 ·exact h e h1
 ·subst h1
  exact ⟨z,rfl⟩
def Rep (es:List AEnt) (cnt:Nat→Nat):Prop:=IntKeys es∧∀i:Nat,(findE (.int .i64 (i:Int)) es 0=some none∧cnt i=0)∨∃j e,findE (.int .i64 (i:Int)) es 0=some (some (j,e))∧e.val=.one (.int .i64 (cnt i:Int))
theorem Rep.nil:Rep [] fun _=>0:=⟨fun _ h=>by simp at h,fun i=>.inl ⟨rfl,rfl⟩⟩
def setN (c:Nat→Nat) (i v:Nat):Nat→Nat:=fun k=>if k=i then v else c k
theorem yk8 {es:List AEnt} {cnt:Nat→Nat} (h:Rep es cnt) (i v:Nat):
  (findE (.int .i64 (i:Int)) es 0=some none∧cnt i=0∧∀b,(∃j,findE (.int .i64 (i:Int)) (es++[⟨.int .i64 (i:Int),.one (.int .i64 (v:Int)),b⟩]) 0=some (some (j,⟨.int .i64 (i:Int),.one (.int .i64 (v:Int)),b⟩)))∧Rep (es++[⟨.int .i64 (i:Int),.one (.int .i64 (v:Int)),b⟩]) (setN cnt i v))∨
  (∃j k b0,findE (.int .i64 (i:Int)) es 0=some (some (j,⟨k,.one (.int .i64 (cnt i:Int)),b0⟩))∧∀b,(findE (.int .i64 (i:Int)) (es.set j ⟨.int .i64 (i:Int),.one (.int .i64 (v:Int)),b⟩) 0=some (some (j,⟨.int .i64 (i:Int),.one (.int .i64 (v:Int)),b⟩)))∧Rep (es.set j ⟨.int .i64 (i:Int),.one (.int .i64 (v:Int)),b⟩) (setN cnt i v)):=by
 rcases yk9 (i:Int) (.one (.int .i64 (v:Int))) es h.1 0 with ⟨h1,h2⟩ | ⟨j,e,h1,h2⟩
 ·left
  refine ⟨h1, ?_,fun b=>⟨⟨_,by rw [h2 b (i:Int),if_pos rfl]⟩,yox h.1 _ _ _,fun k=> ?_⟩⟩
  ·rcases h.2 i with ⟨_,h⟩ | ⟨j,e,h,_⟩
   ·exact h
   ·rw [h1] at h;simp at h
  ·rw [h2 b (k:Int)]
   unfold setN
   by_cases hk:k=i
   ·subst hk
    rw [if_pos rfl,if_pos rfl]
    exact .inr ⟨_,_,rfl,rfl⟩
   ·rw [if_neg hk,if_neg (by omega)]
    exact h.2 k
 ·right
  rw [Nat.zero_add] at h1
  rcases h.2 i with ⟨h3,_⟩ | ⟨j',e',h3,h4⟩
  ·rw [h1] at h3;simp at h3
  rw [h1] at h3
  simp only [Option.some.injEq,Prod.mk.injEq] at h3
  obtain ⟨rfl,rfl⟩:=h3
  obtain ⟨k0,v0,b0⟩:=e
  dsimp only at h4
  subst h4
  refine ⟨j,k0,b0,h1,fun b=>⟨by rw [h2 b (i:Int),if_pos rfl,Nat.zero_add],ype h.1 _ _ _ _,fun k=> ?_⟩⟩
  rw [h2 b (k:Int)]
  unfold setN
  by_cases hk:k=i
  ·subst hk
   rw [if_pos rfl,if_pos rfl]
   exact .inr ⟨_,_,rfl,rfl⟩
  ·rw [if_neg hk,if_neg (by omega)]
   exact h.2 k
def seeS (ph:Nat) (s:Samp) (g:Guard) (i:Nat) (c:Nat→Nat) (f:Option Nat):(Nat→Nat)×Option Nat:=
 if g.from_=ph then (if hasBx g.box s=true then (setN c i (c i+1),if g.hold≤((c i+1:Nat):Int)∧f=none then some i else f) else (setN c i 0,f)) else (c,f)
def seeL (ph:Nat) (s:Samp):List Guard→Nat→(Nat→Nat)→Option Nat→(Nat→Nat)×Option Nat
 | [],_,c,f=>(c,f)
 | g::r,i,c,f=>seeL ph s r (i+1) (seeS ph s g i c f).1 (seeS ph s g i c f).2
def firedI:Option Nat→Int
 | none=>-1
 | some k=>(k:Int)
theorem yx1 (f:Option Nat):(firedI f<0)=(f=none):=by
 cases f with
 | none=>simp [firedI]
 | some k=>simp [firedI]
section
variable {n:Nat} {fz:Nat→Nat}
theorem ys6 {bw mid b3 nx i:Nat} {ob:Nat→Option AObj} {es:List AEnt} {clk ph:Nat} {cnt:Nat→Nat} {w1 w2 w3 w4 w5 w6:AV} (l:List Guard) (g:Guard) (s:Samp) (gd:l[i]? =some g) (hil:i<l.length) (hl:l.length<2^20) (hb:bw<nx) (hm:mid<nx) (h3:b3<nx) (hne:bw≠mid∧bw≠b3∧mid≠b3) (ow:ob bw=some (.box [w1,w2,w3,w4,w5,w6,.int .u8 (ph:Int),.mp mid])) (om:ob mid=some (.map es clk)) (o3:ob b3=some (.box s.c)) (hr:Rep es cnt) (hcnt:cnt i<2^40) (f:Option Nat)
  (hc:∀(ob:Nat→Option AObj) (fz:Nat→Nat),callV (evF E n) Id.y3c [.agg g.box.c,.agg s.c] ob fz=some (.fzd fz (.one (.bool (hasBx g.box s))))) (X:List (Nat×SV)):
  ∃(ob':Nat→Option AObj) (es':List AEnt) (clk':Nat),evC (evF E n) n Fn.y1g ⟨env ((0,.one (.box bw 0))::(3,.one (.box b3 0))::(4,.one (.int .i64 (firedI f)))::(11,.one (.sl false (l.map Guard.c)))::(12,.one (.int .i64 (l.length:Int)))::(13,.one (.int .i64 (i:Int)))::X),ob,fz,nx⟩=
   some (.nrm,⟨env [(0,.one (.box bw 0)),(3,.one (.box b3 0)),(4,.one (.int .i64 (firedI (seeS ph s g i cnt f).2))),(11,.one (.sl false (l.map Guard.c))),(12,.one (.int .i64 (l.length:Int))),(13,.one (.int .i64 ((i+1:Nat):Int)))],ob',fz,nx+6⟩)∧ob' mid=some (.map es' clk')∧Rep es' (seeS ph s g i cnt f).1∧∀id,id<nx→id≠mid→ob' id=ob id:=by
 have h1:(((i:Nat):Int)<((l.length:Nat):Int))=True:=by simp;omega
 have wk:IntKind.i64.wrap ((i+1:Nat):Int)=((i+1:Nat):Int):=wi64 (by omega)
 have wc:IntKind.i64.wrap ((cnt i+1:Nat):Int)=((cnt i+1:Nat):Int):=wi64 (by omega)
 have okz:okSz 21 (l.map Guard.c)=true:=y1m (f:=Guard.c) (k:=21) (fun _=>rfl) l
 have ge:(l.map Guard.c)[i]? =some g.c:=by rw [List.getElem?_map,gd];rfl
 obtain ⟨c0,c1,c2,c3,c4,c5,c6,c7,c8,c9,c10,c11,c12,c13,c14,c15,c16,c17,eb,ec⟩:=ybj g
 obtain ⟨s0,s1,s2,s3,s4,s5,s6,s7,s8,es',-,-,-,-,-,-,-,-,-⟩:=y5x s
 rw [eb,es'] at hc
 rw [ec] at ge
 rw [es'] at o3
 obtain ⟨hn1,hn2,hn3⟩:=hne
 have n1:∀k,(bw=nx+k)=False:=fun k=>by simp only [eq_iff_iff,iff_false];omega
 have n2:∀k,(mid=nx+k)=False:=fun k=>by simp only [eq_iff_iff,iff_false];omega
 have n3:∀k,(b3=nx+k)=False:=fun k=>by simp only [eq_iff_iff,iff_false];omega
 have n1':∀k,(nx+k=bw)=False:=fun k=>by simp only [eq_iff_iff,iff_false];omega
 have n2':∀k,(nx+k=mid)=False:=fun k=>by simp only [eq_iff_iff,iff_false];omega
 have n3':∀k,(nx+k=b3)=False:=fun k=>by simp only [eq_iff_iff,iff_false];omega
 have t1:∀k,(bw<nx+k)=True:=fun k=>by simp only [eq_iff_iff,iff_true];omega
 have t2:∀k,(mid<nx+k)=True:=fun k=>by simp only [eq_iff_iff,iff_true];omega
 have t3:∀k,(b3<nx+k)=True:=fun k=>by simp only [eq_iff_iff,iff_true];omega
 have e1:(bw=mid)=False:=by simp [hn1]
 have e2:(b3=mid)=False:=by simp [Ne.symm hn3]
 have kI:∀z:Int,keyIs (.int .i64) (.int .i64 z)=true:=fun z=>rfl
 have frame:∀(y:AObj) (ob1:Nat→Option AObj),(∀id,id<nx→ob1 id=ob id)→∀id,id<nx→id≠mid→upd ob1 mid y id=ob id:=fun y ob1 h id q1 q2=>by rw [y00 q2];exact h id q1
 have fresh:∀(y z:AObj) id,id<nx→upd (upd ob (nx+3) y) (nx+3) z id=ob id:=fun y z id q=>by rw [y00 (by omega),y00 (by omega)]
 obtain ⟨r,hr0⟩:∃r,evC (evF E n) n Fn.y1g ⟨env ((0,.one (.box bw 0))::(3,.one (.box b3 0))::(4,.one (.int .i64 (firedI f)))::(11,.one (.sl false (l.map Guard.c)))::(12,.one (.int .i64 (l.length:Int)))::(13,.one (.int .i64 (i:Int)))::X),ob,fz,nx⟩=r:=⟨_,rfl⟩
 have hr1:=hr0
 unfold seeS
 by_cases p1:g.from_=ph
 ·have q1:((g.from_:Int) !=(ph:Int))=false:=by simp [p1]
  rw [if_pos p1]
  cases hh:hasBx g.box s with
  | false=>
   rw [hh] at hc
   rw [if_neg (by simp)]
   have z0:((0:Nat):Int)=0:=rfl
   rcases yk8 hr i 0 with ⟨f1,f2,f3⟩ | ⟨j,k0,b0,f1,f3⟩
   ·obtain ⟨-,hrep⟩:=f3 clk
    rw [z0] at hrep
    simp only [go_sem,Fn.y1g,h1,ge,okz,ow,om,o3,q1,hc,n1,n2,n3,n1',n2',n3',t1,t2,t3,e1,e2,kI,f1,add1,wk] at hr1
    rw [hr0,←hr1]
    exact ⟨_,_,_,rfl,upd_same _ _ _,hrep,fun id q1 q2=>by rw [y00 q2,y00 (by omega)]⟩
   ·obtain ⟨-,hrep⟩:=f3 b0
    rw [z0] at hrep
    simp only [go_sem,Fn.y1g,h1,ge,okz,ow,om,o3,q1,hc,n1,n2,n3,n1',n2',n3',t1,t2,t3,e1,e2,kI,f1,add1,wk] at hr1
    rw [hr0,←hr1]
    exact ⟨_,_,_,rfl,upd_same _ _ _,hrep,fun id q1 q2=>by rw [y00 q2,y00 (by omega)]⟩
  | true=>
   rw [hh] at hc
   rw [if_pos rfl]
   have q3:=yx1 f
   have q2:(((cnt i+1:Nat):Int)≥g.hold)=(g.hold≤((cnt i+1:Nat):Int)):=rfl
   generalize hcn:cnt i+1=cn at*
   rcases yk8 hr i cn with ⟨f1,f2,f3⟩ | ⟨j,k0,b0,f1,f3⟩
   ·obtain ⟨⟨j,f4⟩,hrep⟩:=f3 clk
    have a0:((0:Int)+1)=(cn:Int):=by omega
    by_cases g1:g.hold≤(cn:Int)
    ·by_cases g2:f=none
     ·subst g2
      rw [if_pos ⟨g1,rfl⟩]
      simp only [go_sem,Fn.y1g,h1,ge,okz,ow,om,o3,q1,hc,n1,n2,n3,n1',n2',n3',t1,t2,t3,e1,e2,kI,f1,f4,a0,wc,q2,g1,q3,add1,wk] at hr1
      rw [hr0,←hr1]
      exact ⟨_,_,_,rfl,upd_same _ _ _,hrep,fun id q1 q2=>by rw [y00 q2,y00 (by omega)]⟩
     ·rw [if_neg (fun h=>g2 h.2)]
      have g2':(f=none)=False:=by simp [g2]
      rw [g2'] at q3
      simp only [go_sem,Fn.y1g,h1,ge,okz,ow,om,o3,q1,hc,n1,n2,n3,n1',n2',n3',t1,t2,t3,e1,e2,kI,f1,f4,a0,wc,q2,g1,q3,add1,wk] at hr1
      rw [hr0,←hr1]
      exact ⟨_,_,_,rfl,upd_same _ _ _,hrep,fun id q1 q2=>by rw [y00 q2,y00 (by omega)]⟩
    ·rw [if_neg (fun h=>g1 h.1)]
     simp only [go_sem,Fn.y1g,h1,ge,okz,ow,om,o3,q1,hc,n1,n2,n3,n1',n2',n3',t1,t2,t3,e1,e2,kI,f1,f4,a0,wc,q2,g1,q3,add1,wk] at hr1
     rw [hr0,←hr1]
     exact ⟨_,_,_,rfl,upd_same _ _ _,hrep,fun id q1 q2=>by rw [y00 q2,y00 (by omega)]⟩
   ·obtain ⟨f4,hrep⟩:=f3 b0
    have a0:((cnt i:Int)+1)=(cn:Int):=by omega
    by_cases g1:g.hold≤(cn:Int)
    ·by_cases g2:f=none
     ·subst g2
      rw [if_pos ⟨g1,rfl⟩]
      simp only [go_sem,Fn.y1g,h1,ge,okz,ow,om,o3,q1,hc,n1,n2,n3,n1',n2',n3',t1,t2,t3,e1,e2,kI,f1,f4,a0,wc,q2,g1,q3,add1,wk] at hr1
      rw [hr0,←hr1]
      exact ⟨_,_,_,rfl,upd_same _ _ _,hrep,fun id q1 q2=>by rw [y00 q2,y00 (by omega)]⟩
     ·rw [if_neg (fun h=>g2 h.2)]
      have g2':(f=none)=False:=by simp [g2]
      rw [g2'] at q3
      simp only [go_sem,Fn.y1g,h1,ge,okz,ow,om,o3,q1,hc,n1,n2,n3,n1',n2',n3',t1,t2,t3,e1,e2,kI,f1,f4,a0,wc,q2,g1,q3,add1,wk] at hr1
      rw [hr0,←hr1]
      exact ⟨_,_,_,rfl,upd_same _ _ _,hrep,fun id q1 q2=>by rw [y00 q2,y00 (by omega)]⟩
    ·rw [if_neg (fun h=>g1 h.1)]
     simp only [go_sem,Fn.y1g,h1,ge,okz,ow,om,o3,q1,hc,n1,n2,n3,n1',n2',n3',t1,t2,t3,e1,e2,kI,f1,f4,a0,wc,q2,g1,q3,add1,wk] at hr1
     rw [hr0,←hr1]
     exact ⟨_,_,_,rfl,upd_same _ _ _,hrep,fun id q1 q2=>by rw [y00 q2,y00 (by omega)]⟩
 ·have q1:((g.from_:Int) !=(ph:Int))=true:=by simp only [bne_iff_ne,ne_eq];omega
  rw [if_neg p1]
  simp only [go_sem,Fn.y1g,h1,ge,okz,ow,om,o3,q1,n1,n2,n3,n1',n2',n3',t1,t2,t3,add1,wk] at hr1
  rw [hr0,←hr1]
  refine ⟨_,es,clk,rfl, ?_,hr,fun id q1 q2=> ?_⟩
  ·rw [y00 (by omega)];exact om
  ·rw [y00 (by omega)]
end
end Go.Ev
namespace Go.Ev
open Go.Dig
theorem yc1 (ph:Nat) (s:Samp) (g:Guard) (i:Nat) (c:Nat→Nat) (f:Option Nat) (k:Nat) (h:k≠i):(seeS ph s g i c f).1 k=c k:=by
 unfold seeS
 split
 ·split
  ·simp [setN,h]
  ·simp [setN,h]
 ·rfl
theorem yre (ph:Nat) (s:Samp) (g:Guard) (i:Nat) (c:Nat→Nat) (f:Option Nat) (k:Nat) (h:(seeS ph s g i c f).2=some k):f=some k∨k=i:=by
 unfold seeS at h
 split at h
 ·split at h
  ·dsimp only at h
   split at h
   ·right;simpa using h.symm
   ·exact .inl h
  ·exact .inl h
 ·exact .inl h
theorem yi4 (ph:Nat) (s:Samp):∀(l:List Guard) (i:Nat) (c:Nat→Nat) (f:Option Nat) (k:Nat),(seeL ph s l i c f).2=some k→f=some k∨(i≤k∧k<i+l.length)
 | [],i,c,f,k,h=>.inl h
 | g::r,i,c,f,k,h=>by
  unfold seeL at h
  rcases yi4 ph s r (i+1) _ _ k h with h | h
  ·rcases yre ph s g i c f k h with h | h
   ·exact .inl h
   ·right;simp only [List.length_cons];omega
  ·right;simp only [List.length_cons];omega
def seeW (gs:List Guard) (ph:Nat) (cnt:Nat→Nat) (s:Samp):Nat×(Nat→Nat):=
 match (seeL ph s gs 0 cnt none).2 with
 | none=>(ph,(seeL ph s gs 0 cnt none).1)
 | some k=>(((gs[k]?).map Guard.to).getD 0,fun _=>0)
section
variable {n:Nat} {fz:Nat→Nat}
theorem ynn {bw mid b3 ph:Nat} {w1 w2 w3 w4 w5 w6:AV} (l:List Guard) (s:Samp) (hl:l.length<2^20) (hne:bw≠mid∧bw≠b3∧mid≠b3) (hc:∀g∈l,∀(ob:Nat→Option AObj) (fz:Nat→Nat),callV (evF E n) Id.y3c [.agg g.box.c,.agg s.c] ob fz=some (.fzd fz (.one (.bool (hasBx g.box s))))):∀(m i:Nat),i+m=l.length→∀(ob:Nat→Option AObj) (nx:Nat) (es:List AEnt) (clk:Nat) (cnt:Nat→Nat) (f:Option Nat) (X:List (Nat×SV)),bw<nx→mid<nx→b3<nx→ob bw=some (.box [w1,w2,w3,w4,w5,w6,.int .u8 (ph:Int),.mp mid])→ob mid=some (.map es clk)→ob b3=some (.box s.c)→Rep es cnt→(∀k,i≤k→cnt k<2^40)→∀N,m<N→
  ∃(ob':Nat→Option AObj) (nx':Nat) (es':List AEnt) (clk':Nat) (X':List (Nat×SV)),loopN (evC (evF E n) n Fn.y1g) N ⟨env ((0,.one (.box bw 0))::(3,.one (.box b3 0))::(4,.one (.int .i64 (firedI f)))::(11,.one (.sl false (l.map Guard.c)))::(12,.one (.int .i64 (l.length:Int)))::(13,.one (.int .i64 (i:Int)))::X),ob,fz,nx⟩=
   some (.ext 0,⟨env ((0,.one (.box bw 0))::(3,.one (.box b3 0))::(4,.one (.int .i64 (firedI (seeL ph s (l.drop i) i cnt f).2)))::X'),ob',fz,nx'⟩)∧nx≤nx'∧ob' mid=some (.map es' clk')∧Rep es' (seeL ph s (l.drop i) i cnt f).1∧∀id,id<nx→id≠mid→ob' id=ob id
 | 0,i,hi,ob,nx,es,clk,cnt,f,X,h1,h2,h3,ow,om,o3,hr,hcnt,N+1,hN=>by
  have hi':i=l.length:=by omega
  subst hi'
  rw [List.drop_length]
  have hlt:(((l.length:Nat):Int)<((l.length:Nat):Int))=False:=by simp
  refine ⟨ob,nx,es,clk,[(11,.one (.sl false (l.map Guard.c))),(12,.one (.int .i64 (l.length:Int))),(13,.one (.int .i64 (l.length:Int))),(14,.one (.bool false))],y06 ?_,Nat.le_refl _,om,hr,fun _ _ _=>rfl⟩
  unfold seeL
  simp only [go_sem,Fn.y1g,hlt]
 | m+1,i,hi,ob,nx,es,clk,cnt,f,X,h1,h2,h3,ow,om,o3,hr,hcnt,N+1,hN=>by
  have hil:i<l.length:=by omega
  obtain ⟨ob1,es1,clk1,hst,p1,p2,p3⟩:=ys6 (fz:=fz) (ph:=ph) l l[i] s (by simp) hil hl h1 h2 h3 hne ow om o3 hr (hcnt i (Nat.le_refl _)) f (hc _ (by simp)) X
  rw [List.drop_eq_getElem_cons hil]
  unfold seeL
  obtain ⟨ob',nx',es',clk',X',q1,q2,q3,q4,q5⟩:=ynn l s hl hne hc m (i+1) (by omega) ob1 (nx+6) es1 clk1 _ _ [] (by omega) (by omega) (by omega) ((p3 bw h1 hne.1).trans ow) p1 ((p3 b3 h3 (Ne.symm hne.2.2)).trans o3) p2 (fun k hk=>by rw [yc1 _ _ _ _ _ _ _ (by omega)];exact hcnt k (by omega)) N (by omega)
  exact ⟨ob',nx',es',clk',X',by rw [y05 hst];exact q1,by omega,q3,q4,fun id i1 i2=>by rw [q5 id (by omega) i2,p3 id i1 i2]⟩
end
theorem yiy {ob0 ob:Nat→Option AObj} {k:Nat} (h:ob k=ob0 k):shut ob0 ob k=ob0 k:=by
 unfold shut
 rw [h]
 cases ob0 k with
 | none=>rfl
 | some o=>cases o<;>rfl
theorem y5e {ob0 ob:Nat→Option AObj} {k:Nat} {cs:List AV} (h:ob k=some (.box cs)):shut ob0 ob k=some (.box cs):=by
 unfold shut;rw [h]
theorem ym7 {ob0 ob:Nat→Option AObj} {k c:Nat} {es:List AEnt} (h:ob k=some (.map es c)):shut ob0 ob k=some (.map es c):=by
 unfold shut;rw [h]
theorem y9m {ob0 ob:Nat→Option AObj} {k sz v:Nat} {es:List (List AV)} (h:ob k=some (.row sz es v)):shut ob0 ob k=some (.row sz es v):=by
 unfold shut;rw [h]
theorem ycc {ob0 ob:Nat→Option AObj} {k:Nat} {l:ALoop} (h:ob k=some (.loop l)):shut ob0 ob k=some (.loop l):=by
 unfold shut;rw [h]
def seeT:ACode:=match Fn.y1v.code with | .seq _ (.seq _ (.seq _ t))=>t | _=>.skip
theorem yyo {n:Nat} {bw mid ph nx:Nat} {ob:Nat→Option AObj} {fz:Nat→Nat} {es:List AEnt} {clk:Nat} {cnt:Nat→Nat} {w2 w3 w4 w5 w6:AV} (l:List Guard) (s:Samp) (hl:l.length<2^20) (hn:l.length+1≤n) (hne:bw≠mid) (hc:∀g∈l,∀(ob:Nat→Option AObj) (fz:Nat→Nat),callV (evF E n) Id.y3c [.agg g.box.c,.agg s.c] ob fz=some (.fzd fz (.one (.bool (hasBx g.box s))))) (h1:bw<nx) (h2:mid<nx) (ow:ob bw=some (.box [.sl false (l.map Guard.c),w2,w3,w4,w5,w6,.int .u8 (ph:Int),.mp mid])) (om:ob mid=some (.map es clk)) (hr:Rep es cnt) (hcnt:∀k,cnt k<2^40):
  ∃(ob':Nat→Option AObj) (nx':Nat) (es':List AEnt) (clk':Nat),evF E (n+1) (.fn Id.y1v) [.one (.box bw 0),.agg s.c] ⟨ob,fz,nx⟩=some (.tup [],⟨ob',fz,nx'⟩)∧nx≤nx'∧ob' bw=some (.box [.sl false (l.map Guard.c),w2,w3,w4,w5,w6,.int .u8 ((seeW l ph cnt s).1:Int),.mp mid])∧ob' mid=some (.map es' clk')∧Rep es' (seeW l ph cnt s).2∧∀id,id<nx→id≠bw→id≠mid→ob' id=ob id:=by
 rw [y7e ydq]
 have fresh:∀id,id<nx→upd ob nx (.box s.c) id=ob id:=fun id h=>y00 (by omega)
 obtain ⟨obL,nxL,esL,clkL,XL,hlo,q2,q3,q4,q5⟩:=ynn (n:=n) (fz:=fz) (bw:=bw) (mid:=mid) (b3:=nx) (ph:=ph) l s hl ⟨hne,by omega,by omega⟩ hc l.length 0 (by omega) (upd ob nx (.box s.c)) (nx+1) es clk cnt none [] (by omega) (by omega) (by omega) ((fresh bw h1).trans ow) ((fresh mid h2).trans om) (upd_same _ _ _) hr (fun k _=>hcnt k) n (by omega)
 rw [List.drop_zero] at q4 hlo
 have hf:=yi4 ph s l 0 cnt none
 unfold seeW
 have owL:obL bw=_:=(q5 bw (by omega) hne).trans ((fresh bw h1).trans ow)
 have z0:((0:Nat):Int)=0:=rfl
 rw [z0] at hlo
 rw [show firedI none=-1 from rfl] at hlo
 have okz:okSz 21 (l.map Guard.c)=true:=y1m (f:=Guard.c) (k:=21) (fun _=>rfl) l
 have e1:∀k,(bw=nx+k)=False:=fun k=>by simp only [eq_iff_iff,iff_false];omega
 have e2:(bw=nx)=False:=by simp only [eq_iff_iff,iff_false];omega
 have e3:(mid=bw)=False:=by simp [Ne.symm hne]
 have key:∀(obx:Nat→Option AObj),obx=upd ob nx (.box s.c)→∃(ob':Nat→Option AObj) (nx':Nat) (es':List AEnt) (clk':Nat),finF Fn.y1v.res ob (thenC (evF E n) n seeT (blkC 0 (loopN (evC (evF E n) n Fn.y1g) n ⟨env [(0,.one (.box bw 0)),(3,.one (.box nx 0)),(4,.one (.int .i64 (-1))),(11,.one (.sl false (l.map Guard.c))),(12,.one (.int .i64 (l.length:Int))),(13,.one (.int .i64 0))],obx,fz,nx+1⟩)))=some (.tup [],⟨ob',fz,nx'⟩)∧nx≤nx'∧ob' bw=some (.box [.sl false (l.map Guard.c),w2,w3,w4,w5,w6,.int .u8 ((match (seeL ph s l 0 cnt none).2 with | none=>(ph,(seeL ph s l 0 cnt none).1) | some k=>(((l[k]?).map Guard.to).getD 0,fun _=>0)).1:Int),.mp mid])∧ob' mid=some (.map es' clk')∧Rep es' (match (seeL ph s l 0 cnt none).2 with | none=>(ph,(seeL ph s l 0 cnt none).1) | some k=>(((l[k]?).map Guard.to).getD 0,fun _=>0)).2∧∀id,id<nx→id≠bw→id≠mid→ob' id=ob id:=by
  intro obx hx
  subst hx
  rw [hlo]
  unfold seeT Fn.y1v
  generalize (seeL ph s l 0 cnt none).1=cn at*
  generalize (seeL ph s l 0 cnt none).2=fo at*
  cases fo with
  | none=>
   have g1:((-1:Int)≥0)=False:=by simp
   refine ⟨shut ob obL,nxL,esL,clkL, ?_,by omega,y5e owL,ym7 q3,q4,fun id i1 i2 i3=>yiy ((q5 id (by omega) i3).trans (fresh id i1))⟩
   rw [show firedI none=-1 from rfl]
   simp only [go_sem,g1]
  | some k=>
   have hk:k<l.length:=by
    rcases hf k rfl with h | h
    ·simp at h
    ·omega
   have g1:(((k:Nat):Int)≥0)=True:=by simp
   have ge:(l.map Guard.c)[k]? =some l[k].c:=by rw [List.getElem?_map,List.getElem?_eq_getElem hk];rfl
   have gk:l[k]? =some l[k]:=by simp
   dsimp only
   rw [gk,Option.map_some,Option.getD_some]
   generalize l[k]=g at*
   obtain ⟨c0,c1,c2,c3,c4,c5,c6,c7,c8,c9,c10,c11,c12,c13,c14,c15,c16,c17,-,ec⟩:=ybj g
   rw [ec] at ge
   rw [show firedI (some k)=(k:Int) from rfl]
   refine ⟨shut ob (upd (upd obL bw (.box [.sl false (l.map Guard.c),w2,w3,w4,w5,w6,.int .u8 (g.to:Int),.mp mid])) mid (.map [] clkL)),nxL,[],clkL, ?_,by omega,y5e (by rw [y00 hne];exact upd_same _ _ _),ym7 (upd_same _ _ _),Rep.nil,fun id i1 i2 i3=>yiy (by rw [y00 i3,y00 i2];exact (q5 id (by omega) i3).trans (fresh id i1))⟩
   simp only [go_sem,g1,owL,ge,okz,q3,e3]
 unfold Fn.y1v at key ⊢
 have ow':upd ob nx (.box s.c) bw=_:=(fresh bw h1).trans ow
 obtain ⟨s0,s1,s2,s3,s4,s5,s6,s7,s8,es',-,-,-,-,-,-,-,-,-⟩:=y5x s
 rw [es'] at ow' key ⊢
 simp only [go_sem,ow',ow,e1,e2,List.length_map]
 exact key _ rfl
end Go.Ev
namespace Go.Ev
open Go.Dig
theorem yj3 {n l:Nat} {args:List SV} {ob:Nat→Option AObj} {fz:Nat→Nat} {nx:Nat} {r r1 r2:ALoop} {st1 st2:St} (ho:ob l=some (.loop r)) (hok:(Nat.beq args.length r.ps.length&&naOk r.asg&&naOk r.body)=true) (h1:evC (evF E n) n r.asg ⟨setPs r.ps args r.sl,ob,fz,nx⟩=some (.nrm,st1)) (ho1:st1.ob l=some (.loop r1)) (hr:r1.st=.ready)
  (h2:evC (evF E n) n r.body { st1 with ob:=upd st1.ob l (.loop { r1 with st:=.busy }) }=some (.nrm,st2)) (ho2:st2.ob l=some (.loop r2)):
  evF E (n+1) (.rnd l) args ⟨ob,fz,nx⟩=some (.one (.bool true),⟨upd st2.ob l (.loop { r2 with st:=.ready,pend:=none }),st2.fz,st2.nx⟩):=by
 simp only [evF,ho,hok,cond_true,h1,ho1,hr,h2,ho2,Ex.pend]
theorem yuj (k:Nat) (v:SV) (L:List (Nat×SV)):putS (env L) (some k) v=env ((k,v)::L):=by
 funext i
 rfl
theorem setPs2 (p q:Nat) (v w:SV) (L:List (Nat×SV)):setPs [p,q] [v,w] (env L)=env ((q,w)::(p,v)::L):=by
 simp only [setPs,yuj]
def OutB (base:Nat) (ob:Nat→Option AObj) (nx:Nat) (x:AV) (es:List (List AV)):Prop:=
 (es=[]∧x=.nils)∨∃id ver,x=.rsl id ver 4 0 es.length false∧ob id=some (.row 4 es ver)∧id<nx∧base≤id
theorem OutB.frame {base nx nx':Nat} {ob ob':Nat→Option AObj} {x:AV} {es:List (List AV)} (h:OutB base ob nx x es) (hnx:nx≤nx') (hf:∀id,base≤id→id<nx→ob' id=ob id):OutB base ob' nx' x es:=by
 rcases h with h | ⟨id,ver,h1,h2,h3,h4⟩
 ·exact .inl h
 ·exact .inr ⟨id,ver,h1,by rw [hf id h4 h3];exact h2,by omega,h4⟩
def actAsg:ACode:=.reg false [⟨some 9,.alloc [(.int .u8 0),(.bool false),.nils,.nils],none,.no⟩,⟨none,.store 4 (.t 9) (.t 20),none,.no⟩] 2 [7,9]
def actLoop (L:List (Nat×SV)):ALoop:=⟨env L,[19,20],actAsg,Fn.y6y,.ready,none⟩
theorem yzf {n lid bo base nx:Nat} {ob:Nat→Option AObj} {fz:Nat→Nat} {x:AV} {es:List (List AV)} {L:List (Nat×SV)} {c0 m1 m2 m3:AV} (v19:SV) (hL:env L 7=.one (.box bo 0)) (ho:ob lid=some (.loop (actLoop L))) (hb:ob bo=some (.box [x])) (hx:OutB base ob nx x es) (h1:lid<base) (h2:bo<base) (h3:base≤nx) (hne:lid≠bo) (hes:es.length<2^20):
  ∃(ob':Nat→Option AObj) (nx':Nat) (x':AV),evF E (n+1) (.rnd lid) [v19,.agg [c0,m1,m2,m3]] ⟨ob,fz,nx⟩=some (.one (.bool true),⟨ob',fz,nx'⟩)∧nx≤nx'∧ob' lid=some (.loop (actLoop L))∧ob' bo=some (.box [x'])∧OutB base ob' nx' x' (es++[[c0,m1,m2,m3]])∧∀id,id<base→id≠lid→id≠bo→ob' id=ob id:=by
 have n1:∀k,(lid=nx+k)=False:=fun k=>by simp only [eq_iff_iff,iff_false];omega
 have n2:∀k,(bo=nx+k)=False:=fun k=>by simp only [eq_iff_iff,iff_false];omega
 have n3:(bo=lid)=False:=by simp [Ne.symm hne]
 have n1n:(lid=nx)=False:=by simp only [eq_iff_iff,iff_false];omega
 have n2n:(bo=nx)=False:=by simp only [eq_iff_iff,iff_false];omega
 have n1':∀k,(nx+k=lid)=False:=fun k=>by simp only [eq_iff_iff,iff_false];omega
 have n2':∀k,(nx+k=bo)=False:=fun k=>by simp only [eq_iff_iff,iff_false];omega
 have n1n':(nx=lid)=False:=by simp only [eq_iff_iff,iff_false];omega
 have n2n':(nx=bo)=False:=by simp only [eq_iff_iff,iff_false];omega
 have nxa:∀a b:Nat,nx+a+b=nx+(a+b):=fun a b=>Nat.add_assoc nx a b
 have hL':∀(a b:SV),env ((20,a)::(19,b)::L) 7=.one (.box bo 0):=fun a b=>by rw [←hL];rfl
 have a1:evC (evF E n) n actAsg ⟨env ((20,.agg [c0,m1,m2,m3])::(19,v19)::L),ob,fz,nx⟩=some (.nrm,⟨env [(7,.one (.box bo 0)),(9,.one (.box nx 0))],upd ob nx (.box [c0,m1,m2,m3]),fz,nx+2⟩):=by
  unfold actAsg
  simp only [go_sem,hL]
 have o1:upd ob nx (.box [c0,m1,m2,m3]) lid=some (.loop (actLoop L)):=by rw [y00 (by omega)];exact ho
 have body:∃(ob2:Nat→Option AObj) (x':AV),evC (evF E n) n Fn.y6y ⟨env [(7,.one (.box bo 0)),(9,.one (.box nx 0))],upd (upd ob nx (.box [c0,m1,m2,m3])) lid (.loop { actLoop L with st:=.busy }),fz,nx+2⟩=some (.nrm,⟨env [],ob2,fz,nx+7⟩)∧ob2 lid=some (.loop { actLoop L with st:=.busy })∧ob2 bo=some (.box [x'])∧OutB base ob2 (nx+7) x' (es++[[c0,m1,m2,m3]])∧∀id,id<base→id≠lid→id≠bo→ob2 id=ob id:=by
  generalize { actLoop L with st:=.busy }=lp
  obtain ⟨r,hr0⟩:∃r,evC (evF E n) n Fn.y6y ⟨env [(7,.one (.box bo 0)),(9,.one (.box nx 0))],upd (upd ob nx (.box [c0,m1,m2,m3])) lid (.loop lp),fz,nx+2⟩=r:=⟨_,rfl⟩
  have hr:=hr0
  rcases hx with ⟨rfl,rfl⟩ | ⟨a,va,rfl,h4,h5,h6⟩
  ·simp only [go_sem,Fn.y6y,n1,n2,n3,n1',n2',n1n,n2n,n1n',n2n',nxa,hb,okSz,ROOM] at hr
   rw [hr0,←hr]
   refine ⟨_,_,rfl, ?_,upd_same _ _ _,.inr ⟨nx+5,0,rfl, ?_,by omega,by omega⟩,fun id q1 q2 q3=> ?_⟩
   ·rw [y00 hne,y00 (by omega),y00 (by omega)];exact upd_same _ _ _
   ·rw [y00 (by omega)];exact upd_same _ _ _
   ·rw [y00 q3,y00 (by omega),y00 (by omega),y00 q2,y00 (by omega)]
  ·have w1:(es.length+1)*64≤140737488355328:=by omega
   have b1:(es.length==es.length)=true:=by simp
   have k1:∀k ob y ver,rowAt (upd ob (nx+k) y) a ver=rowAt ob a ver:=fun k ob y ver=>y19 (by omega)
   have k2:∀ob y ver,rowAt (upd ob nx y) a ver=rowAt ob a ver:=fun ob y ver=>y19 (by omega)
   have k3:∀ob y ver,rowAt (upd ob lid y) a ver=rowAt ob a ver:=fun ob y ver=>y19 (by omega)
   have hra:rowAt ob a va=some (4,es):=y1l h4
   have k4:(bo=a)=False:=by simp only [eq_iff_iff,iff_false];omega
   simp only [go_sem,Fn.y6y,n1,n2,n3,n1',n2',n1n,n2n,n1n',n2n',nxa,hb,okSz,ROOM,w1,b1,k1,k2,k3,k4,hra] at hr
   rw [hr0,←hr]
   refine ⟨_,_,rfl, ?_,upd_same _ _ _,.inr ⟨a,va+1, ?_, ?_,by omega,h6⟩,fun id q1 q2 q3=> ?_⟩
   ·rw [y00 hne,y00 (by omega),y00 (by omega)];exact upd_same _ _ _
   ·rw [List.length_append];rfl
   ·rw [y00 (by omega)];exact upd_same _ _ _
   ·rw [y00 q3,y00 (by omega),y00 (by omega),y00 q2,y00 (by omega)]
 obtain ⟨ob2,x',b1,b2,b3,b4,b5⟩:=body
 refine ⟨upd ob2 lid (.loop (actLoop L)),nx+7,x', ?_,by omega,upd_same _ _ _,by rw [y00 (Ne.symm hne)];exact b3,b4.frame (Nat.le_refl _) (fun id q1 q2=>y00 (by omega)),fun id q1 q2 q3=>by rw [y00 q2];exact b5 id q1 q2 q3⟩
 exact yj3 (r:=actLoop L) (r1:=actLoop L) (r2:={ actLoop L with st:=.busy }) ho rfl ((congrArg (fun sl=>evC (evF E n) n actAsg ⟨sl,ob,fz,nx⟩) (setPs2 19 20 v19 (.agg [c0,m1,m2,m3]) L)).trans a1) o1 rfl b1 b2
end Go.Ev
namespace Go.Ev
open Go.Dig
def wkB:ACode:=match Fn.y0h with | .seq _ (.seq _ (.seq (.block _ b) _))=>b | _=>.skip
def wkA:ACode:=match Fn.y0h with | .seq a _=>a | _=>.skip
def wkC:ACode:=match Fn.y0h with | .seq _ (.seq c _)=>c | _=>.skip
def wkI:ACode:=match Fn.y0h with | .seq _ (.seq _ (.seq _ i))=>i | _=>.skip
def wk1:ACode:=match wkB with | .seq a _=>a | _=>.skip
def wk2:ACode:=match wkB with | .seq _ (.seq a _)=>a | _=>.skip
def wk3:ACode:=match wkB with | .seq _ (.seq _ (.seq a _))=>a | _=>.skip
def wk4:ACode:=match wkB with | .seq _ (.seq _ (.seq _ (.seq a _)))=>a | _=>.skip
def wk5:ACode:=match wkB with | .seq _ (.seq _ (.seq _ (.seq _ (.seq a _))))=>a | _=>.skip
def wk6:ACode:=match wkB with | .seq _ (.seq _ (.seq _ (.seq _ (.seq _ (.seq a _)))))=>a | _=>.skip
def wk7:ACode:=match wkB with | .seq _ (.seq _ (.seq _ (.seq _ (.seq _ (.seq _ a)))))=>a | _=>.skip
theorem wk_eq:Fn.y0h=.seq wkA (.seq wkC (.seq (.block 1 (.seq wk1 (.seq wk2 (.seq wk3 (.seq wk4 (.seq wk5 (.seq wk6 wk7))))))) wkI)):=rfl
def MQ (m:Rat) (mc:List AV):Prop:=mc=qC m∨(m=0∧mc=[.bool false,.nils,.nils])
theorem Ends.mq {f:FuncId} {m:Rat} {mc:List AV} {y r:SV} (h:Ends f [.agg (qC m),y] r) (hy:CanS y) (hm:MQ m mc):Calling f [.agg mc,y] r:=by
 rcases hm with rfl | ⟨rfl,rfl⟩
 ·exact h.call (can2 (y1b _) hy)
 ·obtain ⟨N,h⟩:=h
  exact ⟨N,fun n hn=>ycm (h n hn) hy⟩
section
variable {n:Nat} {fz:Nat→Nat} {ob:Nat→Option AObj} {nx:Nat}
theorem piece1 {i:Nat} (x0 x1 x4 x5:SV) (l:List Samp) (s:Samp) (gs:l[i]? =some s) (X:List (Nat×SV)):
  evC (evF E n) n wk1 ⟨env ((0,x0)::(1,x1)::(4,x4)::(5,x5)::(13,.one (.sl false (l.map Samp.c)))::(14,.one (.int .i64 (l.length:Int)))::(15,.one (.int .i64 (i:Int)))::X),ob,fz,nx⟩=
   some (.nrm,⟨env [(0,x0),(1,x1),(4,x4),(5,x5),(7,.one (.box (nx+2) 0)),(13,.one (.sl false (l.map Samp.c))),(14,.one (.int .i64 (l.length:Int))),(15,.one (.int .i64 (i:Int)))],upd ob (nx+2) (.box s.c),fz,nx+4⟩):=by
 have ge:(l.map Samp.c)[i]? =some s.c:=by rw [List.getElem?_map,gs];rfl
 have okz:okSz 9 (l.map Samp.c)=true:=y1m (f:=Samp.c) (k:=9) (fun _=>rfl) l
 obtain ⟨s0,s1,s2,s3,s4,s5,s6,s7,s8,es',-,-,-,-,-,-,-,-,-⟩:=y5x s
 rw [es'] at ge ⊢
 unfold wk1 wkB Fn.y0h
 simp only [go_sem,ge,okz]
theorem piece2 {bw b7:Nat} (x0 x1 x5 x13 x14 x15:SV) (s:Samp) (o7:ob b7=some (.box s.c)) (ob':Nat→Option AObj) (nx':Nat) (h:evF E n (.fn Id.y1v) [.one (.box bw 0),.agg s.c] ⟨ob,fz,nx⟩=some (.tup [],⟨ob',fz,nx'⟩)):
  evC (evF E n) n wk2 ⟨env [(0,x0),(1,x1),(4,.one (.box bw 0)),(5,x5),(7,.one (.box b7 0)),(13,x13),(14,x14),(15,x15)],ob,fz,nx⟩=
   some (.nrm,⟨env [(0,x0),(1,x1),(4,.one (.box bw 0)),(5,x5),(7,.one (.box b7 0)),(13,x13),(14,x14),(15,x15)],ob',fz,nx'⟩):=by
 obtain ⟨s0,s1,s2,s3,s4,s5,s6,s7,s8,es',-,-,-,-,-,-,-,-,-⟩:=y5x s
 rw [es'] at o7 h
 unfold wk2 wkB Fn.y0h
 simp only [go_sem,o7,Nat.add_zero,h]
theorem piece3 {bd bw b7 ph:Nat} (x0 x5 x13 x14 x15:SV) {w1 w2 c1 c2 c3 w6 y1 y2 y3 y4 y5 y6:AV} (ls:List Pt) (P:Pt) (gp:ls[ph]? =some P) (hd:bd<nx) (hw:bw<nx) (od:ob bd=some (.box [w1,w2,.sl false (ls.map Pt.c),c1,c2,c3])) (ow:ob bw=some (.box [y1,y2,y3,y4,y5,y6,.int .u8 (ph:Int),w6])):
  evC (evF E n) n wk3 ⟨env [(0,x0),(1,.one (.box bd 0)),(4,.one (.box bw 0)),(5,x5),(7,.one (.box b7 0)),(13,x13),(14,x14),(15,x15)],ob,fz,nx⟩=
   some (.nrm,⟨env [(0,x0),(1,.one (.box bd 0)),(4,.one (.box bw 0)),(5,x5),(7,.one (.box b7 0)),(8,.one (.box (nx+8) 0)),(13,x13),(14,x14),(15,x15)],upd ob (nx+8) (.box P.c),fz,nx+10⟩):=by
 have ge:(ls.map Pt.c)[ph]? =some P.c:=by rw [List.getElem?_map,gp];rfl
 have okz:okSz 6 (ls.map Pt.c)=true:=y1m yam ls
 have hd':(bd<nx)=True:=by simp [hd]
 have hw':(bw<nx)=True:=by simp [hw]
 obtain ⟨p1,p2,p3,p4,p5,p6,-,-,ep⟩:=y5u P
 rw [ep] at ge ⊢
 unfold wk3 wkB Fn.y0h
 simp only [go_sem,od,ow,hd',hw',ge,okz]
theorem piece4 {bd bw bm b7 b8 ph:Nat} (x0 x13 x14 x15:SV) {w1 w2 c1 c2 c3 w6 y1 y2 y3 y4 y5 y6 m1 m2 m3:AV} (cs:List (List Pt)) (c:List Pt) (s:Samp) (P:Pt) (a lo hi r:Rat) (gc:cs[ph]? =some c) (hd:bd<nx) (hw:bw<nx) (hm:bm<nx) (h7:b7<nx) (h8:b8<nx) (od:ob bd=some (.box [w1,.sl false (cs.map fun s=>[.sl false (s.map Pt.c)]),w2,c1,c2,c3])) (ow:ob bw=some (.box [y1,y2,y3,y4,y5,y6,.int .u8 (ph:Int),w6])) (om:ob bm=some (.box [m1,m2,m3])) (o7:ob b7=some (.box s.c)) (o8:ob b8=some (.box P.c))
  (k1:∀(ob:Nat→Option AObj) (fz:Nat→Nat),callV (evF E n) Id.y24 [.one (.sl false (c.map Pt.c)),.agg (qC s.angle)] ob fz=some (.fzd fz (.agg (qC a)))) (k2:∀(ob:Nat→Option AObj) (fz:Nat→Nat),callV (evF E n) Id.y3b [.agg [m1,m2,m3],.agg (qC P.z)] ob fz=some (.fzd fz (.agg (qC lo)))) (k3:∀(ob:Nat→Option AObj) (fz:Nat→Nat),callV (evF E n) Id.y23 [.agg [m1,m2,m3],.agg (qC P.z)] ob fz=some (.fzd fz (.agg (qC hi)))) (k4:∀(ob:Nat→Option AObj) (fz:Nat→Nat),callV (evF E n) Id.y4i [.agg (qC a),.agg (qC lo),.agg (qC hi)] ob fz=some (.fzd fz (.agg (qC r)))):
  evC (evF E n) n wk4 ⟨env [(0,x0),(1,.one (.box bd 0)),(4,.one (.box bw 0)),(5,.one (.box bm 0)),(7,.one (.box b7 0)),(8,.one (.box b8 0)),(13,x13),(14,x14),(15,x15)],ob,fz,nx⟩=
   some (.nrm,⟨env [(0,x0),(1,.one (.box bd 0)),(4,.one (.box bw 0)),(5,.one (.box bm 0)),(7,.one (.box b7 0)),(8,.one (.box b8 0)),(13,x13),(14,x14),(15,x15)],upd ob bm (.box (qC r)),fz,nx⟩):=by
 have ge:(cs.map fun s=>[AV.sl false (s.map Pt.c)])[ph]? =some [.sl false (c.map Pt.c)]:=by rw [List.getElem?_map,gc];rfl
 have okz:okSz 1 (cs.map fun s=>[AV.sl false (s.map Pt.c)])=true:=y1m (f:=fun s:List Pt=>[AV.sl false (s.map Pt.c)]) (k:=1) (fun _=>rfl) cs
 have hd':(bd<nx)=True:=by simp [hd]
 have hw':(bw<nx)=True:=by simp [hw]
 have hm':(bm<nx)=True:=by simp [hm]
 have h7':(b7<nx)=True:=by simp [h7]
 have h8':(b8<nx)=True:=by simp [h8]
 unfold Samp.c at o7
 obtain ⟨p1,p2,p3,p4,p5,p6,-,ez,ep⟩:=y5u P
 obtain ⟨s1,s2,s3,es1,-,-,-⟩:=y08 s.load
 obtain ⟨s4,s5,s6,es2,-,-,-⟩:=y08 s.angle
 obtain ⟨s7,s8,s9,es3,-,-,-⟩:=y08 s.speed
 obtain ⟨a1,a2,a3,ea,-,-,-⟩:=y08 a
 obtain ⟨l1,l2,l3,el,-,-,-⟩:=y08 lo
 obtain ⟨h1,h2,h3,eh,-,-,-⟩:=y08 hi
 obtain ⟨r1,r2,r3,er,-,-,-⟩:=y08 r
 simp only [es1,es2,es3,List.cons_append,List.nil_append] at o7 k1
 rw [ea] at k1 k4
 rw [ez,el] at k2
 rw [ez,eh] at k3
 rw [el,eh,er] at k4
 rw [ep] at o8
 rw [er]
 unfold wk4 wkB Fn.y0h
 simp only [go_sem,od,ow,om,o7,o8,hd',hw',hm',h7',h8',ge,okz,k1,k2,k3,k4]
theorem piece5 {bm b8:Nat} (x0 x1 x4 x7 x13 x14 x15:SV) (P:Pt) (m r:Rat) (hm:bm<nx) (h8:b8<nx) (om:ob bm=some (.box (qC m))) (o8:ob b8=some (.box P.c))
  (k1:∀(ob:Nat→Option AObj) (fz:Nat→Nat),callV (evF E n) Id.y46 [.agg (qC P.x)] ob fz=some (.fzd fz (.agg (qC (-P.x))))) (k2:∀(ob:Nat→Option AObj) (fz:Nat→Nat),callV (evF E n) Id.y4i [.agg (qC m),.agg (qC (-P.x)),.agg (qC P.x)] ob fz=some (.fzd fz (.agg (qC r)))):
  evC (evF E n) n wk5 ⟨env [(0,x0),(1,x1),(4,x4),(5,.one (.box bm 0)),(7,x7),(8,.one (.box b8 0)),(13,x13),(14,x14),(15,x15)],ob,fz,nx⟩=
   some (.nrm,⟨env [(0,x0),(1,x1),(4,x4),(5,.one (.box bm 0)),(7,x7),(13,x13),(14,x14),(15,x15)],upd ob bm (.box (qC r)),fz,nx⟩):=by
 have hm':(bm<nx)=True:=by simp [hm]
 have h8':(b8<nx)=True:=by simp [h8]
 obtain ⟨p1,p2,p3,p4,p5,p6,ex,-,ep⟩:=y5u P
 obtain ⟨a1,a2,a3,ea,-,-,-⟩:=y08 m
 obtain ⟨l1,l2,l3,el,-,-,-⟩:=y08 (-P.x)
 obtain ⟨r1,r2,r3,er,-,-,-⟩:=y08 r
 rw [ex,el] at k1
 rw [ea,ex,el,er] at k2
 rw [ep] at o8
 rw [ea] at om
 rw [er]
 unfold wk5 wkB Fn.y0h
 simp only [go_sem,om,o8,hm',h8',k1,k2]
def stopB (ph:Nat) (m v:Rat):Bool:=decide (ph=4)&&decide (signI (m*v).num>0)
theorem piece6 {bw bm b7 ph:Nat} (x0 x1 x13 x14 x15:SV) {w6 y1 y2 y3 y4 y5 y6:AV} (s:Samp) (m:Rat) (ow:ob bw=some (.box [y1,y2,y3,y4,y5,y6,.int .u8 (ph:Int),w6])) (om:ob bm=some (.box (qC m))) (o7:ob b7=some (.box s.c))
  (k1:∀(ob:Nat→Option AObj) (fz:Nat→Nat),callV (evF E n) Id.y1t [.agg (qC m),.agg (qC s.speed)] ob fz=some (.fzd fz (.agg (qC (m*s.speed))))) (k2:∀(ob:Nat→Option AObj) (fz:Nat→Nat),callV (evF E n) Id.y2q [.agg (qC (m*s.speed))] ob fz=some (.fzd fz (.one (.int .i64 (signI (m*s.speed).num))))):
  ∃X',evC (evF E n) n wk6 ⟨env [(0,x0),(1,x1),(4,.one (.box bw 0)),(5,.one (.box bm 0)),(7,.one (.box b7 0)),(13,x13),(14,x14),(15,x15)],ob,fz,nx⟩=
   some (.nrm,⟨env ((0,x0)::(1,x1)::(4,.one (.box bw 0))::(5,.one (.box bm 0))::(7,.one (.box b7 0))::(13,x13)::(14,x14)::(15,x15)::X'),bif stopB ph m s.speed then upd ob bm (.box [.bool false,.nils,.nils]) else ob,fz,nx⟩):=by
 unfold Samp.c at o7
 obtain ⟨s1,s2,s3,es1,-,-,-⟩:=y08 s.load
 obtain ⟨s4,s5,s6,es2,-,-,-⟩:=y08 s.angle
 obtain ⟨s7,s8,s9,es3,-,-,-⟩:=y08 s.speed
 obtain ⟨a1,a2,a3,ea,-,-,-⟩:=y08 m
 obtain ⟨r1,r2,r3,er,-,-,-⟩:=y08 (m*s.speed)
 simp only [es1,es2,es3,List.cons_append,List.nil_append] at o7
 rw [ea,es3,er] at k1
 rw [er] at k2
 rw [ea] at om
 unfold stopB
 generalize signI (m*s.speed).num=sg at*
 unfold wk6 wkB Fn.y0h
 by_cases h4:ph=4
 ·have q1:((ph:Int)==4)=true:=by simp [h4]
  by_cases hs:sg>0
  ·have e:(decide (ph=4)&&decide (sg>0))=true:=by rw [decide_eq_true h4,decide_eq_true hs];rfl
   rw [e]
   refine ⟨[], ?_⟩
   simp only [go_sem,ow,om,o7,q1,k1,k2,hs]
  ·have e:(decide (ph=4)&&decide (sg>0))=false:=by rw [decide_eq_true h4,decide_eq_false hs];rfl
   rw [e]
   refine ⟨[(69,.one (.bool false))], ?_⟩
   simp only [go_sem,ow,om,o7,q1,k1,k2,hs]
 ·have q1:((ph:Int)==4)=false:=by simp only [beq_eq_false_iff_ne,ne_eq];omega
  have e:(decide (ph=4)&&decide (sg>0))=false:=by rw [decide_eq_false h4];rfl
  rw [e]
  refine ⟨[(69,.one (.bool false))], ?_⟩
  simp only [go_sem,ow,om,o7,q1]
theorem piece7 {lid bw bm b7 ph:Nat} (x1 x13 x14 x15:SV) {w6 y1 y2 y3 y4 y5 y6 m1 m2 m3:AV} (s:Samp) (hw:bw<nx) (hm:bm<nx) (h7:b7<nx) (ow:ob bw=some (.box [y1,y2,y3,y4,y5,y6,.int .u8 (ph:Int),w6])) (om:ob bm=some (.box [m1,m2,m3])) (o7:ob b7=some (.box s.c)) (ob':Nat→Option AObj) (nx':Nat)
  (k:evF E n (.rnd lid) [.agg s.c,.agg [.int .u8 (ph:Int),m1,m2,m3]] ⟨ob,fz,nx⟩=some (.one (.bool true),⟨ob',fz,nx'⟩)) (X:List (Nat×SV)):
  ∃X',evC (evF E n) n wk7 ⟨env ((0,.one (.yld lid))::(1,x1)::(4,.one (.box bw 0))::(5,.one (.box bm 0))::(7,.one (.box b7 0))::(13,x13)::(14,x14)::(15,x15)::X),ob,fz,nx⟩=
   some (.nrm,⟨env ((0,.one (.yld lid))::(1,x1)::(4,.one (.box bw 0))::(5,.one (.box bm 0))::(13,x13)::(14,x14)::(15,x15)::X'),ob',fz,nx'⟩):=by
 have hw':(bw<nx)=True:=by simp [hw]
 have hm':(bm<nx)=True:=by simp [hm]
 have h7':(b7<nx)=True:=by simp [h7]
 obtain ⟨s0,s1,s2,s3,s4,s5,s6,s7,s8,es',-,-,-,-,-,-,-,-,-⟩:=y5x s
 rw [es'] at o7 k
 unfold wk7 wkB Fn.y0h
 refine ⟨[(80,.one (.bool false))], ?_⟩
 simp only [go_sem,ow,om,o7,hw',hm',h7',Nat.add_zero,k]
end
end Go.Ev
namespace Go.Ev
open Go.Dig
theorem ymz (ph:Nat) (s:Samp):∀(l:List Guard) (i:Nat) (c:Nat→Nat) (f:Option Nat) (k:Nat),k<i→(seeL ph s l i c f).1 k=c k
 | [],i,c,f,k,h=>rfl
 | g::r,i,c,f,k,h=>by
  unfold seeL
  rw [ymz ph s r (i+1) _ _ k (by omega),yc1 _ _ _ _ _ _ _ (by omega)]
theorem yqd (ph:Nat) (s:Samp):∀(l:List Guard) (i:Nat) (c:Nat→Nat) (f:Option Nat) (k:Nat),(seeL ph s l i c f).1 k≤c k+1
 | [],i,c,f,k=>Nat.le_succ _
 | g::r,i,c,f,k=>by
  unfold seeL
  by_cases h:k=i
  ·subst h
   rw [ymz ph s r (k+1) _ _ k (by omega)]
   unfold seeS
   split
   ·split
    ·simp [setN]
    ·simp [setN]
   ·exact Nat.le_succ _
  ·refine Nat.le_trans (yqd ph s r (i+1) _ _ k) ?_
   rw [yc1 _ _ _ _ _ _ _ h]
   exact Nat.le_refl _
theorem yyg (gs:List Guard) (ph:Nat) (cnt:Nat→Nat) (s:Samp) (k:Nat):(seeW gs ph cnt s).2 k≤cnt k+1:=by
 unfold seeW
 split
 ·exact yqd ph s gs 0 cnt none k
 ·exact Nat.zero_le _
theorem yjg (gs:List Guard) (ph:Nat) (cnt:Nat→Nat) (s:Samp) (B:Nat) (h:ph<B) (hg:∀g∈gs,g.to<B):(seeW gs ph cnt s).1<B:=by
 unfold seeW
 split
 ·exact h
 ·rename_i k _
  dsimp only
  cases hk:gs[k]? with
  | none=>simp;omega
  | some g=>exact hg g (List.mem_of_getElem? hk)
structure WSt where
 ph:Nat
 cnt:Nat→Nat
 m:Rat
def curveAt (d:Dev) (ph:Nat):List Pt:=(d.curves[ph]?).getD []
def momW (d:Dev) (w:WSt) (s:Samp):Rat:=
 clampQ (clampQ (atQ (curveAt d (seeW d.guards w.ph w.cnt s).1) s.angle) (w.m-(ptAt d.limits (seeW d.guards w.ph w.cnt s).1).z) (w.m+(ptAt d.limits (seeW d.guards w.ph w.cnt s).1).z)) (-(ptAt d.limits (seeW d.guards w.ph w.cnt s).1).x) (ptAt d.limits (seeW d.guards w.ph w.cnt s).1).x
def stopW (d:Dev) (w:WSt) (s:Samp):Bool:=stopB (seeW d.guards w.ph w.cnt s).1 (momW d w s) s.speed
def stepW (d:Dev) (w:WSt) (s:Samp):WSt:=⟨(seeW d.guards w.ph w.cnt s).1,(seeW d.guards w.ph w.cnt s).2,bif stopW d w s then 0 else momW d w s⟩
def rawM (d:Dev) (w:WSt) (s:Samp):List AV:=bif stopW d w s then [.bool false,.nils,.nils] else qC (momW d w s)
def rawA (d:Dev) (w:WSt) (s:Samp):List AV:=.int .u8 ((stepW d w s).ph:Int)::rawM d w s
def raws (d:Dev):WSt→List Samp→List (List AV)
 | _,[]=>[]
 | w,s::r=>rawA d w s::raws d (stepW d w s) r
def acts (d:Dev):WSt→List Samp→List (Nat×Rat)
 | _,[]=>[]
 | w,s::r=>((stepW d w s).ph,(stepW d w s).m)::acts d (stepW d w s) r
theorem ya4 (d:Dev) (w:WSt) (s:Samp):MQ (stepW d w s).m (rawM d w s):=by
 unfold stepW rawM
 cases stopW d w s
 ·exact .inl rfl
 ·exact .inr ⟨rfl,rfl⟩
theorem MQ.cells {m:Rat} {mc:List AV} (h:MQ m mc):∃a b c,mc=[a,b,c]:=by
 rcases h with rfl | ⟨_,rfl⟩
 ·exact ⟨_,_,_,rfl⟩
 ·exact ⟨_,_,_,rfl⟩
structure OkDev (d:Dev):Prop where
 sm:SmDev d
 c5:d.curves.length=5
 l5:d.limits.length=5
 to:∀g∈d.guards,g.to<5
 cr:∀c∈d.curves,incC c=true∧1≤c.length
theorem yb4 {d:Dev} (h:SmDev d) (hr:rightD d=true):OkDev d:=by
 unfold rightD at hr
 simp only [Bool.and_eq_true,Bool.not_eq_true',Bool.or_eq_false_iff,decide_eq_false_iff_not,ne_eq,Decidable.not_not] at hr
 obtain ⟨⟨-,h1,h2,-⟩,h3,h4,-⟩:=hr
 refine ⟨h,h1,h2,fun g hg=> ?_,fun c hc=> ?_⟩
 ·have hb:=List.any_eq_false.1 h3 g hg
  unfold badG at hb
  simp only [Bool.or_eq_true,decide_eq_true_eq,not_or] at hb
  omega
 ·have hb:=List.any_eq_false.1 h4 c hc
  unfold badC rightC at hb
  simp only [Bool.not_eq_true',Bool.and_eq_false_iff,not_or,Bool.not_eq_false,decide_eq_true_eq] at hb
  exact ⟨hb.1,hb.2.1⟩
structure WIds (Own:Nat→Prop) (bd bw mid bm base:Nat):Prop where
 d:bd<base
 w:bw<base
 i:mid<base
 m:bm<base
 dw:bd≠bw
 di:bd≠mid
 dm:bd≠bm
 wi:bw≠mid
 wm:bw≠bm
 im:mid≠bm
 od:¬Own bd
 ow:¬Own bw
 oi:¬Own mid
 om:¬Own bm
 o:∀id,Own id→id<base
theorem y6g (d:Dev):∃a b c,qC d.step=[a,b,c]∧d.c=[.sl false (d.guards.map Guard.c),.sl false (d.curves.map fun s=>[.sl false (s.map Pt.c)]),.sl false (d.limits.map Pt.c),a,b,c]:=⟨_,_,_,rfl,rfl⟩
def stepsW (d:Dev):WSt→List Samp→List (WSt×Samp)
 | _,[]=>[]
 | w,s::r=>(w,s)::stepsW d (stepW d w s) r
structure Taker (d:Dev) (n0 base lid Smax Lmax:Nat) (fz:Nat→Nat) (Own:Nat→Prop) (Acc:(Nat→Option AObj)→Nat→List (WSt×Samp)→Prop):Prop where
 frame:∀ob ob' nx nx' out,Acc ob nx out→nx≤nx'→(∀id,Own id∨(base≤id∧id<nx)→ob' id=ob id)→Acc ob' nx' out
 step:∀n,n0≤n→∀(w:WSt) (s:Samp) (ob:Nat→Option AObj) (nx:Nat) (out:List (WSt×Samp)),Acc ob nx out→base≤nx→out.length<Lmax→SmSamp s→(stepW d w s).ph<5→SmQ Smax (stepW d w s).m→
  ∃ob' nx',evF E (n+1) (.rnd lid) [.agg s.c,.agg (rawA d w s)] ⟨ob,fz,nx⟩=some (.one (.bool true),⟨ob',fz,nx'⟩)∧nx≤nx'∧Acc ob' nx' (out++[(w,s)])∧∀id,id<base→¬Own id→ob' id=ob id
set_option maxRecDepth 100000 in
theorem ykj (d:Dev) (hd:OkDev d) {bd bw mid bm lid base n0 Smax Lmax:Nat} {Own:Nat→Prop} {Acc:(Nat→Option AObj)→Nat→List (WSt×Samp)→Prop} (I:WIds Own bd bw mid bm base) (fz:Nat→Nat) (T:Taker d n0 base lid Smax Lmax fz Own Acc) (hSm:Smax≤2^29):∀(ss pre:List Samp) (w:WSt) (mc:List AV) (S:Nat),MQ w.m mc→SmQ S w.m→2571≤S→S+257*ss.length≤Smax→w.ph<5→(∀k,w.cnt k+ss.length<2^40)→(∀s∈ss,SmSamp s)→(pre++ss).length<2^20→(pre++ss).length≤Lmax→
  ∃N,∀n,N≤n→∀(ob:Nat→Option AObj) (nx:Nat) (es:List AEnt) (clk:Nat) (out:List (WSt×Samp)) (X:List (Nat×SV)),base≤nx→ob bd=some (.box d.c)→ob bw=some (.box (d.c++[.int .u8 (w.ph:Int),.mp mid]))→ob mid=some (.map es clk)→Rep es w.cnt→ob bm=some (.box mc)→Acc ob nx out→out.length=pre.length→∀M,ss.length<M→
   ∃(ob':Nat→Option AObj) (nx':Nat) (X':List (Nat×SV)),loopN (evC (evF E n) n Fn.y0h) M ⟨env ((0,.one (.yld lid))::(1,.one (.box bd 0))::(4,.one (.box bw 0))::(5,.one (.box bm 0))::(13,.one (.sl false ((pre++ss).map Samp.c)))::(14,.one (.int .i64 ((pre++ss).length:Int)))::(15,.one (.int .i64 (pre.length:Int)))::X),ob,fz,nx⟩=
    some (.ext 0,⟨env X',ob',fz,nx'⟩)∧nx≤nx'∧Acc ob' nx' (out++stepsW d w ss)
 | [],pre,w,mc,S,hm,hS,hS1,hS2,hph,hcnt,hss,hlen,hLmx=>by
  refine ⟨0,fun n hn ob nx es clk out X hb od ow oi hr om hx hout M hM=> ?_⟩
  obtain ⟨M,rfl⟩:∃k,M=k+1:=⟨M-1,by simp at hM;omega⟩
  rw [List.append_nil]
  have hlt:(((pre.length:Nat):Int)<((pre.length:Nat):Int))=False:=by simp
  refine ⟨ob,nx,[(0,.one (.yld lid)),(1,.one (.box bd 0)),(4,.one (.box bw 0)),(5,.one (.box bm 0)),(13,.one (.sl false (pre.map Samp.c))),(14,.one (.int .i64 (pre.length:Int))),(15,.one (.int .i64 (pre.length:Int))),(16,.one (.bool false))],y06 ?_,Nat.le_refl _,by unfold stepsW;rw [List.append_nil];exact hx⟩
  simp only [go_sem,Fn.y0h,hlt]
 | s::r,pre,w,mc,S,hm,hS,hS1,hS2,hph,hcnt,hss,hlen,hLmx=>by
  have hs:=hss s (by simp)
  simp only [List.length_cons] at hS2 hcnt
  have hph':(seeW d.guards w.ph w.cnt s).1<5:=yjg _ _ _ _ 5 hph hd.to
  have gc:d.curves[(seeW d.guards w.ph w.cnt s).1]? =some (curveAt d (seeW d.guards w.ph w.cnt s).1):=by
   unfold curveAt;rw [List.getElem?_eq_getElem (by rw [hd.c5];exact hph')];rfl
  have gl:d.limits[(seeW d.guards w.ph w.cnt s).1]? =some (ptAt d.limits (seeW d.guards w.ph w.cnt s).1):=by
   unfold ptAt;rw [List.getElem?_eq_getElem (by rw [hd.l5];exact hph')];rfl
  have hcm:=List.mem_of_getElem? gc
  have hlm:=List.mem_of_getElem? gl
  have sP:=hd.sm.ls _ hlm
  obtain ⟨i1,i2⟩:=hd.cr _ hcm
  have sat:=(yeh _ s.angle (hd.sm.cll _ hcm) i2 i1 (hd.sm.cs _ hcm) hs.angle).2
  have slo:=SmQ.sub hS sP.z
  have shi:=SmQ.add hS sP.z
  have sat':=SmQ.mono sat (show 2571≤S+256+1 by omega)
  have sr1:=SmQ.clamp sat' slo shi
  have snx:=SmQ.mono (SmQ.neg sP.x) (show 256≤S+256+1 by omega)
  have spx:=SmQ.mono sP.x (show 256≤S+256+1 by omega)
  have sr2:=SmQ.clamp sr1 snx spx
  obtain ⟨N1,k1⟩:=yzm _ s.angle (hd.sm.cll _ hcm) i2 i1 (hd.sm.cs _ hcm) hs.angle
  obtain ⟨N2,k2⟩:=(Ends.of (K (S+256+1)+4) fun hn=>yq8 w.m (ptAt d.limits (seeW d.guards w.ph w.cnt s).1).z hS sP.z (by omega) hn:Ends Id.y3b [.agg (qC w.m),.agg (qC _)] (.agg (qC _))).mq (y1b _) hm
  obtain ⟨N3,k3⟩:=(Ends.of (K (S+256+1)+2) fun hn=>ya6 w.m (ptAt d.limits (seeW d.guards w.ph w.cnt s).1).z hS sP.z (by omega) hn:Ends Id.y23 [.agg (qC w.m),.agg (qC _)] (.agg (qC _))).mq (y1b _) hm
  obtain ⟨N4,k4⟩:=yi1 _ _ _ sat' slo shi (by omega)
  obtain ⟨N5,k5⟩:=yxp (ptAt d.limits (seeW d.guards w.ph w.cnt s).1).x
  obtain ⟨N6,k6⟩:=yi1 _ _ _ sr1 snx spx (by omega)
  obtain ⟨N7,k7⟩:=yc6 _ s.speed sr2 hs.speed (by omega)
  obtain ⟨N8,k8⟩:=ybg (momW d w s*s.speed)
  obtain ⟨N9,k9⟩:∃N,∀n,N≤n→∀g∈d.guards,∀(ob:Nat→Option AObj) (fz:Nat→Nat),callV (evF E n) Id.y3c [.agg g.box.c,.agg s.c] ob fz=some (.fzd fz (.one (.bool (hasBx g.box s)))):=by
   have hg:=fun g hg=>(hd.sm.gs g hg).box
   revert hg
   generalize d.guards=l
   intro hg
   induction l with
   | nil=>exact ⟨0,fun _ _ _ h=>by simp at h⟩
   | cons c r ih=>
    obtain ⟨Na,ka⟩:=ywk c.box s (hg c (by simp)) hs
    obtain ⟨Nb,kb⟩:=ih (fun c hc=>hg c (by simp [hc]))
    refine ⟨Na+Nb,fun n hn y hy=> ?_⟩
    rcases List.mem_cons.1 hy with rfl | e
    ·exact ka n (by omega)
    ·exact kb n (by omega) y e
  have hS':SmQ (S+256+1) (stepW d w s).m:=by
   unfold stepW
   cases stopW d w s
   ·exact sr2
   ·exact SmQ.mono SmQ.zero (by omega)
  obtain ⟨N10,k10⟩:=ykj d hd I fz T hSm r (pre++[s]) (stepW d w s) (rawM d w s) (S+256+1) (ya4 d w s) hS' (by omega) (by omega) hph' (fun k=>by
   have h1:=yyg d.guards w.ph w.cnt s k
   have h2:=hcnt k
   show (seeW d.guards w.ph w.cnt s).2 k+r.length<2^40
   omega) (fun t ht=>hss t (by simp [ht])) (by simpa using hlen) (by simpa using hLmx)
  refine ⟨N1+N2+N3+N4+N5+N6+N7+N8+N9+N10+n0+d.guards.length+3,fun n hn ob nx es clk out X hb od ow oi hr om hx hout M hM=> ?_⟩
  obtain ⟨M,rfl⟩:∃k,M=k+1:=⟨M-1,by simp at hM;omega⟩
  have hM':r.length<M:=by simp only [List.length_cons] at hM;omega
  have k1:=k1 n (by omega)
  have k2:=k2 n (by omega)
  have k3:=k3 n (by omega)
  have k4:=k4 n (by omega)
  have k5:=k5 n (by omega)
  have k6:=k6 n (by omega)
  have k7:=k7 n (by omega)
  have k8:=k8 n (by omega)
  have k10:=k10 n (by omega)
  obtain ⟨n,rfl⟩:∃m,n=m+1:=⟨n-1,by omega⟩
  have k9:=k9 n (by omega)
  obtain ⟨m1,m2,m3,hmc⟩:=hm.cells
  rw [hmc] at k2 k3 om
  obtain ⟨t1,t2,t3,-,hdc⟩:=y6g d
  have gs:(pre++s::r)[pre.length]? =some s:=by simp
  have I':=I
  obtain ⟨jd,jw,ji,jm,jdw,jdi,jdm,jwi,jwm,jim,od',ow',oi',om',jo⟩:=I'
  have hlt:(((pre.length:Nat):Int)<(((pre++s::r).length:Nat):Int))=True:=by simp;omega
  have hA:evC (evF E (n+1)) (n+1) wkA ⟨env ((0,.one (.yld lid))::(1,.one (.box bd 0))::(4,.one (.box bw 0))::(5,.one (.box bm 0))::(13,.one (.sl false ((pre++s::r).map Samp.c)))::(14,.one (.int .i64 ((pre++s::r).length:Int)))::(15,.one (.int .i64 (pre.length:Int)))::X),ob,fz,nx⟩=some (.nrm,⟨env [(0,.one (.yld lid)),(1,.one (.box bd 0)),(4,.one (.box bw 0)),(5,.one (.box bm 0)),(13,.one (.sl false ((pre++s::r).map Samp.c))),(14,.one (.int .i64 ((pre++s::r).length:Int))),(15,.one (.int .i64 (pre.length:Int))),(16,.one (.bool true))],ob,fz,nx⟩):=by
   unfold wkA Fn.y0h
   simp only [go_sem,hlt]
  have hC:evC (evF E (n+1)) (n+1) wkC ⟨env [(0,.one (.yld lid)),(1,.one (.box bd 0)),(4,.one (.box bw 0)),(5,.one (.box bm 0)),(13,.one (.sl false ((pre++s::r).map Samp.c))),(14,.one (.int .i64 ((pre++s::r).length:Int))),(15,.one (.int .i64 (pre.length:Int))),(16,.one (.bool true))],ob,fz,nx⟩=some (.nrm,⟨env [(0,.one (.yld lid)),(1,.one (.box bd 0)),(4,.one (.box bw 0)),(5,.one (.box bm 0)),(13,.one (.sl false ((pre++s::r).map Samp.c))),(14,.one (.int .i64 ((pre++s::r).length:Int))),(15,.one (.int .i64 (pre.length:Int))),(16,.one (.bool true))],ob,fz,nx⟩):=by
   unfold wkC Fn.y0h
   simp only [go_sem]
  have h1:=piece1 (n:=n+1) (fz:=fz) (ob:=ob) (nx:=nx) (i:=pre.length) (.one (.yld lid)) (.one (.box bd 0)) (.one (.box bw 0)) (.one (.box bm 0)) (pre++s::r) s gs [(16,.one (.bool true))]
  have f1:∀id,id<nx→upd ob (nx+2) (.box s.c) id=ob id:=fun id h=>y00 (by omega)
  rw [hdc,List.cons_append,List.cons_append,List.cons_append,List.cons_append,List.cons_append,List.cons_append,List.nil_append] at ow
  obtain ⟨ob2,nx2,es2,clk2,hsee,b1,b2,b3,b4,b5⟩:=yyo (n:=n) (fz:=fz) (nx:=nx+4) (ob:=upd ob (nx+2) (.box s.c)) d.guards s hd.sm.gl (by omega) jwi k9 (by omega) (by omega) ((f1 bw (by omega)).trans ow) ((f1 mid (by omega)).trans oi) hr (fun k=>by have:=hcnt k;omega)
  have o7:ob2 (nx+2)=some (.box s.c):=(b5 (nx+2) (by omega) (by omega) (by omega)).trans (upd_same _ _ _)
  have f2:∀id,id<nx→id≠bw→id≠mid→ob2 id=ob id:=fun id h h1 h2=>(b5 id (by omega) h1 h2).trans (f1 id h)
  have h2:=piece2 (n:=n+1) (fz:=fz) (ob:=upd ob (nx+2) (.box s.c)) (nx:=nx+4) (bw:=bw) (b7:=nx+2) (.one (.yld lid)) (.one (.box bd 0)) (.one (.box bm 0)) (.one (.sl false ((pre++s::r).map Samp.c))) (.one (.int .i64 ((pre++s::r).length:Int))) (.one (.int .i64 (pre.length:Int))) s (upd_same _ _ _) ob2 nx2 hsee
  have od2:ob2 bd=_:=(f2 bd (by omega) jdw jdi).trans (od.trans (by rw [hdc]))
  have h3:=piece3 (n:=n+1) (fz:=fz) (ob:=ob2) (nx:=nx2) (bd:=bd) (bw:=bw) (b7:=nx+2) (.one (.yld lid)) (.one (.box bm 0)) (.one (.sl false ((pre++s::r).map Samp.c))) (.one (.int .i64 ((pre++s::r).length:Int))) (.one (.int .i64 (pre.length:Int))) d.limits _ gl (by omega) (by omega) od2 b2
  have f3:∀(y:AObj) id,id<nx2→upd ob2 (nx2+8) y id=ob2 id:=fun y id h=>y00 (by omega)
  have om2:ob2 bm=_:=(f2 bm (by omega) (Ne.symm jwm) (Ne.symm jim)).trans om
  have h4:=piece4 (n:=n+1) (fz:=fz) (ob:=upd ob2 (nx2+8) (.box (ptAt d.limits (seeW d.guards w.ph w.cnt s).1).c)) (nx:=nx2+10) (bd:=bd) (bw:=bw) (bm:=bm) (b7:=nx+2) (b8:=nx2+8) (.one (.yld lid)) (.one (.sl false ((pre++s::r).map Samp.c))) (.one (.int .i64 ((pre++s::r).length:Int))) (.one (.int .i64 (pre.length:Int))) d.curves _ s _ _ _ _ _ gc (by omega) (by omega) (by omega) (by omega) (by omega) ((f3 _ bd (by omega)).trans od2) ((f3 _ bw (by omega)).trans b2) ((f3 _ bm (by omega)).trans om2) ((f3 _ (nx+2) (by omega)).trans o7) (upd_same _ _ _) k1 k2 k3 k4
  have h5:=piece5 (n:=n+1) (fz:=fz) (ob:=upd (upd ob2 (nx2+8) (.box (ptAt d.limits (seeW d.guards w.ph w.cnt s).1).c)) bm (.box (qC _))) (nx:=nx2+10) (bm:=bm) (b8:=nx2+8) (.one (.yld lid)) (.one (.box bd 0)) (.one (.box bw 0)) (.one (.box (nx+2) 0)) (.one (.sl false ((pre++s::r).map Samp.c))) (.one (.int .i64 ((pre++s::r).length:Int))) (.one (.int .i64 (pre.length:Int))) _ _ (momW d w s) (by omega) (by omega) (upd_same _ _ _) (by rw [y00 (by omega)];exact upd_same _ _ _) k5 k6
  obtain ⟨ob5,hob5⟩:∃o,o=upd (upd ob2 (nx2+8) (.box (ptAt d.limits (seeW d.guards w.ph w.cnt s).1).c)) bm (.box (qC (momW d w s))):=⟨_,rfl⟩
  rw [y96,←hob5] at h5
  have f5:∀id,id<nx2→id≠bm→ob5 id=ob2 id:=fun id h h1=>by rw [hob5,y00 h1];exact f3 _ id h
  have om5:ob5 bm=some (.box (qC (momW d w s))):=by rw [hob5];exact upd_same _ _ _
  obtain ⟨X6,h6⟩:=piece6 (n:=n+1) (fz:=fz) (ob:=ob5) (nx:=nx2+10) (bw:=bw) (bm:=bm) (b7:=nx+2) (.one (.yld lid)) (.one (.box bd 0)) (.one (.sl false ((pre++s::r).map Samp.c))) (.one (.int .i64 ((pre++s::r).length:Int))) (.one (.int .i64 (pre.length:Int))) s (momW d w s) ((f5 bw (by omega) jwm).trans b2) om5 ((f5 (nx+2) (by omega) (by omega)).trans o7) k7 k8
  obtain ⟨ob6,hob6⟩:∃o,o=(bif stopB (seeW d.guards w.ph w.cnt s).1 (momW d w s) s.speed then upd ob5 bm (.box [.bool false,.nils,.nils]) else ob5):=⟨_,rfl⟩
  rw [←hob6] at h6
  have f6:∀id,id<nx2→id≠bm→ob6 id=ob2 id:=fun id h h1=>by
   rw [hob6]
   cases stopB (seeW d.guards w.ph w.cnt s).1 (momW d w s) s.speed
   ·exact f5 id h h1
   ·rw [cond_true,y00 h1];exact f5 id h h1
  have om6:ob6 bm=some (.box (rawM d w s)):=by
   rw [hob6]
   unfold rawM stopW
   cases stopB (seeW d.guards w.ph w.cnt s).1 (momW d w s) s.speed
   ·exact om5
   ·exact upd_same _ _ _
  obtain ⟨r1,r2,r3,hrm⟩:=(ya4 d w s).cells
  have f6':∀id,id<nx→id≠bw→id≠mid→id≠bm→ob6 id=ob id:=fun id h h1 h2 h3=>(f6 id (by omega) h3).trans (f2 id h h1 h2)
  have hx6:=T.frame ob ob6 nx (nx2+10) out hx (by omega) fun id hid=>by
   rcases hid with h | ⟨h,h'⟩
   ·have:=jo id h
    exact f6' id (by omega) (fun e=>ow' (e ▸ h)) (fun e=>oi' (e ▸ h)) (fun e=>om' (e ▸ h))
   ·exact f6' id h' (by omega) (by omega) (by omega)
  obtain ⟨ob7,nx7,hrnd,c1,c2,c5⟩:=T.step n (by omega) w s ob6 (nx2+10) out hx6 (by omega) (by rw [hout];simp at hLmx;omega) hs hph' (SmQ.mono hS' (by omega))
  have e:rawA d w s=[.int .u8 ((seeW d.guards w.ph w.cnt s).1:Int),r1,r2,r3]:=by unfold rawA;rw [hrm];rfl
  rw [e] at hrnd
  rw [hrm] at om6
  obtain ⟨X7,h7⟩:=piece7 (n:=n+1) (fz:=fz) (ob:=ob6) (nx:=nx2+10) (lid:=lid) (bw:=bw) (bm:=bm) (b7:=nx+2) (.one (.box bd 0)) (.one (.sl false ((pre++s::r).map Samp.c))) (.one (.int .i64 ((pre++s::r).length:Int))) (.one (.int .i64 (pre.length:Int))) s (by omega) (by omega) (by omega) ((f6 bw (by omega) jwm).trans b2) om6 ((f6 (nx+2) (by omega) (by omega)).trans o7) ob7 nx7 hrnd X6
  have wk:IntKind.i64.wrap ((pre.length+1:Nat):Int)=((pre.length+1:Nat):Int):=wi64 (by simp at hlen;omega)
  have hI:evC (evF E (n+1)) (n+1) wkI ⟨env ((0,.one (.yld lid))::(1,.one (.box bd 0))::(4,.one (.box bw 0))::(5,.one (.box bm 0))::(13,.one (.sl false ((pre++s::r).map Samp.c)))::(14,.one (.int .i64 ((pre++s::r).length:Int)))::(15,.one (.int .i64 (pre.length:Int)))::X7),ob7,fz,nx7⟩=some (.nrm,⟨env [(0,.one (.yld lid)),(1,.one (.box bd 0)),(4,.one (.box bw 0)),(5,.one (.box bm 0)),(13,.one (.sl false ((pre++s::r).map Samp.c))),(14,.one (.int .i64 ((pre++s::r).length:Int))),(15,.one (.int .i64 ((pre.length+1:Nat):Int)))],ob7,fz,nx7⟩):=by
   unfold wkI Fn.y0h
   simp only [go_sem,add1,wk]
  have hst:evC (evF E (n+1)) (n+1) Fn.y0h ⟨env ((0,.one (.yld lid))::(1,.one (.box bd 0))::(4,.one (.box bw 0))::(5,.one (.box bm 0))::(13,.one (.sl false ((pre++s::r).map Samp.c)))::(14,.one (.int .i64 ((pre++s::r).length:Int)))::(15,.one (.int .i64 (pre.length:Int)))::X),ob,fz,nx⟩=some (.nrm,⟨env [(0,.one (.yld lid)),(1,.one (.box bd 0)),(4,.one (.box bw 0)),(5,.one (.box bm 0)),(13,.one (.sl false ((pre++s::r).map Samp.c))),(14,.one (.int .i64 ((pre++s::r).length:Int))),(15,.one (.int .i64 ((pre.length+1:Nat):Int)))],ob7,fz,nx7⟩):=by
   rw [wk_eq]
   simp only [x_seq,hA,yeb,hC,yiv,h1,h2,h3,h4,h5,h6,h7,ygm,hI]
  have hpl:(pre++[s]).length=pre.length+1:=by simp
  have hpa:pre++[s]++r=pre++s::r:=by simp
  rw [hpa,hpl] at k10
  obtain ⟨ob8,nx8,X8,g1,g2,g5⟩:=k10 ob7 nx7 es2 clk2 (out++[(w,s)]) [] (by omega) (by
   rw [c5 bd jd od',f6' bd (by omega) jdw jdi jdm,od]) (by
   rw [c5 bw jw ow',f6 bw (by omega) jwm,b2,hdc];rfl) (by
   rw [c5 mid ji oi',f6 mid (by omega) jim];exact b3) b4 (by
   rw [c5 bm jm om',om6,hrm]) c2 (by simp [hout]) M hM'
  refine ⟨ob8,nx8,X8,by rw [y05 hst];exact g1,by omega, ?_⟩
  unfold stepsW
  simpa using g5
end Go.Ev
namespace Go.Ev
open Go.Dig
theorem OutB.shut {base nx:Nat} {ob0 ob:Nat→Option AObj} {x:AV} {es:List (List AV)} (h:OutB base ob nx x es):OutB base (shut ob0 ob) nx x es:=by
 rcases h with h | ⟨id,ver,h1,h2,h3,h4⟩
 ·exact .inl h
 ·exact .inr ⟨id,ver,h1,y9m h2,h3,h4⟩
theorem wbound {n:Nat} (h:n<2^20):2571+257*n≤2^29:=by
 have:257*(2^20)+2571≤2^29:=by decide
 omega
def w0:WSt:=⟨0,fun _=>0,0⟩
set_option maxRecDepth 100000 in
theorem ydv (d:Dev) (hd:OkDev d) (l:List Samp) (hl:l.length<2^20) (hs:∀s∈l,SmSamp s) {n0 Smax Lmax:Nat} {Own:Nat→Prop} {Acc:(Nat→Option AObj)→Nat→List (WSt×Samp)→Prop} (lid bd bl nx:Nat) (fz:Nat→Nat) (T:Taker d n0 (nx+6) lid Smax Lmax fz Own Acc) (hS1:2571+257*l.length≤Smax) (hS2:Smax≤2^29) (hLm:l.length≤Lmax) (hO:∀id,Own id→id<nx) (hbd:¬Own bd) (h2:bd<nx) (h3:bl<nx):∃N,∀n,N≤n→∀(ob:Nat→Option AObj),ob bd=some (.box d.c)→ob bl=some (.box [.sl false (l.map Samp.c)])→Acc ob nx []→
  ∃(ob':Nat→Option AObj) (nx':Nat),evF E (n+1) (.fn Id.y09) [.one (.yld lid),.one (.box bd 0),.one (.box bl 0)] ⟨ob,fz,nx⟩=some (.tup [],⟨Ev.shut ob ob',fz,nx'⟩)∧nx≤nx'∧Acc ob' nx' (stepsW d w0 l):=by
 have hn:∀k,¬Own (nx+k):=fun k h=>by have:=hO _ h;omega
 obtain ⟨N,h⟩:=ykj d hd (bd:=bd) (bw:=nx+3) (mid:=nx+1) (bm:=nx+5) (base:=nx+6) ⟨by omega,by omega,by omega,by omega,by omega,by omega,by omega,by omega,by omega,by omega,hbd,hn 3,hn 1,hn 5,fun id h=>by have:=hO _ h;omega⟩ fz T hS2 l [] w0 [.bool false,.nils,.nils] 2571 (.inr ⟨rfl,rfl⟩) (SmQ.mono SmQ.zero (by omega)) (Nat.le_refl _) hS1 (by decide) (fun k=>by
  show 0+l.length<2^40
  exact Nat.lt_trans (by omega) (show 2^20<2^40 by decide)) hs (by simpa using hl) (by simpa using hLm)
 refine ⟨N+l.length+1,fun n hn ob od ol hA=> ?_⟩
 obtain ⟨t1,t2,t3,-,hdc⟩:=y6g d
 have n2:∀k,(bd=nx+k)=False:=fun k=>by simp only [eq_iff_iff,iff_false];omega
 have n3:∀k,(bl=nx+k)=False:=fun k=>by simp only [eq_iff_iff,iff_false];omega
 obtain ⟨ob1,hob1⟩:∃o,o=upd (upd (upd ob (nx+1) (.map [] 0)) (nx+3) (.box (d.c++[.int .u8 0,.mp (nx+1)]))) (nx+5) (.box [.bool false,.nils,.nils]):=⟨_,rfl⟩
 have f1:∀id,id<nx→ob1 id=ob id:=fun id hi=>by rw [hob1,y00 (by omega),y00 (by omega),y00 (by omega)]
 obtain ⟨ob',nx',X',g1,g2,g5⟩:=h n (by omega) ob1 (nx+6) [] 0 [] [] (Nat.le_refl _) ((f1 bd h2).trans od) (by rw [hob1,y00 (by omega)];exact upd_same _ _ _) (by rw [hob1,y00 (by omega),y00 (by omega)];exact upd_same _ _ _) Rep.nil (by rw [hob1];exact upd_same _ _ _) (T.frame ob ob1 nx (nx+6) [] hA (by omega) fun id hid=>by
   rcases hid with h | h
   ·exact f1 id (hO id h)
   ·omega) rfl n (by omega)
 refine ⟨ob',nx', ?_,by omega,g5⟩
 rw [hob1] at g1
 rw [List.nil_append] at g1
 have z0:(([]:List Samp).length:Int)=0:=rfl
 rw [z0] at g1
 rw [hdc] at od g1
 simp only [List.cons_append,List.nil_append] at g1
 rw [y7e yco]
 have hlm:(l.map Samp.c).length=l.length:=List.length_map _
 simp only [go_sem,Fn.y09,od,ol,n2,n3,hlm,Nat.add_assoc,g1]
theorem yim (d:Dev):∀(l:List Samp) (w:WSt),raws d w l=(stepsW d w l).map fun p=>rawA d p.1 p.2
 | [],w=>rfl
 | s::r,w=>by unfold raws stepsW;rw [yim d r,List.map_cons]
def ActAcc (d:Dev) (L:List (Nat×SV)) (lid bo base:Nat) (ob:Nat→Option AObj) (nx:Nat) (out:List (WSt×Samp)):Prop:=
 ob lid=some (.loop (actLoop L))∧∃x,ob bo=some (.box [x])∧OutB base ob nx x (out.map fun p=>rawA d p.1 p.2)
theorem ysc (d:Dev) {L:List (Nat×SV)} (lid bo base:Nat) (fz:Nat→Nat) (hL:env L 7=.one (.box bo 0)) (h1:lid<base) (h2:bo<base) (hne:lid≠bo):Taker d 0 base lid (2^29) (2^20) fz (fun id=>id=lid∨id=bo) (ActAcc d L lid bo base):=by
 refine ⟨fun ob ob' nx nx' out h hn hf=> ?_,fun n _ w s ob nx out h hb ho hs hph hm=> ?_⟩
 ·obtain ⟨a,x,b,c⟩:=h
  exact ⟨(hf lid (.inl (.inl rfl))).trans a,x,(hf bo (.inl (.inr rfl))).trans b,c.frame hn fun id q1 q2=>hf id (.inr ⟨q1,q2⟩)⟩
 ·obtain ⟨a,x,b,c⟩:=h
  obtain ⟨r1,r2,r3,hrm⟩:=(ya4 d w s).cells
  obtain ⟨ob',nx',x',g1,g2,g3,g4,g5,g6⟩:=yzf (n:=n) (lid:=lid) (bo:=bo) (base:=base) (nx:=nx) (ob:=ob) (fz:=fz) (x:=x) (es:=out.map fun p=>rawA d p.1 p.2) (L:=L) (c0:=.int .u8 ((stepW d w s).ph:Int)) (m1:=r1) (m2:=r2) (m3:=r3) (.agg s.c) hL a b c h1 h2 hb hne (by rw [List.length_map];exact ho)
  have e:rawA d w s=[.int .u8 ((stepW d w s).ph:Int),r1,r2,r3]:=by unfold rawA;rw [hrm]
  refine ⟨ob',nx',by rw [e];exact g1,g2,⟨g3,x',g4, ?_⟩,fun id q1 q2=>g6 id q1 (fun e=>q2 (.inl e)) (fun e=>q2 (.inr e))⟩
  rw [List.map_append,List.map_cons,List.map_nil,e]
  exact g5
theorem yby {F:Caller} {fuel:Nat} {g:Opd} {ps:List Nat} {asg body:ACode} {st:St} {f:FuncId} {first caps:List AV} {r:SV} {s:Sto} {l:ALoop} (hg:g.ev st.sl=.one (.fn f first caps)) (hc:F (.fn f) (first.map .one++[.one (.yld (st.nx+1))]++caps.map .one) ⟨upd (upd st.ob st.nx .dfr) (st.nx+1) (.loop ⟨st.sl,ps,asg,body,.ready,none⟩),st.fz,st.nx+2⟩=some (r,s)) (hl:s.ob (st.nx+1)=some (.loop l)) (hb:l.st=.ready):
  evC F fuel (.rangeF g ps asg body) st=some (l.pend.getD .nrm,⟨st.sl,upd s.ob (st.nx+1) (.loop { l with st:=.exhausted }),s.fz,s.nx⟩):=by
 simp only [evC,hg,hc,hl,hb]
theorem yg9 {n:Nat} (d:Dev) (l:List Samp) (ob:Nat→Option AObj) (fz:Nat→Nat) (nx:Nat):evF E (n+1) (.fn Id.y2s) [.agg d.c,.one (.sl false (l.map Samp.c))] ⟨ob,fz,nx⟩=some (.one (.fn Id.y09 [] [.box nx 0,.box (nx+1) 0]),⟨shut ob (upd (upd ob nx (.box d.c)) (nx+1) (.box [.sl false (l.map Samp.c)])),fz,nx+3⟩):=by
 rw [y7e yd3]
 obtain ⟨t1,t2,t3,-,hdc⟩:=y6g d
 rw [hdc]
 simp only [go_sem,Fn.y2s,List.mapM_cons,List.mapM_nil,Option.bind_eq_bind,Option.bind_some,Option.pure_def,SV.av]
def actC (a:Nat×Rat):List AV:=.int .u8 (a.1:Int)::qC a.2
theorem yxj (d:Dev) (w:WSt) (s:Samp) (ob:Nat→Option AObj) (k:Nat) (fz:Nat→Nat):mapFz (Ev.frz ob (k+1)) fz (rawA d w s)=some (fz,actC ((stepW d w s).ph,(stepW d w s).m)):=by
 unfold rawA actC rawM stepW
 cases stopW d w s
 ·simp only [cond_false]
  exact y7f _ fun x hx=>Canon.frz (by
   rcases List.mem_cons.1 hx with rfl | h
   ·exact .int _ _
   ·exact CanL.q _ x h) ob k fz
 ·simp only [cond_true,ybx]
  rfl
theorem ym4 (d:Dev) (ob:Nat→Option AObj) (k:Nat) (fz:Nat→Nat):∀(l:List Samp) (w:WSt),mapFz (mapFz (Ev.frz ob (k+1))) fz (raws d w l)=some (fz,(acts d w l).map actC)
 | [],w=>rfl
 | s::r,w=>by
  unfold raws acts
  simp only [mapFz,yxj,ym4 d ob k fz r,List.map_cons]
theorem OutB.frzR {base nx:Nat} {ob:Nat→Option AObj} {x:AV} {es fs:List (List AV)} (h:OutB base ob nx x es) (hf:∀fz,mapFz (mapFz (Ev.frz ob 7)) fz es=some (fz,fs)) (hl:es=[]→fs=[]):∃g:(Nat→Nat)→(Nat→Nat),∀fz,frzS ob fz (.one x)=some (g fz,.one (.sl false fs)):=by
 rcases h with ⟨h1,rfl⟩ | ⟨id,ver,rfl,hid,_⟩
 ·exact ⟨fun fz=>fz,fun fz=>by rw [hl h1];rfl⟩
 ·refine ⟨fun fz=>raise fz id (0+es.length),fun fz=> ?_⟩
  have hb:Nat.ble (0+es.length) es.length=true:=by simp
  have h1:Ev.frz ob DEPTH fz (.rsl id ver 4 0 es.length false)=some (raise fz id (0+es.length),.sl false fs):=by
   rw [show DEPTH=7+1 from rfl,y7l,y1l hid]
   simp only [hb,cond_true,List.drop_zero,List.take_length,hf]
  simp only [frzS,h1]
theorem yjm {d:Dev} {l:List Samp} (h:mayI d l=0):rightD d=true:=by
 unfold mayI errD at h
 by_cases hr:rightD d=true
 ·exact hr
 ·rw [if_neg hr] at h;simp at h
set_option maxRecDepth 100000 in
theorem ymm (d:Dev) (h:SmDev d) (l:List Samp) (hl:l.length<2^20) (hs:∀s∈l,SmSamp s):Ends Id.y5w [.agg d.c,.one (.sl false (l.map Samp.c))] (.tup [.one (.sl false (if mayI d l=0 then (acts d w0 l).map actC else [])),.one (.int .i64 (mayI d l))]):=by
 obtain ⟨N1,k1⟩:=yg3 d h l
 by_cases he:mayI d l=0
 ·have hd:=yb4 h (yjm he)
  obtain ⟨N2,k2⟩:=ydv d hd l hl hs 8 4 5 9 (fun _=>0) (ysc d (L:=[(7,.one (.box 3 0)),(18,.one (.fn Id.y09 [] [.box 4 0,.box 5 0]))]) 8 3 15 (fun _=>0) rfl (by decide) (by decide) (by decide)) (wbound hl) (Nat.le_refl _) (by omega) (fun id h=>by rcases h with rfl | rfl<;>decide) (by decide) (by decide) (by decide)
  refine .of (N1+N2+3) fun {n} hn=> ?_
  have k1:=k1 n (by omega)
  rw [if_pos he]
  rw [he] at k1 ⊢
  obtain ⟨m,rfl⟩:∃m,n=m+1:=⟨n-1,by omega⟩
  have k2:=k2 m (by omega)
  have k3:=yg9 (n:=m) d l
  rw [y02 yhc]
  obtain ⟨obA,hobA⟩:∃o,o=Ev.shut (upd (upd ob0 0 (.box d.c)) 3 (.box [.nils])) (upd (upd (upd (upd ob0 0 (.box d.c)) 3 (.box [.nils])) 4 (.box d.c)) 5 (.box [.sl false (l.map Samp.c)])):=⟨_,rfl⟩
  obtain ⟨obL,hobL⟩:∃o,o=upd (upd obA 7 .dfr) 8 (.loop (actLoop [(7,.one (.box 3 0)),(18,.one (.fn Id.y09 [] [.box 4 0,.box 5 0]))])):=⟨_,rfl⟩
  have a4:obA 4=some (.box d.c):=by rw [hobA];exact y5e (by rw [y00 (by decide)];exact upd_same _ _ _)
  have a5:obA 5=some (.box [.sl false (l.map Samp.c)]):=by rw [hobA];exact y5e (upd_same _ _ _)
  have a3:obA 3=some (.box [.nils]):=by rw [hobA];exact y5e (by rw [y00 (by decide),y00 (by decide)];exact upd_same _ _ _)
  obtain ⟨ob1',nx',q1,q2,q3',x',q4',q5'⟩:=k2 obL (by rw [hobL,y00 (by decide),y00 (by decide)];exact a4) (by rw [hobL,y00 (by decide),y00 (by decide)];exact a5) ⟨by rw [hobL];exact upd_same _ _ _,.nils,by rw [hobL,y00 (by decide),y00 (by decide)];exact a3,.inl ⟨rfl,rfl⟩⟩
  rw [←yim] at q5'
  obtain ⟨ob',hob'⟩:∃o,o=Ev.shut obL ob1':=⟨_,rfl⟩
  have q3:=ycc (ob0:=obL) q3'
  rw [←hob'] at q3
  have q4:ob' 3=some (.box [x']):=by rw [hob'];exact y5e q4'
  have q5:OutB 15 ob' nx' x' (raws d w0 l):=by rw [hob'];exact q5'.shut
  rw [←hob'] at q1
  obtain ⟨lp,hlp⟩:∃lp:ALoop,lp={ actLoop [(7,.one (.box 3 0)),(18,.one (.fn Id.y09 [] [.box 4 0,.box 5 0]))] with st:=.exhausted }:=⟨_,rfl⟩
  have hR:evC (evF E (m+1)) (m+1) (.rangeF (.t 18) [19,20] actAsg Fn.y6y) ⟨env [(7,.one (.box 3 0)),(18,.one (.fn Id.y09 [] [.box 4 0,.box 5 0]))],obA,fz0,7⟩=some (.nrm,⟨env [(7,.one (.box 3 0)),(18,.one (.fn Id.y09 [] [.box 4 0,.box 5 0]))],upd ob' 8 (.loop lp),fz0,nx'⟩):=by
   rw [hlp]
   exact yby (F:=evF E (m+1)) (fuel:=m+1) (g:=.t 18) (ps:=[19,20]) (asg:=actAsg) (body:=Fn.y6y) (st:=⟨env [(7,.one (.box 3 0)),(18,.one (.fn Id.y09 [] [.box 4 0,.box 5 0]))],obA,fz0,7⟩) (first:=[]) (caps:=[.box 4 0,.box 5 0]) rfl (by
    show evF E (m+1) _ _ ⟨upd (upd obA 7 .dfr) 8 _,fz0,9⟩=_
    have e:=q1
    rw [hobL] at e
    exact e) q3 rfl
  have k3:=k3 (upd (upd ob0 0 (.box d.c)) 3 (.box [.nils])) fz0 4
  rw [←hobA] at k3
  have hq5:OutB 15 (upd ob' 8 (.loop lp)) nx' x' (raws d w0 l):=q5.frame (Nat.le_refl _) fun id h1 h2=>y00 (by omega)
  obtain ⟨g,hg⟩:=hq5.frzR (fun fz=>ym4 d _ 6 fz l w0) (fun h=>by cases l with | nil=>rfl | cons s r=>unfold raws at h;cases h)
  unfold actAsg at hR
  have e8:upd ob' 8 (.loop lp) 3=some (.box [x']):=by rw [y00 (by decide)];exact q4
  generalize upd ob' 8 (.loop lp)=obE at hR hg e8
  obtain ⟨t1,t2,t3,-,hdc⟩:=y6g d
  have hz:IntKind.i64.wrap 0=0:=rfl
  rw [hdc] at k1 k3 ⊢
  simp only [go_sem,Fn.y5w,k1,k3,bne_self_eq_false,hR,e8,hg]
 ·refine .of (N1+1) fun {n} hn=> ?_
  have k1:=k1 n (by omega)
  rw [if_neg he,y02 yhc]
  obtain ⟨t1,t2,t3,-,hdc⟩:=y6g d
  rw [hdc] at k1 ⊢
  generalize mayI d l=e at*
  have e1:(e !=0)=true:=by simp [he]
  simp only [go_sem,Fn.y5w,k1,e1]
end Go.Ev
namespace Go.Ev
def CLe (F F':Caller):Prop:=∀c args s r,F c args s=some r→F' c args s=some r
theorem yie {F F':Caller} (h:CLe F F') {f:FuncId} {args:List SV} {ob:Nat→Option AObj} {fz:Nat→Nat} {e:Eff} (he:callV F f args ob fz=some e):callV F' f args ob fz=some e:=by
 unfold callV at he ⊢
 cases h1:mapFz (frzS ob) fz args with
 | none=>rw [h1] at he;cases he
 | some p=>
  obtain ⟨fz',args'⟩:=p
  rw [h1] at he
  simp only at he ⊢
  cases h2:F (.fn f) args' Sto.empty with
  | none=>rw [h2] at he;cases he
  | some q=>
   rw [h _ _ _ _ h2]
   rw [h2] at he
   exact he
theorem yur {F F':Caller} (h:CLe F F') {d:Bool} {rb id:Nat} {st:St} {o:AOp} {e:Eff} (he:evOp F d rb id st o=some e):evOp F' d rb id st o=some e:=by
 cases o with
 | call byref f args=>
  simp only [evOp] at he ⊢
  cases byref with
  | true=>
   simp only [cond_true] at he ⊢
   cases h2:F (.fn f) (args.map (·.ev st.sl)) ⟨st.ob,st.fz,st.nx⟩ with
   | none=>rw [h2] at he;cases he
   | some q=>rw [h _ _ _ _ h2];rw [h2] at he;exact he
  | false=>exact yie h he
 | callv x args=>
  simp only [evOp] at he ⊢
  split at he
  ·exact yie h he
  ·rename_i f first caps hne hx
   cases h2:F (.fn f) (first.map .one++args.map (·.ev st.sl)++caps.map .one) ⟨st.ob,st.fz,st.nx⟩ with
   | none=>rw [h2] at he;cases he
   | some q=>rw [h _ _ _ _ h2];rw [h2] at he;exact he
  ·rename_i l hx
   cases h2:F (.rnd l) (args.map (·.ev st.sl)) ⟨st.ob,st.fz,st.nx⟩ with
   | none=>rw [h2] at he;cases he
   | some q=>rw [h _ _ _ _ h2];rw [h2] at he;exact he
  ·cases he
 | _=>exact he
theorem yv8 {F F':Caller} (h:CLe F F') {d:Bool} {rb i:Nat} {st st':St} {o:AOper} (he:evO F d rb i o st=some st'):evO F' d rb i o st=some st':=by
 unfold evO at he ⊢
 split at he
 ·cases hl:limOk st.sl o.op o.lim with
  | false=>rw [hl] at he;cases he
  | true=>
   rw [hl] at he
   simp only [cond_true] at he ⊢
   cases h2:evOp F d rb (rb+i) st o.op with
   | none=>rw [h2] at he;cases he
   | some q=>rw [yur h h2];rw [h2] at he;exact he
 ·exact he
 ·cases he
theorem yif {F F':Caller} (h:CLe F F') {d:Bool} {rb:Nat}:∀{ops:List AOper} {i:Nat} {st st':St},evOps F d rb i ops st=some st'→evOps F' d rb i ops st=some st'
 | [],i,st,st',he=>he
 | o::r,i,st,st',he=>by
  unfold evOps at he ⊢
  cases h2:evO F d rb i o st with
  | none=>rw [h2] at he;cases he
  | some q=>rw [yv8 h h2];rw [h2] at he;exact yif h he
theorem yhf {b b':St→Option (Ex×St)} (h:∀st r,b st=some r→b' st=some r):∀{k k':Nat} {st:St} {r:Ex×St},k≤k'→loopN b k st=some r→loopN b' k' st=some r
 | 0,k',st,r,hk,he=>by cases he
 | k+1,0,st,r,hk,he=>by omega
 | k+1,k'+1,st,r,hk,he=>by
  unfold loopN at he ⊢
  cases h2:b st with
  | none=>rw [h2] at he;cases he
  | some q=>
   rw [h _ _ h2]
   rw [h2] at he
   obtain ⟨e,st'⟩:=q
   cases e with
   | nrm=>exact yhf h (by omega) he
   | ext id=>exact he
   | ret=>exact he
theorem y8s {F F':Caller} (h:CLe F F') {fuel fuel':Nat} (hf:fuel≤fuel'):∀(a:ACode) {st:St} {r:Ex×St},evC F fuel a st=some r→evC F' fuel' a st=some r
 | .skip,st,r,he=>he
 | .reg d ops na ks,st,r,he=>by
  unfold evC at he ⊢
  cases h2:evOps F d st.nx 0 ops { st with nx:=st.nx+na } with
  | none=>rw [h2] at he;cases he
  | some q=>rw [yif h h2];rw [h2] at he;exact he
 | .seq a b,st,r,he=>by
  unfold evC at he ⊢
  cases h2:evC F fuel a st with
  | none=>rw [h2] at he;cases he
  | some q=>
   rw [y8s h hf a h2]
   rw [h2] at he
   obtain ⟨e,st'⟩:=q
   cases e with
   | nrm=>exact y8s h hf b he
   | ext id=>exact he
   | ret=>exact he
 | .cond c a b,st,r,he=>by
  unfold evC at he ⊢
  cases h2:isBool (c.ev st.sl) with
  | none=>rw [h2] at he;cases he
  | some t=>
   rw [h2] at he
   cases t with
   | true=>exact y8s h hf a he
   | false=>exact y8s h hf b he
 | .block id a,st,r,he=>by
  unfold evC at he ⊢
  cases h2:evC F fuel a st with
  | none=>rw [h2] at he;cases he
  | some q=>rw [y8s h hf a h2];rw [h2] at he;exact he
 | .loop a,st,r,he=>by
  unfold evC at he ⊢
  exact yhf (fun st r hr=>y8s h hf a hr) hf he
 | .exit id,st,r,he=>he
 | .ret,st,r,he=>he
 | .rangeF g ps asg body,st,r,he=>by
  unfold evC at he ⊢
  split at he
  ·rename_i f first caps hg
   cases h2:F (.fn f) (first.map .one++[.one (.yld (st.nx+1))]++caps.map .one) ⟨upd (upd st.ob st.nx .dfr) (st.nx+1) (.loop ⟨st.sl,ps,asg,body,.ready,none⟩),st.fz,st.nx+2⟩ with
   | none=>rw [h2] at he;cases he
   | some q=>rw [h _ _ _ _ h2];rw [h2] at he;exact he
  ·cases he
theorem ynp (E:Env):∀n,CLe (evF E n) (evF E (n+1))
 | 0=>fun c args s r h=>by cases c<;>cases h
 | n+1=>fun c args s r h=>by
  have ih:=ynp E n
  have hC:∀(a:ACode) (st:St) (r:Ex×St),evC (evF E n) n a st=some r→evC (evF E (n+1)) (n+1) a st=some r:=fun a st r hr=>y8s ih (Nat.le_succ n) a hr
  cases c with
  | fn f=>
   rw [evF] at h ⊢
   cases hE:E f with
   | none=>rw [hE] at h;cases h
   | some fn=>
    rw [hE] at h
    simp only at h ⊢
    cases h2:evC (evF E n) n fn.code { sl:=env (ofArgs 0 args),ob:=s.ob,fz:=s.fz,nx:=s.nx } with
    | none=>rw [h2] at h;cases h
    | some q=>rw [hC _ _ _ h2];rw [h2] at h;exact h
  | rnd l=>
   rw [evF] at h ⊢
   split at h
   ·rename_i lr hl
    cases hb:(Nat.beq args.length lr.ps.length&&naOk lr.asg&&naOk lr.body) with
    | false=>rw [hb] at h;cases h
    | true=>
     rw [hb] at h
     simp only [cond_true] at h ⊢
     cases h2:evC (evF E n) n lr.asg { sl:=setPs lr.ps args lr.sl,ob:=s.ob,fz:=s.fz,nx:=s.nx } with
     | none=>rw [h2] at h;cases h
     | some q=>
      rw [hC _ _ _ h2]
      rw [h2] at h
      obtain ⟨e,st⟩:=q
      cases e with
      | ext id=>cases h
      | ret=>cases h
      | nrm=>
       simp only at h ⊢
       split at h
       ·rename_i r1 hr1
        split at h
        ·rename_i hst
         cases h3:evC (evF E n) n lr.body { st with ob:=upd st.ob l (.loop { r1 with st:=.busy }) } with
         | none=>rw [h3] at h;cases h
         | some q=>rw [hC _ _ _ h3];rw [h3] at h;exact h
        ·cases h
       ·cases h
   ·cases h
theorem yy5 (E:Env) {n m:Nat} (h:n≤m):CLe (evF E n) (evF E m):=by
 induction h with
 | refl=>exact fun c args s r h=>h
 | step _ ih=>exact fun c args s r h=>ynp E _ c args s r (ih c args s r h)
theorem yno {E:Env} {n m:Nat} (h:n≤m) {f:FuncId} {args:List SV} {r:SV} (he:evV E n f args=some r):evV E m f args=some r:=by
 unfold evV at he ⊢
 cases h2:evF E n (.fn f) args Sto.empty with
 | none=>rw [h2] at he;cases he
 | some q=>rw [yy5 E h _ _ _ _ h2];rw [h2] at he;exact he
end Go.Ev
namespace Go.Ev
open Go.Dig
theorem Leg.sm (g:Leg) (h1:g.gates.length<2^20) (h2:g.curves.length<2^20) (h2':∀c∈g.curves,c.length<2^20) (h3:g.limits.length<2^20) (hg:∀x∈g.gates,x.from_<256∧x.to<256):SmDev g.d:=by
 refine ⟨fun x hx=> ?_,fun c hc p hp=> ?_,fun p hp=> ?_,Num.qS _,by unfold Leg.d;simpa using h1,by unfold Leg.d;simpa using h2,fun c hc=> ?_,by unfold Leg.d;simpa using h3⟩
 ·obtain ⟨y,hy,rfl⟩:=List.mem_map.1 hx
  exact ⟨⟨Beat.sm _,Beat.sm _⟩,(hg y hy).1,(hg y hy).2⟩
 ·obtain ⟨y,hy,rfl⟩:=List.mem_map.1 hc
  obtain ⟨z,hz,rfl⟩:=List.mem_map.1 hp
  exact ⟨Num.qS _,Num.qS _⟩
 ·obtain ⟨z,hz,rfl⟩:=List.mem_map.1 hp
  exact ⟨Num.qS _,Num.qS _⟩
 ·obtain ⟨y,hy,rfl⟩:=List.mem_map.1 hc
  simpa using h2' y hy
theorem yvi {d:Dev} (hd:OkDev d) {w:WSt} {s:Samp} {S:Nat} (hS:SmQ S w.m) (hS1:2571≤S) (hph:w.ph<5) (hs:SmSamp s):SmQ (S+257) (stepW d w s).m:=by
 have hph':(seeW d.guards w.ph w.cnt s).1<5:=yjg _ _ _ _ 5 hph hd.to
 have gc:d.curves[(seeW d.guards w.ph w.cnt s).1]? =some (curveAt d (seeW d.guards w.ph w.cnt s).1):=by
  unfold curveAt;rw [List.getElem?_eq_getElem (by rw [hd.c5];exact hph')];rfl
 have gl:d.limits[(seeW d.guards w.ph w.cnt s).1]? =some (ptAt d.limits (seeW d.guards w.ph w.cnt s).1):=by
  unfold ptAt;rw [List.getElem?_eq_getElem (by rw [hd.l5];exact hph')];rfl
 have hcm:=List.mem_of_getElem? gc
 have sP:=hd.sm.ls _ (List.mem_of_getElem? gl)
 obtain ⟨i1,i2⟩:=hd.cr _ hcm
 have sat:=(yeh _ s.angle (hd.sm.cll _ hcm) i2 i1 (hd.sm.cs _ hcm) hs.angle).2
 have sr1:=SmQ.clamp (SmQ.mono sat (show 2571≤S+256+1 by omega)) (SmQ.sub hS sP.z) (SmQ.add hS sP.z)
 have sr2:=SmQ.clamp sr1 (SmQ.mono (SmQ.neg sP.x) (show 256≤S+256+1 by omega)) (SmQ.mono sP.x (show 256≤S+256+1 by omega))
 unfold stepW
 cases stopW d w s
 ·exact sr2
 ·exact SmQ.mono SmQ.zero (by omega)
theorem yci {d:Dev} (hd:OkDev d) {w:WSt} {s:Samp} (hph:w.ph<5):(stepW d w s).ph<5:=yjg _ _ _ _ 5 hph hd.to
theorem ypn {d:Dev} (hd:OkDev d):∀(l:List Samp) (w:WSt) (S:Nat),SmQ S w.m→2571≤S→w.ph<5→(∀s∈l,SmSamp s)→∀a∈acts d w l,SmQ (S+257*l.length) a.2∧a.1<5
 | [],w,S,hS,hS1,hph,hs,a,ha=>by unfold acts at ha;cases ha
 | s::r,w,S,hS,hS1,hph,hs,a,ha=>by
  have h1:=yvi hd hS hS1 hph (hs s (by simp))
  have h2:=yci hd (s:=s) hph
  unfold acts at ha
  rcases List.mem_cons.1 ha with rfl | ha
  ·exact ⟨SmQ.mono h1 (by rw [List.length_cons];omega),h2⟩
  ·have:=ypn hd r (stepW d w s) (S+257) h1 (by omega) h2 (fun t ht=>hs t (by simp [ht])) a ha
   exact ⟨SmQ.mono this.1 (by rw [List.length_cons];omega),this.2⟩
theorem yny {d:Dev} (hd:OkDev d) (l:List Samp) (hs:∀s∈l,SmSamp s):∀a∈acts d w0 l,SmQ (2571+257*l.length) a.2∧a.1<5:=
 ypn hd l w0 2571 (SmQ.mono SmQ.zero (by omega)) (Nat.le_refl _) (by decide) hs
theorem ys9 (g:Leg):∃a b c,g.step.c=[a,b,c]∧g.c=[.sl false (g.gates.map Gate.c),.sl false (g.curves.map fun s=>[.sl false (s.map Spot.c)]),.sl false (g.limits.map Spot.c),a,b,c]:=⟨_,_,_,rfl,rfl⟩
theorem y5t (d:Dev):∃a b c e,d.r=[.sl false (d.guards.map Guard.r),.sl false (d.curves.map fun s=>[.sl false (s.map Pt.r)]),.sl false (d.limits.map Pt.r),a,b,c,e]:=⟨_,_,_,_,rfl⟩
theorem ym1 (d:Dev):∀(l:List Samp) (w:WSt),(acts d w l).length=l.length
 | [],w=>rfl
 | s::r,w=>by unfold acts;rw [List.length_cons,List.length_cons,ym1 d r]
theorem yz5 {d:Dev} {l:List Samp} (h:errD d=0) (hl:l.length≤1024):mayI d l=0:=by
 unfold mayI;rw [if_pos h,if_pos hl]
end Go.Ev
namespace Go.Ev
theorem yz4 (a b:Int):(cmpZ a b>0)=(b<a):=by
 unfold cmpZ;rw [eq_iff_iff];(repeat split)<;>omega
theorem yz8 (a b:Int):(cmpZ a b<0)=(a<b):=by
 unfold cmpZ;rw [eq_iff_iff];(repeat split)<;>omega
theorem yef (a b:Rat):(cmpQ a b>0)=(b<a):=by
 unfold cmpQ;rw [yz4,Rat.lt_iff]
theorem yab (a b:Rat):(cmpQ a b<0)=(a<b):=by
 unfold cmpQ;rw [yz8,Rat.lt_iff]
theorem yq7 (a b:Rat):(cmpQ a b≥0)=(b≤a):=by
 have h:=yab a b
 rw [eq_iff_iff] at h ⊢
 rw [←Rat.not_lt,←h];omega
theorem ybr (a b:Rat):(cmpQ a b≤0)=(a≤b):=by
 have h:=yef a b
 rw [eq_iff_iff] at h ⊢
 rw [←Rat.not_lt,←h];omega
theorem yys (a b:Rat):(cmpQ a b=0)=(a=b):=by
 have h1:=yef a b
 have h2:=yab a b
 rw [eq_iff_iff] at h1 h2 ⊢
 constructor
 ·intro h;rw [h] at h1 h2;simp at h1 h2;exact Rat.le_antisymm (Rat.not_lt.1 h1) (Rat.not_lt.1 h2)
 ·intro h
  have h3:¬b<a:=by rw [h];exact Rat.lt_irrefl
  have h4:¬a<b:=by rw [h];exact Rat.lt_irrefl
  rw [←h1] at h3;rw [←h2] at h4
  omega
theorem yxq (q:Rat):(q.num=0)=(q=0):=by
 rw [eq_iff_iff]
 constructor
 ·intro h;exact Rat.num_eq_zero.1 h
 ·intro h;rw [h];rfl
theorem yqb (a b:Rat):minQ a b=if b<a then b else a:=by
 unfold minQ;simp only [yab]
theorem yq3 (a b:Rat):maxQ a b=if a<b then b else a:=by
 unfold maxQ;simp only [yef]
end Go.Ev
namespace Go.Ev
open Go.Dig
def FzS (x y:SV):Prop:=∀(ob:Nat→Option AObj) (fz:Nat→Nat),frzS ob fz x=some (fz,y)
theorem FzS.one {x y:SV} (h:FzS x y):∀(ob:Nat→Option AObj) (fz:Nat→Nat),mapFz (frzS ob) fz [x]=some (fz,[y]):=fun ob fz=>by simp only [mapFz,h ob fz]
theorem FzS.two {x y x' y':SV} (h:FzS x y) (h':FzS x' y'):∀(ob:Nat→Option AObj) (fz:Nat→Nat),mapFz (frzS ob) fz [x,x']=some (fz,[y,y']):=fun ob fz=>by simp only [mapFz,h ob fz,h' ob fz]
theorem FzS.three {x y x' y' x2 y2:SV} (h:FzS x y) (h':FzS x' y') (h2:FzS x2 y2):∀(ob:Nat→Option AObj) (fz:Nat→Nat),mapFz (frzS ob) fz [x,x',x2]=some (fz,[y,y',y2]):=fun ob fz=>by simp only [mapFz,h ob fz,h' ob fz,h2 ob fz]
theorem CanS.fzs {x:SV} (h:CanS x):FzS x x:=fun ob fz=>by
 cases h with
 | one v h=>
  have e:Ev.frz ob DEPTH fz v=some (fz,v):=h.frz ob 7 fz
  simp only [frzS,e]
 | agg cs h=>
  have e:mapFz (Ev.frz ob DEPTH) fz cs=some (fz,cs):=y7f cs fun x hx=>(h x hx).frz ob 7 fz
  simp only [frzS,e]
theorem MQ.fzs {m:Rat} {mc:List AV} (h:MQ m mc):FzS (.agg mc) (.agg (qC m)):=by
 rcases h with rfl | ⟨rfl,rfl⟩
 ·exact (y1b _).fzs
 ·intro ob fz;rw [ybx];exact yjj _ _ _
end Go.Ev
namespace Go.Ev
open Go.Dig
structure Note where
 ph:Nat
 beat:Beat
 mom:Num
structure Rcd where
 ph:Nat
 s:Samp
 m:Rat
def Note.c (x:Note):List AV:=[.int .u8 (x.ph:Int)]++x.beat.c++x.mom.c
def Rcd.c (x:Rcd):List AV:=[.int .u8 (x.ph:Int)]++x.s.c++qC x.m
def Rcd.r (x:Rcd):List AV:=[.int .u8 (x.ph:Int)]++x.s.r++rC x.m
def Note.q (x:Note):Rcd:=⟨x.ph,x.beat.s,x.mom.q⟩
section
variable {fz:Nat→Nat}
end
end Go.Ev
namespace Go.Ev
open Go.Dig
theorem yos (s:Samp) (a1 a2 a3 a4 a5 a6 a7 a8 a9:AV) (h1:qC s.load=[a1,a2,a3]) (h2:qC s.angle=[a4,a5,a6]) (h3:qC s.speed=[a7,a8,a9]):s.c=[a1,a2,a3,a4,a5,a6,a7,a8,a9]:=by
 unfold Samp.c
 rw [h1,h2,h3]
 rfl
end Go.Ev
namespace Go.Ev
open Go.Dig
end Go.Ev
namespace Go.Ev
open Go.Dig
end Go.Ev
namespace Go.Ev
open Go.Dig
theorem yrj {ob:Nat→Option AObj} {id ver sz z:Nat} {full:Bool} {es fs:List (List AV)} (fz:Nat→Nat) (hr:ob id=some (.row z es ver)) (hf:∀fz,mapFz (mapFz (Ev.frz ob 7)) fz es=some (fz,fs)) (n:Nat) (hn:n=es.length):
  frzS ob fz (.one (.rsl id ver sz 0 n full))=some (raise fz id n,.one (.sl false fs)):=by
 subst hn
 have hb:Nat.ble (0+es.length) es.length=true:=by simp
 have h1:Ev.frz ob DEPTH fz (.rsl id ver sz 0 es.length full)=some (raise fz id (0+es.length),.sl false fs):=by
  rw [show DEPTH=7+1 from rfl,y7l,y1l hr]
  simp only [hb,cond_true,List.drop_zero,List.take_length,hf]
 rw [Nat.zero_add] at h1
 simp only [frzS,h1]
end Go.Ev
namespace Go.Ev
open Go.Dig
def powW (d:Dev) (q:WSt×Samp):Rat:=(stepW d q.1 q.2).m*q.2.speed
def wsum (d:Dev) (p:Nat):Rat→List (WSt×Samp)→Rat
 | a,[]=>a
 | a,q::r=>wsum d p (if (stepW d q.1 q.2).ph=p then a+powW d q*d.step else a) r
theorem yad (d:Dev) (p:Nat) (q:WSt×Samp):∀(l:List (WSt×Samp)) (a:Rat),wsum d p a (l++[q])=if (stepW d q.1 q.2).ph=p then wsum d p a l+powW d q*d.step else wsum d p a l
 | [],a=>rfl
 | x::r,a=>by rw [List.cons_append,wsum,wsum];exact yad d p q r _
def wkAsg:ACode:=match Fn.y4w.code with | .seq _ (.seq _ (.seq _ (.seq _ (.seq (.seq _ (.block _ (.rangeF _ _ a _))) _))))=>a | _=>.skip
def wkLoop (L:List (Nat×SV)):ALoop:=⟨env L,[22,23],wkAsg,Fn.y7p,.ready,none⟩
@[irreducible] def WKB:Nat:=2^19+514
def WkRow (d:Dev) (out:List (WSt×Samp)) (es:List (List AV)):Prop:=
 es.length=5∧∀p,p<5→∃mc,es[p]? =some mc∧MQ (wsum d p 0 out) mc∧SmQ ((out.length+1)*WKB) (wsum d p 0 out)
def WkAcc (d:Dev) (L:List (Nat×SV)) (ob:Nat→Option AObj) (nx:Nat) (out:List (WSt×Samp)):Prop:=
 ob 13=some (.loop (wkLoop L))∧ob 4=some (.box [.rsl 3 0 3 0 5 false])∧ob 0=some (.box d.c)∧ob 7=some (.box [.fn Id.y47 [] [.box 4 0,.box 0 0]])∧out.length≤1024∧∃es,ob 3=some (.row 3 es 0)∧WkRow d out es
def WkOwn (id:Nat):Prop:=id=13∨id=4∨id=0∨id=7∨id=3
theorem MQ.frz {m:Rat} {mc:List AV} (h:MQ m mc) (ob:Nat→Option AObj) (k:Nat) (fz:Nat→Nat):mapFz (Ev.frz ob (k+1)) fz mc=some (fz,qC m):=by
 rcases h with rfl | ⟨rfl,rfl⟩
 ·exact y7f _ fun x hx=>(CanL.q m x hx).frz ob k fz
 ·rw [ybx];rfl
set_option maxRecDepth 100000 in
theorem ytl {n nx ph:Nat} {ob:Nat→Option AObj} (d:Dev) (hph:ph<5) (pw r1 r2:Rat) (es:List (List AV)) (hes:es.length=5) (mc:List AV) (m:Rat) (hm:MQ m mc) (gm:es[ph]? =some mc) (hnx:20≤nx) (o4:ob 4=some (.box [.rsl 3 0 3 0 5 false])) (o0:ob 0=some (.box d.c)) (o3:ob 3=some (.row 3 es 0))
  (k1:∀(ob:Nat→Option AObj) (fz:Nat→Nat),callV (evF E n) Id.y1t [.agg (qC pw),.agg (qC d.step)] ob fz=some (.fzd fz (.agg (qC r1))))
  (k2:∀(ob:Nat→Option AObj) (fz:Nat→Nat),callV (evF E n) Id.y23 [.agg mc,.agg (qC r1)] ob fz=some (.fzd fz (.agg (qC r2)))):
  ∃ob' nx',evF E (n+1) (.fn Id.y47) [.one (.int .u8 (ph:Int)),.agg (qC pw),.one (.box 4 0),.one (.box 0 0)] ⟨ob,fz0,nx⟩=some (.tup [],⟨ob',fz0,nx'⟩)∧nx≤nx'∧ob' 3=some (.row 3 (es.set ph (qC r2)) 0)∧∀id,id<nx→id≠3→ob' id=ob id:=by
 rw [y7e ylf]
 obtain ⟨m1,m2,m3,hmc⟩:=hm.cells
 obtain ⟨a1,a2,a3,ea,-,-,-⟩:=y08 pw
 obtain ⟨b1,b2,b3,hst,hdc⟩:=y6g d
 obtain ⟨c1,c2,c3,ec,-,-,-⟩:=y08 r1
 obtain ⟨e1,e2,e3,ee,-,-,-⟩:=y08 r2
 rw [ea,hst,ec] at k1
 rw [hmc,ec,ee] at k2
 rw [hmc] at gm
 rw [hdc] at o0
 rw [ea,ee]
 have n4:(4=nx)=False:=by simp only [eq_iff_iff,iff_false];omega
 have n0:(0=nx)=False:=by simp only [eq_iff_iff,iff_false];omega
 have n3:(3=nx)=False:=by simp only [eq_iff_iff,iff_false];omega
 have n0':(nx=0)=False:=by simp only [eq_iff_iff,iff_false];omega
 have l4:∀k,(4<nx+k)=True:=fun k=>by simp only [eq_iff_iff,iff_true];omega
 have l0:∀k,(0<nx+k)=True:=fun k=>by simp only [eq_iff_iff,iff_true];omega
 have l3:∀k,(3<nx+k)=True:=fun k=>by simp only [eq_iff_iff,iff_true];omega
 have ln:(nx<nx+1)=True:=by simp
 have h5:(ph<5)=True:=by simp [hph]
 have r3:rowAt ob 3 0=some (3,es):=y1l o3
 have ra:∀y ob ver,rowAt (upd ob nx y) 3 ver=rowAt ob 3 ver:=fun y ob ver=>y19 (by omega)
 have fB:fz0 3=0:=rfl
 refine ⟨Ev.shut ob (upd (upd ob nx (.box [a1,a2,a3])) 3 (.row 3 (es.set ph [e1,e2,e3]) 0)),nx+1, ?_,by omega,y9m (upd_same _ _ _),fun id h1 h2=>yiy (by rw [y00 h2,y00 (by omega)])⟩
 simp only [go_sem,Fn.y47,o4,o0,n4,n0,n3,n0',l4,l0,l3,ln,h5,r3,ra,gm,k1,k2,fB]
theorem ypg (S T:Nat) (hS:S+T<2^36):∃N,∀(a b:Rat),SmQ S a→SmQ T b→∀n,N≤n→evV E n Id.y1t [.agg (qC a),.agg (qC b)]=some (.agg (qC (a*b))):=
 ⟨K (S+T)+3,fun a b ha hb n hn=>by obtain ⟨m,rfl⟩:∃m,n=m+1:=⟨n-1,by omega⟩;exact yj6 a b ha hb hS (by omega)⟩
theorem yzd (S T:Nat) (hS:S+T<2^36):∃N,∀(a b:Rat),SmQ S a→SmQ T b→∀n,N≤n→evV E n Id.y23 [.agg (qC a),.agg (qC b)]=some (.agg (qC (a+b))):=
 ⟨K (S+T+1)+3,fun a b ha hb n hn=>by obtain ⟨m,rfl⟩:∃m,n=m+1:=⟨n-1,by omega⟩;exact ya6 a b ha hb hS (by omega)⟩
theorem ycq {n:Nat} {f:FuncId} {xs ys:List SV} {r:SV} (h:evV E n f ys=some r) (hx:∀(ob:Nat→Option AObj) (fz:Nat→Nat),mapFz (frzS ob) fz xs=some (fz,ys)) (ob:Nat→Option AObj) (fz:Nat→Nat):callV (evF E n) f xs ob fz=some (.fzd fz r):=by
 rw [y6r,hx]
 simp only [h,Option.map_some]
set_option maxRecDepth 100000 in
theorem yxv {n nx:Nat} {ob:Nat→Option AObj} {L:List (Nat×SV)} (d:Dev) (w:WSt) (s:Samp) (out:List (WSt×Samp)) (hL8:env L 8=.one (.box 7 0)) (h:WkAcc d L ob nx out) (hnx:20≤nx) (hph:(stepW d w s).ph<5) (r1:Rat)
  (k0:∀(ob:Nat→Option AObj) (fz:Nat→Nat),callV (evF E (n+1)) Id.y1t [.agg (rawM d w s),.agg (qC s.speed)] ob fz=some (.fzd fz (.agg (qC (powW d (w,s))))))
  (k1:∀(ob:Nat→Option AObj) (fz:Nat→Nat),callV (evF E n) Id.y1t [.agg (qC (powW d (w,s))),.agg (qC d.step)] ob fz=some (.fzd fz (.agg (qC r1))))
  (es:List (List AV)) (hes:es.length=5) (o3:ob 3=some (.row 3 es 0)) (mc:List AV) (m r2:Rat) (hm:MQ m mc) (gm:es[(stepW d w s).ph]? =some mc)
  (k2:∀(ob:Nat→Option AObj) (fz:Nat→Nat),callV (evF E n) Id.y23 [.agg mc,.agg (qC r1)] ob fz=some (.fzd fz (.agg (qC r2)))):
  ∃ob' nx',evF E (n+1+1) (.rnd 13) [.agg s.c,.agg (rawA d w s)] ⟨ob,fz0,nx⟩=some (.one (.bool true),⟨ob',fz0,nx'⟩)∧nx≤nx'∧ob' 13=some (.loop (wkLoop L))∧ob' 3=some (.row 3 (es.set (stepW d w s).ph (qC r2)) 0)∧∀id,id<nx→id≠13→id≠3→ob' id=ob id:=by
 obtain ⟨o13,o4,o0,o7,-,-⟩:=h
 obtain ⟨q1,q2,q3,hq⟩:=(ya4 d w s).cells
 have e:rawA d w s=[.int .u8 ((stepW d w s).ph:Int),q1,q2,q3]:=by unfold rawA;rw [hq]
 obtain ⟨s0,s1,s2,es2,-,-,-⟩:=y08 s.load
 obtain ⟨s3,s4,s5,es5,-,-,-⟩:=y08 s.angle
 obtain ⟨s6,s7,s8,es8,-,-,-⟩:=y08 s.speed
 have es':=yos s _ _ _ _ _ _ _ _ _ es2 es5 es8
 rw [e,es']
 rw [hq,es8] at k0
 generalize (stepW d w s).ph=ph at*
 have hL8':∀(a b:SV),env ((23,a)::(22,b)::L) 8=.one (.box 7 0):=fun a b=>by rw [←hL8];rfl
 have nxa:∀a b:Nat,nx+a+b=nx+(a+b):=fun a b=>Nat.add_assoc nx a b
 have m7:∀k,(7=nx+k)=False:=fun k=>by simp only [eq_iff_iff,iff_false];omega
 have m7':(7=nx)=False:=by simp only [eq_iff_iff,iff_false];omega
 have m13:∀k,(nx+k=13)=False:=fun k=>by simp only [eq_iff_iff,iff_false];omega
 have m13':(nx=13)=False:=by simp only [eq_iff_iff,iff_false];omega
 have p7:∀k,(7<nx+k)=True:=fun k=>by simp only [eq_iff_iff,iff_true];omega
 have a1:evC (evF E (n+1)) (n+1) wkAsg ⟨env ((23,.agg [.int .u8 (ph:Int),q1,q2,q3])::(22,.agg [s0,s1,s2,s3,s4,s5,s6,s7,s8])::L),ob,fz0,nx⟩=some (.nrm,⟨env [(8,.one (.box 7 0)),(9,.one (.box nx 0)),(10,.one (.box (nx+2) 0))],upd (upd ob nx (.box [s0,s1,s2,s3,s4,s5,s6,s7,s8])) (nx+2) (.box [.int .u8 (ph:Int),q1,q2,q3]),fz0,nx+4⟩):=by
  unfold wkAsg Fn.y4w
  simp only [go_sem,hL8,nxa]
 obtain ⟨obB,hobB⟩:∃o,o=upd (upd (upd ob nx (.box [s0,s1,s2,s3,s4,s5,s6,s7,s8])) (nx+2) (.box [.int .u8 (ph:Int),q1,q2,q3])) 13 (.loop { wkLoop L with st:=.busy }):=⟨_,rfl⟩
 have fB:∀id,id<nx→id≠13→obB id=ob id:=fun id h1 h2=>by rw [hobB,y00 h2,y00 (by omega),y00 (by omega)]
 obtain ⟨ob1,nx1,g1,g2,g3,g4⟩:=ytl (n:=n) (nx:=nx+4) (ob:=obB) d hph (powW d (w,s)) r1 r2 es hes mc m hm gm (by omega) ((fB 4 (by omega) (by decide)).trans o4) ((fB 0 (by omega) (by decide)).trans o0) ((fB 3 (by omega) (by decide)).trans o3) k1 k2
 have b7:obB 7=some (.box [.fn Id.y47 [] [.box 4 0,.box 0 0]]):=(fB 7 (by omega) (by decide)).trans o7
 have bn:obB nx=some (.box [s0,s1,s2,s3,s4,s5,s6,s7,s8]):=by rw [hobB,y00 (by omega),y00 (by omega)];exact upd_same _ _ _
 have bn2:obB (nx+2)=some (.box [.int .u8 (ph:Int),q1,q2,q3]):=by rw [hobB,y00 (by omega)];exact upd_same _ _ _
 have body:evC (evF E (n+1)) (n+1) Fn.y7p ⟨env [(8,.one (.box 7 0)),(9,.one (.box nx 0)),(10,.one (.box (nx+2) 0))],obB,fz0,nx+4⟩=some (.nrm,⟨env [],ob1,fz0,nx1⟩):=by
  have pn:∀k,(nx<nx+(k+1))=True:=fun k=>by simp only [eq_iff_iff,iff_true];omega
  have pn4:(nx<nx+4)=True:=pn 3
  simp only [go_sem,Fn.y7p,b7,bn,bn2,p7,pn4,k0,g1,nxa]
 refine ⟨upd ob1 13 (.loop (wkLoop L)),nx1, ?_,by omega,upd_same _ _ _,by rw [y00 (by decide)];exact g3,fun id h1 h2 h3=>by rw [y00 h2,g4 id (by omega) h3,fB id h1 h2]⟩
 have o13':upd (upd ob nx (.box [s0,s1,s2,s3,s4,s5,s6,s7,s8])) (nx+2) (.box [.int .u8 (ph:Int),q1,q2,q3]) 13=some (.loop (wkLoop L)):=by rw [y00 (by omega),y00 (by omega)];exact o13
 have b13:ob1 13=some (.loop { wkLoop L with st:=.busy }):=by rw [g4 13 (by omega) (by decide),hobB];exact upd_same _ _ _
 have hset:setPs (wkLoop L).ps [.agg [s0,s1,s2,s3,s4,s5,s6,s7,s8],.agg [.int .u8 (ph:Int),q1,q2,q3]] (wkLoop L).sl=env ((23,.agg [.int .u8 (ph:Int),q1,q2,q3])::(22,.agg [s0,s1,s2,s3,s4,s5,s6,s7,s8])::L):=setPs2 22 23 _ _ L
 rw [hobB] at body
 exact yj3 (r:=wkLoop L) (r1:=wkLoop L) (r2:={ wkLoop L with st:=.busy }) o13 rfl ((congrArg (fun sl=>evC (evF E (n+1)) (n+1) wkAsg ⟨sl,ob,fz0,nx⟩) hset).trans a1) o13' rfl body b13
theorem yv9 (d:Dev) (hst:SmQ 256 d.step) {L:List (Nat×SV)} (hL8:env L 8=.one (.box 7 0)):∃n0,Taker d n0 20 13 (2^19) 1024 fz0 WkOwn (WkAcc d L):=by
 obtain ⟨N1,k1⟩:=ypg (2^19) 256 (by decide)
 obtain ⟨N2,k2⟩:=ypg (2^19+256) 256 (by decide)
 obtain ⟨N3,k3⟩:=yzd (1024*WKB) (2^19+512) (by unfold WKB;decide)
 refine ⟨N1+N2+N3+2,fun ob ob' nx nx' out h hn hf=> ?_,fun n hn w s ob nx out h hb ho hs hph hm=> ?_⟩
 ·obtain ⟨o13,o4,o0,o7,hlen,es,o3,hr⟩:=h
  exact ⟨(hf 13 (.inl (.inl rfl))).trans o13,(hf 4 (.inl (.inr (.inl rfl)))).trans o4,(hf 0 (.inl (.inr (.inr (.inl rfl))))).trans o0,(hf 7 (.inl (.inr (.inr (.inr (.inl rfl)))))).trans o7,hlen,es,(hf 3 (.inl (.inr (.inr (.inr (.inr rfl)))))).trans o3,hr⟩
 ·obtain ⟨n,rfl⟩:∃m,n=m+1:=⟨n-1,by omega⟩
  have h':=h
  obtain ⟨o13,o4,o0,o7,hlen,es,o3,h5,hr⟩:=h'
  obtain ⟨mc,gm,hmq,hsm⟩:=hr _ hph
  have sp:SmQ (2^19+256) (powW d (w,s)):=SmQ.mul hm hs.speed
  have sr:SmQ (2^19+256+256) (powW d (w,s)*d.step):=SmQ.mul sp hst
  have hWK:WKB=2^19+514:=by unfold WKB;rfl
  have hle:(out.length+1)*WKB≤1024*WKB:=Nat.mul_le_mul_right _ (by omega)
  have k0':=ycq (k1 _ _ hm hs.speed (n+1) (by omega)) ((ya4 d w s).fzs.two (y1b s.speed).fzs)
  have k1':=ycq (k2 _ _ sp hst n (by omega)) ((y1b (powW d (w,s))).fzs.two (y1b d.step).fzs)
  have k2':=ycq (k3 _ _ (SmQ.mono hsm hle) sr n (by omega)) (hmq.fzs.two (y1b (powW d (w,s)*d.step)).fzs)
  obtain ⟨ob',nx',g1,g2,g3,g4,g5⟩:=yxv (n:=n) (nx:=nx) (ob:=ob) (L:=L) d w s out hL8 h hb hph _ k0' k1' es h5 o3 mc _ _ hmq gm k2'
  refine ⟨ob',nx',g1,g2,⟨g3,(g5 4 (by omega) (by decide) (by decide)).trans o4,(g5 0 (by omega) (by decide) (by decide)).trans o0,(g5 7 (by omega) (by decide) (by decide)).trans o7,by rw [List.length_append];simp only [List.length_cons,List.length_nil];omega,_,g4,by rw [List.length_set];exact h5,fun p hp=> ?_⟩,fun id h1 h2=>g5 id (by omega) (fun e=>h2 (.inl e)) (fun e=>h2 (.inr (.inr (.inr (.inr e)))))⟩
  have hl2:(out++[(w,s)]).length+1=out.length+1+1:=by rw [List.length_append];rfl
  rw [hl2,yad]
  by_cases hpp:(stepW d w s).ph=p
  ·subst hpp
   refine ⟨qC (wsum d (stepW d w s).ph 0 out+powW d (w,s)*d.step),by rw [List.getElem?_set_self (by omega)],by rw [if_pos rfl];exact .inl rfl, ?_⟩
   rw [if_pos rfl]
   refine SmQ.mono (SmQ.add hsm sr) ?_
   rw [Nat.succ_mul (out.length+1),hWK]
   omega
  ·obtain ⟨mc',gm',hmq',hsm'⟩:=hr p hp
   refine ⟨mc',by rw [List.getElem?_set_ne hpp];exact gm',by rw [if_neg hpp];exact hmq', ?_⟩
   rw [if_neg hpp]
   exact SmQ.mono hsm' (Nat.mul_le_mul_right _ (by omega))
def works (d:Dev) (l:List Samp):List Rat:=[wsum d 0 0 (stepsW d w0 l),wsum d 1 0 (stepsW d w0 l),wsum d 2 0 (stepsW d w0 l),wsum d 3 0 (stepsW d w0 l),wsum d 4 0 (stepsW d w0 l)]
theorem yu7 {d:Dev} {out:List (WSt×Samp)} {es:List (List AV)} (h:WkRow d out es) (ob:Nat→Option AObj) (k:Nat) (fz:Nat→Nat):mapFz (mapFz (Ev.frz ob (k+1))) fz es=some (fz,[qC (wsum d 0 0 out),qC (wsum d 1 0 out),qC (wsum d 2 0 out),qC (wsum d 3 0 out),qC (wsum d 4 0 out)]):=by
 obtain ⟨h5,h⟩:=h
 obtain ⟨a0,g0,m0,-⟩:=h 0 (by decide)
 obtain ⟨a1,g1,m1,-⟩:=h 1 (by decide)
 obtain ⟨a2,g2,m2,-⟩:=h 2 (by decide)
 obtain ⟨a3,g3,m3,-⟩:=h 3 (by decide)
 obtain ⟨a4,g4,m4,-⟩:=h 4 (by decide)
 obtain ⟨x0,x1,x2,x3,x4,rfl⟩:∃x0 x1 x2 x3 x4,es=[x0,x1,x2,x3,x4]:=by
  match es,h5 with
  | [x0,x1,x2,x3,x4],_=>exact ⟨x0,x1,x2,x3,x4,rfl⟩
 simp only [get_0,get_1,get_2,get_3,get_4,Option.some.injEq] at g0 g1 g2 g3 g4
 subst g0;subst g1;subst g2;subst g3;subst g4
 simp only [mapFz,m0.frz,m1.frz,m2.frz,m3.frz,m4.frz]
theorem ykl (d:Dev):∀(l:List Samp) (w:WSt),(stepsW d w l).length=l.length
 | [],w=>rfl
 | s::r,w=>by unfold stepsW;rw [List.length_cons,List.length_cons,ykl d r]
theorem ywa {d:Dev} {l:List Samp} (h:mayI d l=0):l.length≤1024:=by
 unfold mayI at h
 by_cases he:errD d=0
 ·rw [if_pos he] at h
  by_cases hl:l.length≤1024
  ·exact hl
  ·rw [if_neg hl] at h;simp at h
 ·rw [if_neg he] at h;exact absurd h he
set_option maxRecDepth 100000 in
theorem ykp (d:Dev) (h:SmDev d) (l:List Samp) (hl:l.length<2^20) (hs:∀s∈l,SmSamp s):Ends Id.y4w [.agg d.c,.one (.sl false (l.map Samp.c))] (.tup [.one (.sl false (if mayI d l=0 then (works d l).map qC else [])),.one (.int .i64 (mayI d l))]):=by
 obtain ⟨N1,k1⟩:=yg3 d h l
 by_cases he:mayI d l=0
 ·have hd:=yb4 h (yjm he)
  have hl1:=ywa he
  obtain ⟨n0,T⟩:=yv9 d h.st (L:=[(7,.one (.box 4 0)),(8,.one (.box 7 0)),(21,.one (.fn Id.y09 [] [.box 9 0,.box 10 0]))]) rfl
  obtain ⟨N2,k2⟩:=ydv d hd l hl hs 13 9 10 14 fz0 T (by
   have:2571+257*1024≤2^19:=by decide
   omega) (by decide) hl1 (fun id h=>by rcases h with rfl | rfl | rfl | rfl | rfl<;>decide) (fun h=>by rcases h with h | h | h | h | h<;>exact absurd h (by decide)) (by decide) (by decide)
  refine .of (N1+N2+3) fun {n} hn=> ?_
  have k1:=k1 n (by omega)
  rw [if_pos he]
  rw [he] at k1 ⊢
  obtain ⟨m,rfl⟩:∃m,n=m+1:=⟨n-1,by omega⟩
  have k2:=k2 m (by omega)
  have k3:=yg9 (n:=m) d l
  rw [y02 yfj]
  obtain ⟨obB,hobB⟩:∃o,o=upd (upd (upd (upd (upd (upd ob0 0 (.box d.c)) 3 (.row 3 [[.bool false,.nils,.nils],[.bool false,.nils,.nils],[.bool false,.nils,.nils],[.bool false,.nils,.nils],[.bool false,.nils,.nils]] 0)) 4 (.box [.nils])) 4 (.box [.rsl 3 0 3 0 5 false])) 7 (.box [.nilf])) 7 (.box [.fn Id.y47 [] [.box 4 0,.box 0 0]]):=⟨_,rfl⟩
  obtain ⟨obA,hobA⟩:∃o,o=Ev.shut obB (upd (upd obB 9 (.box d.c)) 10 (.box [.sl false (l.map Samp.c)])):=⟨_,rfl⟩
  obtain ⟨obL,hobL⟩:∃o,o=upd (upd obA 12 .dfr) 13 (.loop (wkLoop [(7,.one (.box 4 0)),(8,.one (.box 7 0)),(21,.one (.fn Id.y09 [] [.box 9 0,.box 10 0]))])):=⟨_,rfl⟩
  have a9:obA 9=some (.box d.c):=by rw [hobA];exact y5e (by rw [y00 (by decide)];exact upd_same _ _ _)
  have a10:obA 10=some (.box [.sl false (l.map Samp.c)]):=by rw [hobA];exact y5e (upd_same _ _ _)
  have a4:obA 4=some (.box [.rsl 3 0 3 0 5 false]):=by rw [hobA];exact y5e (by rw [y00 (by decide),y00 (by decide),hobB,y00 (by decide),y00 (by decide)];exact upd_same _ _ _)
  have a0:obA 0=some (.box d.c):=by rw [hobA];exact y5e (by rw [y00 (by decide),y00 (by decide),hobB,y00 (by decide),y00 (by decide),y00 (by decide),y00 (by decide),y00 (by decide)];exact upd_same _ _ _)
  have a7:obA 7=some (.box [.fn Id.y47 [] [.box 4 0,.box 0 0]]):=by rw [hobA];exact y5e (by rw [y00 (by decide),y00 (by decide),hobB];exact upd_same _ _ _)
  have a3:obA 3=some (.row 3 [[.bool false,.nils,.nils],[.bool false,.nils,.nils],[.bool false,.nils,.nils],[.bool false,.nils,.nils],[.bool false,.nils,.nils]] 0):=by rw [hobA];exact y9m (by rw [y00 (by decide),y00 (by decide),hobB,y00 (by decide),y00 (by decide),y00 (by decide),y00 (by decide)];exact upd_same _ _ _)
  have fL:∀id,id≠12→id≠13→obL id=obA id:=fun id h1 h2=>by rw [hobL,y00 h2,y00 h1]
  obtain ⟨ob1',nx',q1,q2,q13,q4,q0,q7,-,es,q3,hrow⟩:=k2 obL ((fL 9 (by decide) (by decide)).trans a9) ((fL 10 (by decide) (by decide)).trans a10) ⟨by rw [hobL];exact upd_same _ _ _,(fL 4 (by decide) (by decide)).trans a4,(fL 0 (by decide) (by decide)).trans a0,(fL 7 (by decide) (by decide)).trans a7,Nat.zero_le _,_,(fL 3 (by decide) (by decide)).trans a3,rfl,fun p hp=>⟨[.bool false,.nils,.nils],by match p,hp with | 0,_=>rfl | 1,_=>rfl | 2,_=>rfl | 3,_=>rfl | 4,_=>rfl,.inr ⟨rfl,rfl⟩,SmQ.mono SmQ.zero (by unfold WKB;decide)⟩⟩
  obtain ⟨ob',hob'⟩:∃o,o=Ev.shut obL ob1':=⟨_,rfl⟩
  have q13:=ycc (ob0:=obL) q13
  have q4:=y5e (ob0:=obL) q4
  have q3:=y9m (ob0:=obL) q3
  rw [←hob'] at q1 q13 q4 q3
  obtain ⟨lp,hlp⟩:∃lp:ALoop,lp={ wkLoop [(7,.one (.box 4 0)),(8,.one (.box 7 0)),(21,.one (.fn Id.y09 [] [.box 9 0,.box 10 0]))] with st:=.exhausted }:=⟨_,rfl⟩
  have hR:evC (evF E (m+1)) (m+1) (.rangeF (.t 21) [22,23] wkAsg Fn.y7p) ⟨env [(7,.one (.box 4 0)),(8,.one (.box 7 0)),(21,.one (.fn Id.y09 [] [.box 9 0,.box 10 0]))],obA,fz0,12⟩=some (.nrm,⟨env [(7,.one (.box 4 0)),(8,.one (.box 7 0)),(21,.one (.fn Id.y09 [] [.box 9 0,.box 10 0]))],upd ob' 13 (.loop lp),fz0,nx'⟩):=by
   rw [hlp]
   exact yby (F:=evF E (m+1)) (fuel:=m+1) (g:=.t 21) (ps:=[22,23]) (asg:=wkAsg) (body:=Fn.y7p) (st:=⟨env [(7,.one (.box 4 0)),(8,.one (.box 7 0)),(21,.one (.fn Id.y09 [] [.box 9 0,.box 10 0]))],obA,fz0,12⟩) (first:=[]) (caps:=[.box 9 0,.box 10 0]) rfl (by
    show evF E (m+1) _ _ ⟨upd (upd obA 12 .dfr) 13 _,fz0,14⟩=_
    have e:=q1
    rw [hobL] at e
    exact e) q13 rfl
  have k3:=k3 obB fz0 9
  rw [←hobA] at k3
  have e4:upd ob' 13 (.loop lp) 4=some (.box [.rsl 3 0 3 0 5 false]):=by rw [y00 (by decide)];exact q4
  have e3:upd ob' 13 (.loop lp) 3=some (.row 3 es 0):=by rw [y00 (by decide)];exact q3
  have hg:=fun fz=>yrj (sz:=3) (full:=false) fz e3 (fun fz=>yu7 hrow _ 6 fz) 5 hrow.1.symm
  unfold wkAsg Fn.y4w at hR
  dsimp only at hR
  simp only [ysk,yqa] at hR
  generalize upd ob' 13 (.loop lp)=obE at hR hg e4
  obtain ⟨t1,t2,t3,-,hdc⟩:=y6g d
  rw [hobB] at k3
  rw [hdc] at k1 k3 ⊢
  have hw:(works d l).map qC=[qC (wsum d 0 0 (stepsW d w0 l)),qC (wsum d 1 0 (stepsW d w0 l)),qC (wsum d 2 0 (stepsW d w0 l)),qC (wsum d 3 0 (stepsW d w0 l)),qC (wsum d 4 0 (stepsW d w0 l))]:=rfl
  rw [hw]
  simp only [y96] at k3
  simp only [go_sem,Fn.y4w,k1,k3,bne_self_eq_false,natOf,hR,e4,hg,List.mapM_cons,List.mapM_nil,Option.bind_eq_bind,Option.bind_some,Option.pure_def,SV.av]
 ·refine .of (N1+1) fun {n} hn=> ?_
  have k1:=k1 n (by omega)
  rw [if_neg he,y02 yfj]
  obtain ⟨t1,t2,t3,-,hdc⟩:=y6g d
  rw [hdc] at k1 ⊢
  generalize mayI d l=e at*
  have e1:(e !=0)=true:=by simp [he]
  simp only [go_sem,Fn.y4w,k1,e1]
end Go.Ev
namespace Go.Ev
open Go.Dig
def RQ (q:Rat) (cs:List AV):Prop:=cs=rC q∨(q=0∧cs=[.bool false,.sl false [],.bool false,.sl false []])
theorem RQ.self (q:Rat):RQ q (rC q):=.inl rfl
theorem RQ.can {q:Rat} {cs:List AV} (h:RQ q cs):CanS (.agg cs):=by
 rcases h with rfl | ⟨rfl,rfl⟩
 ·exact y8y q
 ·refine .agg _ fun x hx=> ?_
  simp only [List.mem_cons,List.not_mem_nil,or_false] at hx
  rcases hx with rfl | rfl | rfl | rfl
  ·exact .bool _
  ·exact .sl _
  ·exact .bool _
  ·exact .sl _
theorem RQ.cells {q:Rat} {cs:List AV} (h:RQ q cs):∃e y,cs=[.bool (decide (q.num<0)),zD q.num.natAbs,e,y]:=by
 rcases h with rfl | ⟨rfl,rfl⟩
 ·exact ⟨_,_,rC_eq q⟩
 ·refine ⟨.bool false,.sl false [], ?_⟩
  have h1:((0:Rat).num.natAbs)=0:=rfl
  rw [h1]
  unfold zD
  rw [y0s];rfl
theorem rdn {q:Rat} {cs:List AV} (h:RQ q cs) (hd:dlen BT q.den<2^60) {n:Nat} (hn:12≤n) (ob:Nat→Option AObj) (fz:Nat→Nat):callV (evF E n) Id.y0i [.agg cs] ob fz=some (.fzd fz (sV (q.den:Int))):=by
 obtain ⟨n,rfl⟩:∃k,n=k+1:=⟨n-1,by omega⟩
 refine y01 ?_ (can1 h.can) ob fz
 rcases h with rfl | ⟨rfl,rfl⟩
 ·exact ygg q hd (by omega)
 ·rw [y02 y9h]
  obtain ⟨n,rfl⟩:∃k,n=k+1:=⟨n-1,by omega⟩
  have hz:=y01 (y8m 1 (by decide) (by decide) (n:=n) (by omega)) (can1 (y2j _ _))
  have e1:((0:Rat).den:Int)=1:=rfl
  have e0:((((0:Nat):Int))==0)=true:=rfl
  rw [e1]
  unfold sV zC zD at hz ⊢
  simp only [go_sem,Fn.y0i,e0,hz]
theorem yml (a b:Rat) {ca cb:List AV} (h:RQ a ca) (h':RQ b cb) {S T:Nat} (ha:SmQ S a) (hb:SmQ T b) (hS:S+T<2^36) {n:Nat} (hn:2*(S+T)+20≤n):evV E (n+1) Id.y0l [.agg ca,.agg cb]=some (.one (.int .i64 (cmpQ a b))):=by
 rw [y02 ygp]
 unfold cmpQ
 obtain ⟨n,rfl⟩:∃k,n=k+1:=⟨n-1,by omega⟩
 have da:=y12 ha.den
 have db:=y12 hb.den
 have na:=y12 ha.num
 have nb:=y12 hb.num
 have d1:=rdn h (by omega) (n:=n+1) (by omega)
 have d2:=rdn h' (by omega) (n:=n+1) (by omega)
 have m1:=y01 (y6f a.num (b.den:Int) (by omega) (by rw [Int.natAbs_natCast];omega) (n:=n) (by rw [Int.natAbs_natCast];omega)) (can2 (y1s _) (y1s _))
 have m2:=y01 (y6f b.num (a.den:Int) (by omega) (by rw [Int.natAbs_natCast];omega) (n:=n) (by rw [Int.natAbs_natCast];omega)) (can2 (y1s _) (y1s _))
 have h1:(a.num*(b.den:Int)).natAbs<2^(S+T):=by rw [Int.natAbs_mul,Int.natAbs_natCast];exact y4p ha.num hb.den
 have h2:(b.num*(a.den:Int)).natAbs<2^(S+T):=by rw [Int.natAbs_mul,Int.natAbs_natCast,Nat.add_comm];exact y4p hb.num ha.den
 have l1:=y12 h1
 have l2:=y12 h2
 have hc:=y01 (ykf (a.num*(b.den:Int)) (b.num*(a.den:Int)) (by omega) (by omega) (n:=n) (by omega)) (can2 (y1s _) (y1s _))
 generalize a.num*(b.den:Int)=p at m1 hc ⊢
 generalize b.num*(a.den:Int)=r at m2 hc ⊢
 obtain ⟨e,y,rfl⟩:=h.cells
 obtain ⟨e',y',rfl⟩:=h'.cells
 unfold sV zC at d1 d2 m1 m2 hc
 rw [Int.natAbs_natCast] at d1 d2 m1 m2
 unfold zD at d1 d2 m1 m2 hc ⊢
 simp only [go_sem,Fn.y0l,d1,d2,m1,m2,hc]
theorem yk2 (a:Rat) {ca:List AV} (h:RQ a ca) {S:Nat} (ha:SmQ S a) (hS:S<2^36) {n:Nat} (hn:S+20≤n):evV E (n+1) Id.y0u [.agg ca]=some (.one (.int .i64 (signI a.num))):=by
 rw [y02 yf1]
 obtain ⟨n,rfl⟩:∃k,n=k+1:=⟨n-1,by omega⟩
 have na:=y12 ha.num
 have hz:dlen BT (0:Int).natAbs=0:=by show (digs BT 0).length=0;rw [y0s];rfl
 have hc:=ykf a.num 0 (by omega) (by omega) (n:=n) (by omega)
 have e:cmpZ a.num 0=signI a.num:=by
  clear hc
  unfold cmpZ signI
  by_cases h3:a.num<0
  ·rw [if_pos h3,if_pos h3]
  ·rw [if_neg h3,if_neg h3]
   by_cases h4:a.num=0
   ·rw [if_neg (show ¬0<a.num by omega),if_pos h4]
   ·rw [if_pos (show 0<a.num by omega),if_neg h4]
 rw [e] at hc
 obtain ⟨e',y,rfl⟩:=h.cells
 have z0:sV 0=.agg [.bool false,.sl false []]:=by
  unfold sV zC zD
  rw [show (0:Int).natAbs=0 from rfl,y0s];rfl
 have cz:CanS (.agg [.bool false,.sl false []]):=by rw [←z0];exact y1s 0
 rw [z0] at hc
 have hc:=fun ob fz=>ycq hc (FzS.two (y1s a.num).fzs (show FzS (.agg [.bool false,.nils]) (.agg [.bool false,.sl false []]) from fun ob fz=>by simp only [go_sem,mapFz,yd5,yl8,ylb,ydy])) ob fz
 unfold sV zC zD at hc
 unfold zD
 simp only [go_sem,Fn.y0u,hc]
theorem ynv (a:Rat) {ca:List AV} (h:RQ a ca) {S:Nat} (ha:SmQ S a) (hS:S<2^36) {n:Nat} (hn:20≤n):evV E (n+1) Id.y36 [.agg ca]=some (rV (-a)):=by
 rw [y02 ygj]
 obtain ⟨n,rfl⟩:∃k,n=k+1:=⟨n-1,by omega⟩
 have da:=y12 ha.den
 have d1:=rdn h (by omega) (n:=n+1) (by omega)
 have hg:=y01 (ygs a.num (n:=n) (by omega)) (can1 (y1s _))
 have e1:(-a).num=-a.num:=Rat.neg_num a
 have e2:(-a).den=a.den:=Rat.neg_den a
 generalize-a=b at e1 e2 ⊢
 rw [←e1] at hg
 unfold rV
 rw [rC_eq b,e2]
 obtain ⟨e,y,rfl⟩:=h.cells
 unfold sV zC at d1 hg
 rw [Int.natAbs_natCast] at d1
 unfold zD at d1 hg ⊢
 simp only [go_sem,Fn.y36,d1,hg]
theorem ymh (a b:Rat) {ca cb:List AV} (h:RQ a ca) (h':RQ b cb) {S T:Nat} (ha:SmQ S a) (hb:SmQ T b) (hS:S+T<2^35) {n:Nat} (hn:KR (S+T+1)+10≤n):evV E (n+1) Id.y1r [.agg ca,.agg cb]=some (rV (a+b)):=by
 rw [y02 ygk,Rat.add_def]
 have hK:=yah (S+T+1)
 obtain ⟨n,rfl⟩:∃k,n=k+1:=⟨n-1,by omega⟩
 have da:=y12 ha.den
 have db:=y12 hb.den
 have na:=y12 ha.num
 have nb:=y12 hb.num
 have d1:=rdn h (by omega) (n:=n+1) (by omega)
 have d2:=rdn h' (by omega) (n:=n+1) (by omega)
 have m1:=y01 (y6f a.num (b.den:Int) (by omega) (by rw [Int.natAbs_natCast];omega) (n:=n) (by rw [Int.natAbs_natCast];omega)) (can2 (y1s _) (y1s _))
 have m2:=y01 (y6f b.num (a.den:Int) (by omega) (by rw [Int.natAbs_natCast];omega) (n:=n) (by rw [Int.natAbs_natCast];omega)) (can2 (y1s _) (y1s _))
 have m3:=y01 (y6f (a.den:Int) (b.den:Int) (by rw [Int.natAbs_natCast];omega) (by rw [Int.natAbs_natCast];omega) (n:=n) (by rw [Int.natAbs_natCast,Int.natAbs_natCast];omega)) (can2 (y1s _) (y1s _))
 have h1:(a.num*(b.den:Int)).natAbs<2^(S+T):=by rw [Int.natAbs_mul,Int.natAbs_natCast];exact y4p ha.num hb.den
 have h2:(b.num*(a.den:Int)).natAbs<2^(S+T):=by rw [Int.natAbs_mul,Int.natAbs_natCast,Nat.add_comm];exact y4p hb.num ha.den
 have l1:=y12 h1
 have l2:=y12 h2
 have hz:=y01 (ytk (a.num*(b.den:Int)) (b.num*(a.den:Int)) (by omega) (by omega) (n:=n) (by omega)) (can2 (y1s _) (y1s _))
 obtain ⟨s1,s2⟩:=ygw ha hb
 have s2':((a.den:Int)*(b.den:Int)).natAbs<2^(S+T+1):=by rw [Int.natAbs_mul,Int.natAbs_natCast,Int.natAbs_natCast];exact s2
 have hp:(0:Int)<(a.den:Int)*(b.den:Int):=Int.mul_pos (by have:=a.den_pos;omega) (by have:=b.den_pos;omega)
 have hq:=y01 (yaf (a.num*(b.den:Int)+b.num*(a.den:Int)) ((a.den:Int)*(b.den:Int)) hp s1 s2' (by omega) (n:=n) (by omega) false _ _ (.inl ⟨rfl,rfl,rfl⟩)) (can2 (y1s _) (y1s _))
 have en:Rat.normalize (a.num*(b.den:Int)+b.num*(a.den:Int)) ((a.den:Int)*(b.den:Int)).natAbs (by omega)=Rat.normalize (a.num*(b.den:Int)+b.num*(a.den:Int)) (a.den*b.den) (Nat.mul_ne_zero a.den_nz b.den_nz):=by
  congr 1
 rw [en] at hq
 generalize Rat.normalize (a.num*(b.den:Int)+b.num*(a.den:Int)) (a.den*b.den) _=q at hq ⊢
 generalize a.num*(b.den:Int)+b.num*(a.den:Int)=p3 at hz hq
 generalize a.num*(b.den:Int)=p at m1 hz
 generalize b.num*(a.den:Int)=r at m2 hz
 generalize (a.den:Int)*(b.den:Int)=r3 at m3 hq
 obtain ⟨e,y,rfl⟩:=h.cells
 obtain ⟨e',y',rfl⟩:=h'.cells
 unfold rV at hq ⊢
 rw [rC_eq] at hq ⊢
 unfold sV zC at d1 d2 m1 m2 m3 hz hq
 rw [Int.natAbs_natCast] at d1 d2 m1 m2 m3
 try rw [Int.natAbs_natCast] at m3
 unfold zD at d1 d2 m1 m2 m3 hz hq ⊢
 simp only [go_sem,Fn.y1r,d1,d2,m1,m2,m3,hz,hq]
theorem yy3 (a b:Rat) {ca cb:List AV} (h:RQ a ca) (h':RQ b cb) {S T:Nat} (ha:SmQ S a) (hb:SmQ T b) (hS:S+T<2^35) {n:Nat} (hn:KR (S+T+1)+12≤n):evV E (n+1) Id.y22 [.agg ca,.agg cb]=some (rV (a-b)):=by
 rw [y02 ygo]
 have hK:=yah (S+T+1)
 obtain ⟨n,rfl⟩:∃k,n=k+1:=⟨n-1,by omega⟩
 have hg:=y01 (ynv b h' hb (by omega) (n:=n) (by omega)) (can1 h'.can)
 have hq:=y01 (ymh a (-b) h (RQ.self _) ha (SmQ.neg hb) hS (n:=n) (by omega)) (can2 h.can (y8y _))
 rw [←Rat.sub_eq_add_neg] at hq
 obtain ⟨e,y,rfl⟩:=h.cells
 obtain ⟨e',y',rfl⟩:=h'.cells
 unfold rV at hg hq ⊢
 rw [rC_eq (-b)] at hg hq
 rw [rC_eq (a-b)] at hq ⊢
 unfold zD at hg hq ⊢
 simp only [go_sem,Fn.y22,hg,hq]
theorem yrh (z w:Int) (hw:w≠0):ofQ z w hw=Rat.divInt z w:=by
 by_cases h:w<0
 ·rw [ypz hw h,Rat.normalize_eq_mkRat,←Rat.divInt_ofNat,Rat.divInt_eq_divInt_iff (by omega) hw]
  have:(((-w).natAbs:Nat):Int)=-w:=by omega
  rw [this];grind
 ·rw [yqc hw h,Rat.normalize_eq_mkRat,←Rat.divInt_ofNat,Rat.divInt_eq_divInt_iff (by omega) hw]
  have:((w.natAbs:Nat):Int)=w:=by omega
  rw [this]
theorem yye (a b:Rat) (hb:(a.den:Int)*b.num≠0):ofQ (a.num*(b.den:Int)) ((a.den:Int)*b.num) hb=a / b:=by
 rw [yrh,Rat.div_def,Rat.inv_def]
 conv=>rhs;rw [←Rat.num_divInt_den a,Rat.divInt_mul_divInt]
theorem ywx (a b:Rat) (h0:b.num≠0) {ca cb:List AV} (h:RQ a ca) (h':RQ b cb) {S T:Nat} (ha:SmQ S a) (hb:SmQ T b) (hS:S+T<2^35) {n:Nat} (hn:KR (S+T)+10≤n):evV E (n+1) Id.y3h [.agg ca,.agg cb]=some (rV (a / b)):=by
 have hw:(a.den:Int)*b.num≠0:=Int.mul_ne_zero (by have:=a.den_nz;omega) h0
 rw [y02 ygd,←yye a b hw]
 have hK:=yah (S+T)
 obtain ⟨n,rfl⟩:∃k,n=k+1:=⟨n-1,by omega⟩
 have da:=y12 ha.den
 have db:=y12 hb.den
 have na:=y12 ha.num
 have nb:=y12 hb.num
 have d1:=rdn h (by omega) (n:=n+1) (by omega)
 have d2:=rdn h' (by omega) (n:=n+1) (by omega)
 have m1:=y01 (y6f a.num (b.den:Int) (by omega) (by rw [Int.natAbs_natCast];omega) (n:=n) (by rw [Int.natAbs_natCast];omega)) (can2 (y1s _) (y1s _))
 have m2:=y01 (y6f (a.den:Int) b.num (by rw [Int.natAbs_natCast];omega) (by omega) (n:=n) (by rw [Int.natAbs_natCast];omega)) (can2 (y1s _) (y1s _))
 have h1:(a.num*(b.den:Int)).natAbs<2^(S+T):=by rw [Int.natAbs_mul,Int.natAbs_natCast];exact y4p ha.num hb.den
 have h2:((a.den:Int)*b.num).natAbs<2^(S+T):=by rw [Int.natAbs_mul,Int.natAbs_natCast];exact y4p ha.den hb.num
 have hq:=y01 (ymo (a.num*(b.den:Int)) ((a.den:Int)*b.num) hw h1 h2 (by omega) (n:=n) (by omega)) (can2 (y1s _) (y1s _))
 generalize ofQ (a.num*(b.den:Int)) ((a.den:Int)*b.num) hw=q at hq ⊢
 generalize a.num*(b.den:Int)=p at m1 hq
 generalize (a.den:Int)*b.num=r at m2 hq
 obtain ⟨e,y,rfl⟩:=h.cells
 obtain ⟨e',y',rfl⟩:=h'.cells
 unfold rV at hq ⊢
 rw [rC_eq] at hq ⊢
 unfold sV zC at d1 d2 m1 m2 hq
 rw [Int.natAbs_natCast] at d1 d2 m1 m2
 unfold zD at d1 d2 m1 m2 hq ⊢
 simp only [go_sem,Fn.y3h,d1,d2,m1,m2,hq]
theorem yx0 (z:Int) (h1:-9223372036854775808≤z) (h2:z<9223372036854775808) {n:Nat} (hn:12≤n):evV E (n+1) Id.y2y [.one (.int .i64 z)]=some (rV (Rat.ofInt z)):=by
 rw [y02 ygc]
 obtain ⟨n,rfl⟩:∃k,n=k+1:=⟨n-1,by omega⟩
 have z1:=y01 (y8m z h1 h2 (n:=n) (by omega)) (can1 (y2j _ _))
 have z2:=y01 (y8m 1 (by decide) (by decide) (n:=n) (by omega)) (can1 (y2j _ _))
 unfold rV
 rw [rC_eq]
 have e1:(Rat.ofInt z).num=z:=rfl
 have e2:(Rat.ofInt z).den=1:=rfl
 rw [e1,e2]
 have e3:(((1:Nat):Int))=1:=rfl
 have e4:(1:Int).natAbs=1:=rfl
 unfold sV zC at z1 z2
 rw [e3]
 rw [e4] at z2
 unfold zD at z1 z2 ⊢
 simp only [go_sem,Fn.y2y,z1,z2]
end Go.Ev
namespace Go.Ev
open Go.Dig
theorem yym (c:Nat) (h:c<10):(⟨#[48,49,50,51,52,53,54,55,56,57]⟩:ByteArray).extract c (c+1)=strB [48+c]:=by
 match c,h with
 | 0,_=>rfl
 | 1,_=>rfl
 | 2,_=>rfl
 | 3,_=>rfl
 | 4,_=>rfl
 | 5,_=>rfl
 | 6,_=>rfl
 | 7,_=>rfl
 | 8,_=>rfl
 | 9,_=>rfl
theorem ys8 (a:Nat) (l:List Nat):(strB (a::l)).extract 1 (l.length+1)=strB l:=by
 apply ByteArray.ext
 rw [ByteArray.data_extract,y7q,y7q]
 simp
 exact List.take_of_length_le (by simp)
theorem yu1 (a:Nat) (l:List Nat):(strB (a::l))[0]? =some (UInt8.ofNat a):=by
 have h:0<(strB (a::l)).size:=by rw [yb5];simp
 rw [getElem?_pos _ 0 h]
 congr 1
 show (strB (a::l)).data[0]'h=_
 simp only [y7q]
 simp
section
variable {F:Caller} {fuel:Nat} {fz:Nat→Nat} {ob:Nat→Option AObj} {nx:Nat}
set_option maxRecDepth 100000 in
theorem zt_L0 (y1 y4:SV):∀(m k d:Nat) (s:List Nat) (X:List (Nat×SV)),k+m=4→d<10000→s.length+m<2^50→∀N,m<N→
  ∃X',loopN (evC F fuel Fn.y65) N ⟨env ((1,y1)::(3,.one (.str (strB s)))::(4,y4)::(5,.one (.int .i64 (d:Int)))::(6,.one (.int .i64 (k:Int)))::X),ob,fz,nx⟩=
   some (.ext 2,⟨env ((1,y1)::(3,.one (.str (strB ((chD (padD m d)).reverse++s))))::(4,y4)::X'),ob,fz,nx⟩)
 | 0,k,d,s,X,hk,hd,hs,N,hN=>by
  obtain ⟨N,rfl⟩:∃k,N=k+1:=⟨N-1,by omega⟩
  have h1:(((k:Nat):Int)<4)=False:=by simp;omega
  refine ⟨[(5,.one (.int .i64 (d:Int))),(6,.one (.int .i64 (k:Int))),(24,.one (.bool false))],y06 ?_⟩
  simp only [go_sem,Fn.y65,h1,padD,chD,List.map_nil,List.reverse_nil,List.nil_append]
 | m+1,k,d,s,X,hk,hd,hs,N,hN=>by
  obtain ⟨N,rfl⟩:∃k,N=k+1:=⟨N-1,by omega⟩
  have h1:(((k:Nat):Int)<4)=True:=by simp;omega
  have wk:IntKind.i64.wrap ((k+1:Nat):Int)=((k+1:Nat):Int):=wi64 (by omega)
  have t10:((10:Int)=0)=False:=by simp
  have m1:((d:Nat):Int).tmod 10=((d%10:Nat):Int):=by rw [Int.tmod_eq_emod_of_nonneg (by omega)];omega
  have m4:IntKind.i64.wrap (((d:Nat):Int).tdiv 10)=((d / 10:Nat):Int):=by
   rw [Int.tdiv_eq_ediv_of_nonneg (by omega)]
   have:((d:Nat):Int) / 10=((d / 10:Nat):Int):=by omega
   rw [this,wrap_i64 (by omega)]
  have hc:d%10<10:=Nat.mod_lt _ (by decide)
  have e:(chD (padD (m+1) d)).reverse++s=(chD (padD m (d / 10))).reverse++((48+d%10)::s):=by
   have:padD (m+1) d=d%10::padD m (d / 10):=rfl
   rw [this]
   simp [chD]
  rw [e]
  generalize hcc:d%10=c at*
  have w1:IntKind.i64.wrap ((c+1:Nat):Int)=((c+1:Nat):Int):=wi64 (by omega)
  have hx:=yym c hc
  have hadd:=y8q [48+c] s (by simp;omega)
  have b1:(c≤c+1)=True:=by simp
  have b2:(c+1≤10)=True:=by simp;omega
  have sz:(⟨#[48,49,50,51,52,53,54,55,56,57]⟩:ByteArray).size=10:=rfl
  have hst:evC F fuel Fn.y65 ⟨env ((1,y1)::(3,.one (.str (strB s)))::(4,y4)::(5,.one (.int .i64 (d:Int)))::(6,.one (.int .i64 (k:Int)))::X),ob,fz,nx⟩=
    some (.nrm,⟨env [(1,y1),(3,.one (.str (strB ((48+c)::s)))),(4,y4),(5,.one (.int .i64 ((d / 10:Nat):Int))),(6,.one (.int .i64 ((k+1:Nat):Int)))],ob,fz,nx⟩):=by
   simp only [go_sem,Fn.y65,h1,t10,m1,m4,add1,w1,b1,b2,sz,hx,hadd,wk]
  rw [y05 hst]
  exact zt_L0 y1 y4 m (k+1) (d / 10) ((48+c)::s) [] (by omega) (by omega) (by simp;omega) N (by omega)
set_option maxRecDepth 100000 in
theorem zt_L2 (y1:SV):∀(m:Nat) (D:List Nat) (X:List (Nat×SV)),D.length=m→(∀d∈D,d<10)→trim D≠[]→D.length<2^50→∀N,m<N→
  ∃X',loopN (evC F fuel Fn.y64) N ⟨env ((1,y1)::(3,.one (.str (strB (chD D).reverse)))::X),ob,fz,nx⟩=
   some (.ext 4,⟨env ((1,y1)::(3,.one (.str (strB (chD (trim D)).reverse)))::X'),ob,fz,nx⟩):=by
 intro m
 induction m with
 | zero=>
  intro D X hm hd ht hl N hN
  have:D=[]:=List.eq_nil_of_length_eq_zero hm
  subst this
  exact absurd rfl ht
 | succ m ih=>
  intro D X hm hd ht hl N hN
  obtain ⟨N,rfl⟩:∃k,N=k+1:=⟨N-1,by omega⟩
  obtain ⟨l,x,rfl⟩:∃l x,D=l++[x]:=by
   rcases List.eq_nil_or_concat D with h | ⟨l,x,h⟩
   ·rw [h] at hm;simp at hm
   ·exact ⟨l,x,by simpa using h⟩
  have hx:x<10:=hd x (by simp)
  have hrev:(chD (l++[x])).reverse=(48+x)::(chD l).reverse:=by simp [chD]
  have hh:=yu1 (48+x) (chD l).reverse
  have hn:((UInt8.ofNat (48+x)).toNat:Int)=((48+x:Nat):Int):=by
   rw [UInt8.toNat_ofNat'];omega
  have nz:Ev.natOf 0=some 0:=rfl
  by_cases h0:x=0
  ·subst h0
   have hb:(((48+0:Nat):Int)==48)=true:=rfl
   have hll:(chD l).reverse.length=l.length:=by simp [chD]
   have ht1:=ys8 (48+0) (chD l).reverse
   have hsz:(strB ((48+0)::(chD l).reverse)).size=(chD l).reverse.length+1:=by rw [yb5];rfl
   have nz1:Ev.natOf 1=some 1:=rfl
   have b1:(1≤(chD l).reverse.length+1)=True:=by simp
   have hst:evC F fuel Fn.y64 ⟨env ((1,y1)::(3,.one (.str (strB (chD (l++[0])).reverse)))::X),ob,fz,nx⟩=
     some (.nrm,⟨env [(1,y1),(3,.one (.str (strB (chD l).reverse)))],ob,fz,nx⟩):=by
    rw [hrev]
    generalize (chD l).reverse=R at*
    simp only [go_sem,Fn.y64,nz,hh,hn,hb,nz1,hsz,b1,ht1]
   rw [y05 hst,y73]
   rw [y73] at ht
   exact ih l [] (by simpa using hm) (fun d hd'=>hd d (by simp [hd'])) ht (by simp at hl;omega) N (by omega)
  ·rw [y85 h0]
   have hb:(((48+x:Nat):Int)==48)=false:=by simp;omega
   refine ⟨[(39,.one (.bool false))],y06 ?_⟩
   rw [hrev]
   simp only [go_sem,Fn.y64,nz,hh,hn,hb]
end
end Go.Ev
namespace Go.Ev
open Go.Dig
section
variable {F:Caller} {fuel:Nat} {fz:Nat→Nat} {ob:Nat→Option AObj} {nx:Nat}
def ztP (ds:List Nat):List Nat:=(chD (ds.flatMap (padD 4))).reverse
theorem yxt (ds:List Nat) (d:Nat):ztP (ds++[d])=(chD (padD 4 d)).reverse++ztP ds:=by
 unfold ztP
 rw [List.flatMap_append]
 simp [chD]
theorem ypv (ds:List Nat):(ztP ds).length=4*ds.length:=by
 unfold ztP chD
 rw [List.length_reverse,List.length_map]
 induction ds with
 | nil=>rfl
 | cons d r ih=>rw [List.flatMap_cons,List.length_append,ih,yc3,List.length_cons];omega
set_option maxRecDepth 100000 in
theorem zt_L1 {sg:AV} (ds:List Nat) (hds:∀d∈ds,d<BT) (hl:ds.length<2^40) (hob:ob 0=some (.box [sg,.sl false (intE ds)])) (hf:5≤fuel):∀(m i:Nat) (X:List (Nat×SV)),i+m=ds.length→∀N,m<N→
  ∃X',loopN (evC F fuel Fn.y66) N ⟨env ((1,.one (.box 0 0))::(3,.one (.str (strB (ztP (ds.take i)))))::(4,.one (.int .i64 (i:Int)))::X),ob,fz,nx⟩=
   some (.ext 0,⟨env ((1,.one (.box 0 0))::(3,.one (.str (strB (ztP ds))))::X'),ob,fz,nx⟩)
 | 0,i,X,hi,N,hN=>by
  obtain ⟨N,rfl⟩:∃k,N=k+1:=⟨N-1,by omega⟩
  have hi':i=ds.length:=by omega
  subst hi'
  rw [List.take_length]
  have h1:(((ds.length:Nat):Int)<((ds.length:Nat):Int))=False:=by simp
  refine ⟨[(4,.one (.int .i64 (ds.length:Int))),(15,.one (.bool false))],y06 ?_⟩
  simp only [go_sem,Fn.y66,hob,y6p,h1]
 | m+1,i,X,hi,N,hN=>by
  obtain ⟨N,rfl⟩:∃k,N=k+1:=⟨N-1,by omega⟩
  have hil:i<ds.length:=by omega
  have h1:(((i:Nat):Int)<((ds.length:Nat):Int))=True:=by simp;omega
  have wk:IntKind.i64.wrap ((i+1:Nat):Int)=((i+1:Nat):Int):=wi64 (by omega)
  have gd:ds[i]? =some ds[i]:=by simp
  have hd:ds[i]<10000:=hds _ (by simp)
  have td:ds.take (i+1)=ds.take i++[ds[i]]:=by rw [List.take_add_one,gd];rfl
  have okz:okSz 1 (intE ds)=true:=yjn ds
  have ih:=zt_L1 ds hds hl hob hf m (i+1) [] (by omega) N (by omega)
  rw [td,yxt] at ih
  have hlen:(ztP (ds.take i)).length+4<2^50:=by rw [ypv,List.length_take];omega
  generalize ds[i]=d at*
  obtain ⟨X',hX⟩:=zt_L0 (F:=F) (fuel:=fuel) (fz:=fz) (ob:=ob) (nx:=nx) (.one (.box 0 0)) (.one (.int .i64 (i:Int))) 4 0 d (ztP (ds.take i)) [] rfl hd hlen fuel hf
  have z0:((0:Nat):Int)=0:=rfl
  rw [z0] at hX
  generalize ztP (ds.take i)=s at*
  generalize (chD (padD 4 d)).reverse++s=s' at*
  have hst:evC F fuel Fn.y66 ⟨env ((1,.one (.box 0 0))::(3,.one (.str (strB s)))::(4,.one (.int .i64 (i:Int)))::X),ob,fz,nx⟩=
    some (.nrm,⟨env [(1,.one (.box 0 0)),(3,.one (.str (strB s'))),(4,.one (.int .i64 ((i+1:Nat):Int)))],ob,fz,nx⟩):=by
   simp only [go_sem,Fn.y66,hob,y6p,yaj,gd,okz,h1,hX,add1,wk]
  rw [y05 hst]
  exact ih
end
theorem yjf:∀(k d:Nat),∀x∈padD k d,x<10
 | 0,d,x,h=>by cases h
 | k+1,d,x,h=>by
  rcases List.mem_cons.1 h with rfl | h
  ·omega
  ·exact yjf k _ x h
theorem ypt:∀(k d:Nat),d<10^k→val 10 (padD k d)=d
 | 0,d,h=>by
  have:d=0:=by simpa using h
  rw [this];rfl
 | k+1,d,h=>by
  show d%10+10*val 10 (padD k (d / 10))=d
  rw [ypt k (d / 10) (by rw [Nat.pow_succ] at h;omega)];omega
theorem ymt:∀(ds:List Nat),(∀d∈ds,d<BT)→val 10 (ds.flatMap (padD 4))=val BT ds
 | [],h=>rfl
 | d::r,h=>by
  have hd:d<10^4:=h d (by simp)
  rw [List.flatMap_cons,y92,ypt 4 d hd,yc3,ymt r fun x hx=>h x (by simp [hx])]
  rfl
theorem yst (ds:List Nat) (h:∀d∈ds,d<BT):trim (ds.flatMap (padD 4))=digs 10 (val BT ds):=by
 rw [ybv (show 2≤10 by decide) _ (fun x hx=>by
  obtain ⟨d,_,hd⟩:=List.mem_flatMap.1 hx
  exact yjf 4 d x hd),ymt ds h]
def zL (z:Int):List Nat:=if z<0 then 45::decL z.natAbs else decL z.natAbs
set_option maxRecDepth 100000 in
theorem yks (z:Int) (hz:dlen BT z.natAbs<2^38) {n:Nat} (hn:4*dlen BT z.natAbs+20≤n):evV E (n+1) Id.y29 [sV z]=some (.one (.str (strB (zL z)))):=by
 rw [y02 ydo]
 unfold zL sV zC zD
 by_cases h0:z.natAbs=0
 ·have hz0:z=0:=by omega
  subst hz0
  have hq:(((digs BT (0:Int).natAbs).length:Int)==0)=true:=by rw [show (0:Int).natAbs=0 from rfl,y0s];rfl
  have e:strB (if (0:Int)<0 then 45::decL (0:Int).natAbs else decL (0:Int).natAbs)=⟨#[48]⟩:=by rfl
  rw [e]
  simp only [go_sem,Fn.y29,y6p,hq,y78]
 ·have hq:(((digs BT z.natAbs).length:Int)==0)=false:=by
   have:=y4u BT2 h0
   have:(digs BT z.natAbs).length≠0:=fun e=>this (List.length_eq_zero_iff.1 e)
   simp only [beq_eq_false_iff_ne,ne_eq];omega
  rw [yc2 h0]
  unfold dlen at hz hn
  obtain ⟨ob1,hob1⟩:∃o,o=upd ob0 0 (.box [.bool (decide (z<0)),.sl false (intE (digs BT z.natAbs))]):=⟨_,rfl⟩
  have o0:ob1 0=some (.box [.bool (decide (z<0)),.sl false (intE (digs BT z.natAbs))]):=by rw [hob1];exact upd_same _ _ _
  obtain ⟨X1,k1⟩:=zt_L1 (F:=evF E n) (fuel:=n) (fz:=fz0) (ob:=ob1) (nx:=2) (digs BT z.natAbs) (y27 BT2 _) (by omega) o0 (by omega) (digs BT z.natAbs).length 0 [] (by omega) n (by omega)
  have hft:=yst (digs BT z.natAbs) (y27 BT2 _)
  rw [y1k BT2] at hft
  have hne:digs 10 z.natAbs≠[]:=y4u (by decide) h0
  have hfl:((digs BT z.natAbs).flatMap (padD 4)).length=4*(digs BT z.natAbs).length:=by
   have:=ypv (digs BT z.natAbs)
   unfold ztP chD at this
   simpa using this
  obtain ⟨X2,k2⟩:=zt_L2 (F:=evF E n) (fuel:=n) (fz:=fz0) (ob:=ob1) (nx:=2) (.one (.box 0 0)) ((digs BT z.natAbs).flatMap (padD 4)).length ((digs BT z.natAbs).flatMap (padD 4)) X1 rfl (fun x hx=>by
   obtain ⟨d,_,hd⟩:=List.mem_flatMap.1 hx
   exact yjf 4 d x hd) (by rw [hft];exact hne) (by omega) n (by omega)
  have e0:strB (ztP ((digs BT z.natAbs).take 0))=⟨#[]⟩:=rfl
  have z0:((0:Nat):Int)=0:=rfl
  rw [e0,z0] at k1
  rw [hft] at k2
  have eP:ztP (digs BT z.natAbs)=(chD ((digs BT z.natAbs).flatMap (padD 4))).reverse:=rfl
  rw [eP] at k1
  have hl10:(digs 10 z.natAbs).length≤4*(digs BT z.natAbs).length:=by
   rw [←hft,←hfl];exact yfu _
  have hadd:=y8q [45] (chD (digs 10 z.natAbs)).reverse (by simp [chD];omega)
  have hadd:binS .add ⟨#[45]⟩ (strB (chD (digs 10 z.natAbs)).reverse)=some (.str (strB (45::(chD (digs 10 z.natAbs)).reverse))):=hadd
  generalize (chD (digs 10 z.natAbs)).reverse=R at*
  generalize (chD ((digs BT z.natAbs).flatMap (padD 4))).reverse=R2 at*
  by_cases hneg:z<0
  ·rw [if_pos hneg]
   rw [decide_eq_true hneg] at o0 hob1 ⊢
   simp only [go_sem,Fn.y29,y6p,hq,←hob1,k1,k2,o0,hadd,y78]
  ·rw [if_neg hneg]
   rw [decide_eq_false hneg] at o0 hob1 ⊢
   simp only [go_sem,Fn.y29,y6p,hq,←hob1,k1,k2,o0,y78]
end Go.Ev
namespace Go.Ev
open Go.Dig
theorem ypd (l:List Nat):(strB l).toList=l.map fun d=>UInt8.ofNat d:=by
 rw [ByteArray.toList_eq,y7q]
theorem yvj (a:Nat):(((decL a).map fun d=>UInt8.ofNat d)=[49])↔a=1:=by
 constructor
 ·intro h
  by_cases h0:a=0
  ·subst h0;exact absurd h (by decide)
  ·rw [yc2 h0] at h
   have hl:(digs 10 a).length=1:=by
    have:=congrArg List.length h
    simpa [chD] using this
   obtain ⟨d,hd⟩:∃d,digs 10 a=[d]:=List.length_eq_one_iff.1 hl
   have hlt:d<10:=y27 (show 2≤10 by decide) a d (by rw [hd];simp)
   have hv:=y1k (show 2≤10 by decide) a
   rw [hd] at hv h
   have hv:d=a:=by simpa [val] using hv
   have h1:UInt8.ofNat (48+d)=49:=by simpa [chD] using h
   have h2:=congrArg UInt8.toNat h1
   rw [UInt8.toNat_ofNat'] at h2
   have h3:(49:UInt8).toNat=49:=rfl
   rw [h3] at h2
   omega
 ·rintro rfl
  have:decL 1=[49]:=by
   rw [yc2 (by decide),y71 (by decide) (by decide),y0s];rfl
  rw [this];rfl
theorem yyy (a:Nat):binS .eql (strB (decL a)) ⟨#[49]⟩=some (.bool (decide (a=1))):=by
 show some (AV.bool ((strB (decL a)).toList==(⟨#[49]⟩:ByteArray).toList))=_
 have h1:(⟨#[49]⟩:ByteArray).toList=[49]:=by rw [ByteArray.toList_eq]
 rw [h1,ypd]
 congr 2
 rw [Bool.eq_iff_iff,beq_iff_eq,decide_eq_true_iff,yvj]
set_option maxRecDepth 100000 in
theorem yu9 (q:Rat) {ca:List AV} (hq:RQ q ca) {S:Nat} (h:SmQ S q) (hS:S<2^34) {n:Nat} (hn:4*S+100≤n):evV E (n+1) Id.y3e [.agg ca]=some (.one (.str (strB (txtL q)))):=by
 rw [y02 yes]
 obtain ⟨n,rfl⟩:∃j,n=j+1:=⟨n-1,by omega⟩
 have na:=y12 h.num
 have da:=y12 h.den
 have k1:=y01 (yks q.num (by omega) (n:=n) (by omega)) (can1 (y1s _))
 have k2:=rdn hq (by omega) (n:=n+1) (by omega)
 have k3:=y01 (yks (q.den:Int) (by rw [Int.natAbs_natCast];omega) (n:=n) (by rw [Int.natAbs_natCast];omega)) (can1 (y1s _))
 have s1:=ycj h.num
 have s2:=ycj h.den
 have ez:zL (q.den:Int)=decL q.den:=by unfold zL;rw [if_neg (by omega),Int.natAbs_natCast]
 rw [ez] at k3
 have ezl:(zL q.num).length≤S+2:=by
  unfold zL
  split
  ·rw [List.length_cons];omega
  ·omega
 have g1:binS .add (strB (zL q.num)) ⟨#[47]⟩=some (.str (strB (zL q.num++[47]))):=y8q _ [47] (by simp;omega)
 have g2:=y8q (zL q.num++[47]) (decL q.den) (by simp;omega)
 have g3:=yyy q.den
 have et:txtL q=zL q.num++(if q.den=1 then [] else 47::decL q.den):=rfl
 rw [et]
 obtain ⟨e,y,rfl⟩:=hq.cells
 generalize zL q.num=A at*
 generalize decL q.den=B at*
 unfold sV zC at k1 k2 k3
 rw [Int.natAbs_natCast] at k2 k3
 unfold zD at k1 k2 k3 ⊢
 by_cases h1:q.den=1
 ·rw [decide_eq_true h1] at g3
  rw [if_pos h1,List.append_nil]
  simp only [go_sem,Fn.y3e,k1,k2,k3,g3,y78]
 ·rw [decide_eq_false h1] at g3
  rw [if_neg h1,show A++47::B=A++[47]++B by simp]
  simp only [go_sem,Fn.y3e,k1,k2,k3,g1,g2,g3,y78]
theorem yvd (q:Rat) {ca:List AV} (hq:RQ q ca) {S:Nat} (h:SmQ S q) (hS:S<2^34) {n:Nat} (hn:4*S+110≤n):evV E (n+1) Id.y2e [qV q,.agg ca]=some (.one (.bool true)):=by
 rw [y02 yez]
 obtain ⟨n,rfl⟩:∃j,n=j+1:=⟨n-1,by omega⟩
 have k1:=y01 (yx8 q h hS (n:=n) (by omega)) (can1 (y1b _))
 have k2:=y01 (yu9 q hq h hS (n:=n) (by omega)) (can1 hq.can)
 have k3:=yut (strB (txtL q))
 obtain ⟨e,y,rfl⟩:=hq.cells
 obtain ⟨a1,a2,a3,ea,-,-,-⟩:=y08 q
 unfold qV at k1 ⊢
 rw [ea] at k1 ⊢
 unfold zD at k2 ⊢
 simp only [go_sem,Fn.y2e,k1,k2,k3]
end Go.Ev
namespace Go.Ev
open Go.Dig
theorem y6d (p:Pt):∃a b c d e f g h,rC p.x=[a,b,c,d]∧rC p.z=[e,f,g,h]∧p.r=[a,b,c,d,e,f,g,h]:=⟨_,_,_,_,_,_,_,_,rfl,rfl,rfl⟩
theorem ya8 (p:Pt):p.r.length=8:=rfl
theorem ycb (S:Nat) (hS:S≤2^30):∃N,∀(a b:Rat) (ca cb:List AV),RQ a ca→RQ b cb→SmQ S a→SmQ S b→∀n,N≤n→∀(ob:Nat→Option AObj) (fz:Nat→Nat),callV (evF E n) Id.y0l [.agg ca,.agg cb] ob fz=some (.fzd fz (.one (.int .i64 (cmpQ a b)))):=
 ⟨2*(S+S)+21,fun a b ca cb ha hb sa sb n hn=>by
  obtain ⟨m,rfl⟩:∃m,n=m+1:=⟨n-1,by omega⟩
  exact y01 (yml a b ha hb sa sb (by omega) (n:=m) (by omega)) (can2 ha.can hb.can)⟩
theorem yjk {S:Nat} (hS:S≤2^30) (l:List Rat) (h:∀x∈l,SmQ S x):∃N,∀n,N≤n→∀a∈l,∀b∈l,∀(ob:Nat→Option AObj) (fz:Nat→Nat),callV (evF E n) Id.y0l [.agg (rC a),.agg (rC b)] ob fz=some (.fzd fz (.one (.int .i64 (cmpQ a b)))):=by
 obtain ⟨N,hN⟩:=ycb S hS
 exact ⟨N,fun n hn a ha b hb=>hN a b _ _ (RQ.self a) (RQ.self b) (h a ha) (h b hb) n hn⟩
theorem ydb {n:Nat} {ob:Nat→Option AObj} {fz:Nat→Nat} {nx:Nat} (l:List Pt) (hl:l.length<2^60) (hc:∀a∈l,∀b∈l,∀(ob:Nat→Option AObj) (fz:Nat→Nat),callV (evF E n) Id.y0l [.agg (rC a.x),.agg (rC b.x)] ob fz=some (.fzd fz (.one (.int .i64 (cmpQ a.x b.x))))):∀(m j:Nat),j+1+m=l.length→∀(X:List (Nat×SV)) (N:Nat),m<N→
  if incC (l.drop j)=true then ∃X',loopN (evC (evF E n) n Fn.y2t) N ⟨env ((0,.one (.sl false (l.map Pt.r)))::(3,.one (.int .i64 ((j+1:Nat):Int)))::X),ob,fz,nx⟩=some (.ext 0,⟨env ((0,.one (.sl false (l.map Pt.r)))::X'),ob,fz,nx⟩)
  else ∃X',loopN (evC (evF E n) n Fn.y2t) N ⟨env ((0,.one (.sl false (l.map Pt.r)))::(3,.one (.int .i64 ((j+1:Nat):Int)))::X),ob,fz,nx⟩=some (.ret,⟨env ((2,.one (.bool false))::X'),ob,fz,nx⟩)
 | 0,j,hj,X,N+1,hN=>by
  have h1:(((j+1:Nat):Int)<((l.length:Nat):Int))=False:=by simp only [eq_iff_iff,iff_false];omega
  have e:incC (l.drop j)=true:=by
   rw [List.drop_eq_getElem_cons (show j<l.length by omega),List.drop_eq_nil_of_le (by omega)]
   rfl
  rw [if_pos e]
  refine ⟨[(3,.one (.int .i64 ((j+1:Nat):Int))),(7,.one (.bool false))],y06 ?_⟩
  simp only [go_sem,Fn.y2t,List.length_map,h1]
 | m+1,j,hj,X,N+1,hN=>by
  have hj1:j<l.length:=by omega
  have hj2:j+1<l.length:=by omega
  have h1:(((j+1:Nat):Int)<((l.length:Nat):Int))=True:=by simp only [eq_iff_iff,iff_true];omega
  have wk:IntKind.i64.wrap ((j+1+1:Nat):Int)=((j+1+1:Nat):Int):=wi64 (by omega)
  have w1:IntKind.i64.wrap (((j+1:Nat):Int)-1)=((j:Nat):Int):=by rw [wrap_i64 (by omega)];omega
  obtain ⟨a1,a2,a3,a4,a5,a6,a7,a8,ea,-,ea'⟩:=y6d l[j]
  obtain ⟨b1,b2,b3,b4,b5,b6,b7,b8,eb,-,eb'⟩:=y6d l[j+1]
  have g1:(l.map Pt.r)[j]? =some [a1,a2,a3,a4,a5,a6,a7,a8]:=by rw [List.getElem?_map,List.getElem?_eq_getElem hj1,Option.map_some,ea']
  have g2:(l.map Pt.r)[j+1]? =some [b1,b2,b3,b4,b5,b6,b7,b8]:=by rw [List.getElem?_map,List.getElem?_eq_getElem hj2,Option.map_some,eb']
  have hcc:=hc l[j] (by simp) l[j+1] (by simp)
  rw [ea,eb] at hcc
  have okz:okSz 8 (l.map Pt.r)=true:=y1m ya8 l
  have e:incC (l.drop j)=(decide (cmpQ l[j].x l[j+1].x<0)&&incC (l.drop (j+1))):=by
   rw [List.drop_eq_getElem_cons hj1,List.drop_eq_getElem_cons hj2]
   rfl
  rw [e]
  generalize cmpQ l[j].x l[j+1].x=k at*
  by_cases hk:k<0
  ·rw [decide_eq_true hk,Bool.true_and]
   have g3:(k≥0)=False:=by simp only [eq_iff_iff,iff_false];omega
   have hst:evC (evF E n) n Fn.y2t ⟨env ((0,.one (.sl false (l.map Pt.r)))::(3,.one (.int .i64 ((j+1:Nat):Int)))::X),ob,fz,nx⟩=some (.nrm,⟨env [(0,.one (.sl false (l.map Pt.r))),(3,.one (.int .i64 ((j+1+1:Nat):Int)))],ob,fz,nx⟩):=by
    simp only [go_sem,Fn.y2t,List.length_map,h1,w1,g1,g2,okz,hcc,g3,add1,wk]
   rw [y05 hst]
   exact ydb l hl hc m (j+1) (by omega) [] N (by omega)
  ·rw [decide_eq_false hk,Bool.false_and,if_neg (by simp)]
   have g3:(k≥0)=True:=by simp only [eq_iff_iff,iff_true];omega
   refine ⟨[],y34 ?_⟩
   simp only [go_sem,Fn.y2t,List.length_map,h1,w1,g1,g2,okz,hcc,g3]
theorem ymf (l:List Pt) (hl:l.length<2^60) (h:∀p∈l,SmPt p):Ends Id.y0o [.one (.sl false (l.map Pt.r))] (.one (.bool (rightC l))):=by
 obtain ⟨N,hN⟩:=yjk (S:=256) (by decide) (l.map Pt.x) (fun x hx=>by
  obtain ⟨p,hp,rfl⟩:=List.mem_map.1 hx
  exact (h p hp).x)
 refine .of (N+l.length+1) fun {n} hn=> ?_
 have hc:∀a∈l,∀b∈l,∀(ob:Nat→Option AObj) (fz:Nat→Nat),callV (evF E n) Id.y0l [.agg (rC a.x),.agg (rC b.x)] ob fz=some (.fzd fz (.one (.int .i64 (cmpQ a.x b.x)))):=fun a ha b hb=>hN n (by omega) a.x (List.mem_map_of_mem ha) b.x (List.mem_map_of_mem hb)
 rw [y02 yax]
 unfold rightC
 have k1:(((l.length:Nat):Int)≥1)=(1≤l.length):=by rw [eq_iff_iff];omega
 have k2:(((l.length:Nat):Int)≤8)=(l.length≤8):=by rw [eq_iff_iff];omega
 rcases l with _ | ⟨p,r⟩
 ·have h1:((1:Int)<((0:Nat):Int))=False:=by simp
  have h2:(((0:Nat):Int)≥1)=False:=by simp
  have hlo:loopN (evC (evF E n) n Fn.y2t) n ⟨env [(0,.one (.sl false [])),(3,.one (.int .i64 1))],ob0,fz0,0⟩=some (.ext 0,⟨env [(0,.one (.sl false [])),(3,.one (.int .i64 1)),(7,.one (.bool false))],ob0,fz0,0⟩):=by
   obtain ⟨m,rfl⟩:∃m,n=m+1:=⟨n-1,by omega⟩
   refine y06 ?_
   simp only [go_sem,Fn.y2t,h1]
  have e1:(1≤0)=False:=by simp
  simp only [go_sem,Fn.y0o,hlo,h2,e1,incC]
 ·have hlo:=ydb (ob:=ob0) (fz:=fz0) (nx:=0) (p::r) hl hc r.length 0 (by simp;omega) [] n (by simp at hn;omega)
  rw [show ((0+1:Nat):Int)=1 from rfl,List.drop_zero] at hlo
  generalize p::r=l at*
  by_cases hi:incC l=true
  ·rw [if_pos hi] at hlo
   obtain ⟨X',hlo⟩:=hlo
   rw [hi,Bool.true_and]
   by_cases b1:1≤l.length<;>simp only [go_sem,Fn.y0o,List.length_map,hlo,k1,k2,b1]
  ·rw [if_neg hi] at hlo
   obtain ⟨X',hlo⟩:=hlo
   rw [Bool.not_eq_true] at hi
   rw [hi]
   simp only [go_sem,Fn.y0o,hlo]
theorem ynr (l:List Pt) (hl:l.length<2^60) (h:∀p∈l,SmPt p):Calling Id.y0o [.one (.sl false (l.map Pt.r))] (.one (.bool (rightC l))):=(ymf l hl h).call (can1 (.one _ (.sl _)))
end Go.Ev
namespace Go.Ev
open Go.Dig
theorem rC4 (q:Rat):∃a b c d,rC q=[a,b,c,d]:=⟨_,_,_,_,rfl⟩
theorem yjv (b:Bx):b.r=rC b.low.load++rC b.low.angle++rC b.low.speed++(rC b.high.load++rC b.high.angle++rC b.high.speed):=rfl
set_option maxRecDepth 100000 in
set_option maxHeartbeats 1000000 in
theorem yu8 (b:Bx) (h:SmBx b):Ends Id.y17 [.agg b.r] (.one (.bool (rightBx b))):=by
 obtain ⟨N,hN⟩:=ycb 256 (by decide)
 refine .of (N+5) fun {n} hn=> ?_
 have k0:=hN b.low.load b.high.load _ _ (RQ.self _) (RQ.self _) h.low.load h.high.load n (by omega)
 have k1:=hN b.low.angle b.high.angle _ _ (RQ.self _) (RQ.self _) h.low.angle h.high.angle n (by omega)
 have k2:=hN b.low.speed b.high.speed _ _ (RQ.self _) (RQ.self _) h.low.speed h.high.speed n (by omega)
 rw [y02 ybp]
 unfold rightBx
 rw [yjv]
 obtain ⟨a0,a1,a2,a3,e0⟩:=rC4 b.low.load
 obtain ⟨a4,a5,a6,a7,e1⟩:=rC4 b.low.angle
 obtain ⟨a8,a9,a10,a11,e2⟩:=rC4 b.low.speed
 obtain ⟨b0,b1,b2,b3,f0⟩:=rC4 b.high.load
 obtain ⟨b4,b5,b6,b7,f1⟩:=rC4 b.high.angle
 obtain ⟨b8,b9,b10,b11,f2⟩:=rC4 b.high.speed
 rw [e0,f0] at k0
 rw [e1,f1] at k1
 rw [e2,f2] at k2
 rw [e0,e1,e2,f0,f1,f2]
 generalize cmpQ b.low.load b.high.load=c0 at*
 generalize cmpQ b.low.angle b.high.angle=c1 at*
 generalize cmpQ b.low.speed b.high.speed=c2 at*
 obtain ⟨m,rfl⟩:∃m,n=m+4:=⟨n-4,by omega⟩
 have nz:Ev.natOf 0=some 0:=rfl
 have n1:Ev.natOf 1=some 1:=rfl
 have n2:Ev.natOf 2=some 2:=rfl
 have l0:((0:Int)<3)=True:=by simp
 have l1:((1:Int)<3)=True:=by simp
 have l2:((2:Int)<3)=True:=by simp
 have l3:((3:Int)<3)=False:=by simp
 have w1:IntKind.i64.wrap (0+1)=1:=rfl
 have w2:IntKind.i64.wrap (1+1)=2:=rfl
 have w3:IntKind.i64.wrap (2+1)=3:=rfl
 generalize hob:upd ob0 0 (.box ([a0,a1,a2,a3]++[a4,a5,a6,a7]++[a8,a9,a10,a11]++([b0,b1,b2,b3]++[b4,b5,b6,b7]++[b8,b9,b10,b11])))=ob
 have hob':upd ob0 0 (.box [a0,a1,a2,a3,a4,a5,a6,a7,a8,a9,a10,a11,b0,b1,b2,b3,b4,b5,b6,b7,b8,b9,b10,b11])=ob:=hob
 have ho:ob 0=some (.box [a0,a1,a2,a3,a4,a5,a6,a7,a8,a9,a10,a11,b0,b1,b2,b3,b4,b5,b6,b7,b8,b9,b10,b11]):=by rw [←hob];exact upd_same _ _ _
 have fin:∀X,evC (evF E (m+4)) (m+4) Fn.y1f ⟨env ((1,.one (.box 0 0))::(3,.one (.int .i64 3))::X),ob,fz0,2⟩=some (.ext 0,⟨env [(1,.one (.box 0 0)),(3,.one (.int .i64 3)),(5,.one (.bool false))],ob,fz0,2⟩):=fun X=>by
  simp only [go_sem,Fn.y1f,l3]
 have r0:∀X,evC (evF E (m+4)) (m+4) Fn.y1f ⟨env ((1,.one (.box 0 0))::(3,.one (.int .i64 0))::X),ob,fz0,2⟩=if c0≤0 then some (.nrm,⟨env [(1,.one (.box 0 0)),(3,.one (.int .i64 1))],ob,fz0,2⟩) else some (.ret,⟨env [(2,.one (.bool false))],ob,fz0,2⟩):=fun X=>by
  by_cases hc:c0≤0
  ·rw [if_pos hc]
   have g:(c0>0)=False:=by simp only [eq_iff_iff,iff_false];omega
   simp only [go_sem,Fn.y1f,l0,nz,ho,k0,g,w1]
  ·rw [if_neg hc]
   have g:(c0>0)=True:=by simp only [eq_iff_iff,iff_true];omega
   simp only [go_sem,Fn.y1f,l0,nz,ho,k0,g]
 have r1:∀X,evC (evF E (m+4)) (m+4) Fn.y1f ⟨env ((1,.one (.box 0 0))::(3,.one (.int .i64 1))::X),ob,fz0,2⟩=if c1≤0 then some (.nrm,⟨env [(1,.one (.box 0 0)),(3,.one (.int .i64 2))],ob,fz0,2⟩) else some (.ret,⟨env [(2,.one (.bool false))],ob,fz0,2⟩):=fun X=>by
  by_cases hc:c1≤0
  ·rw [if_pos hc]
   have g:(c1>0)=False:=by simp only [eq_iff_iff,iff_false];omega
   simp only [go_sem,Fn.y1f,l1,n1,ho,k1,g,w2]
  ·rw [if_neg hc]
   have g:(c1>0)=True:=by simp only [eq_iff_iff,iff_true];omega
   simp only [go_sem,Fn.y1f,l1,n1,ho,k1,g]
 have r2:∀X,evC (evF E (m+4)) (m+4) Fn.y1f ⟨env ((1,.one (.box 0 0))::(3,.one (.int .i64 2))::X),ob,fz0,2⟩=if c2≤0 then some (.nrm,⟨env [(1,.one (.box 0 0)),(3,.one (.int .i64 3))],ob,fz0,2⟩) else some (.ret,⟨env [(2,.one (.bool false))],ob,fz0,2⟩):=fun X=>by
  by_cases hc:c2≤0
  ·rw [if_pos hc]
   have g:(c2>0)=False:=by simp only [eq_iff_iff,iff_false];omega
   simp only [go_sem,Fn.y1f,l2,n2,ho,k2,g,w3]
  ·rw [if_neg hc]
   have g:(c2>0)=True:=by simp only [eq_iff_iff,iff_true];omega
   simp only [go_sem,Fn.y1f,l2,n2,ho,k2,g]
 have hloop:loopN (evC (evF E (m+4)) (m+4) Fn.y1f) (m+4) ⟨env [(1,.one (.box 0 0)),(3,.one (.int .i64 0))],ob,fz0,2⟩=
   if c0≤0∧c1≤0∧c2≤0 then some (.ext 0,⟨env [(1,.one (.box 0 0)),(3,.one (.int .i64 3)),(5,.one (.bool false))],ob,fz0,2⟩) else some (.ret,⟨env [(2,.one (.bool false))],ob,fz0,2⟩):=by
  by_cases h0:c0≤0
  ·have q0:=r0 []
   rw [if_pos h0] at q0
   rw [y05 q0]
   by_cases h1:c1≤0
   ·have q1:=r1 []
    rw [if_pos h1] at q1
    rw [y05 q1]
    by_cases h2:c2≤0
    ·have q2:=r2 []
     rw [if_pos h2] at q2
     rw [y05 q2,y06 (fin []),if_pos ⟨h0,h1,h2⟩]
    ·have q2:=r2 []
     rw [if_neg h2] at q2
     rw [y34 q2,if_neg (fun h=>h2 h.2.2)]
   ·have q1:=r1 []
    rw [if_neg h1] at q1
    rw [y34 q1,if_neg (fun h=>h1 h.2.1)]
  ·have q0:=r0 []
   rw [if_neg h0] at q0
   rw [y34 q0,if_neg (fun h=>h0 h.1)]
 by_cases hall:c0≤0∧c1≤0∧c2≤0
 ·rw [if_pos hall] at hloop
  rw [decide_eq_true hall.1,decide_eq_true hall.2.1,decide_eq_true hall.2.2]
  simp only [go_sem,Fn.y17,hob',hloop,Bool.and_self]
 ·rw [if_neg hall] at hloop
  have e:(decide (c0≤0)&&(decide (c1≤0)&&decide (c2≤0)))=false:=by
   rw [Bool.eq_false_iff]
   intro h
   simp only [Bool.and_eq_true,decide_eq_true_eq] at h
   exact hall h
  rw [e]
  simp only [go_sem,Fn.y17,hob',hloop]
theorem ysf (b:Bx) (h:SmBx b):Calling Id.y17 [.agg b.r] (.one (.bool (rightBx b))):=(yu8 b h).call (can1 (CanL.bxr b).agg)
end Go.Ev
namespace Go.Ev
open Go.Dig
theorem yac (g:Guard):∃c0 c1 c2 c3 c4 c5 c6 c7 c8 c9 c10 c11 c12 c13 c14 c15 c16 c17 c18 c19 c20 c21 c22 c23,g.box.r=[c0,c1,c2,c3,c4,c5,c6,c7,c8,c9,c10,c11,c12,c13,c14,c15,c16,c17,c18,c19,c20,c21,c22,c23]∧g.r=[.int .u8 (g.from_:Int),.int .u8 (g.to:Int),c0,c1,c2,c3,c4,c5,c6,c7,c8,c9,c10,c11,c12,c13,c14,c15,c16,c17,c18,c19,c20,c21,c22,c23,.int .i64 g.hold]:=
 ⟨_,_,_,_,_,_,_,_,_,_,_,_,_,_,_,_,_,_,_,_,_,_,_,_,rfl,rfl⟩
set_option maxRecDepth 100000 in
theorem yof {n:Nat} {ob:Nat→Option AObj} {nx i:Nat} (h0:0<nx) (l:List Guard) (w1 w2 s0 s1 s2 s3:AV) (o0:ob 0=some (.box [.sl false (l.map Guard.r),w1,w2,s0,s1,s2,s3])) (hl:l.length<2^20) (g:Guard) (gd:l[i]? =some g) (hil:i<l.length) (hc:∀(ob:Nat→Option AObj) (fz:Nat→Nat),callV (evF E n) Id.y17 [.agg g.box.r] ob fz=some (.fzd fz (.one (.bool (rightBx g.box))))) (X:List (Nat×SV)):
  ∃ob':Nat→Option AObj,(∀id,id<nx→ob' id=ob id)∧evC (evF E n) n Fn.y2m ⟨env ((1,.one (.box 0 0))::(3,.one (.int .i64 (i:Int)))::X),ob,fz0,nx⟩=
   if badG g=true then some (.ret,⟨env [(2,.one (.bool false))],ob',fz0,nx+7⟩) else some (.nrm,⟨env [(1,.one (.box 0 0)),(3,.one (.int .i64 ((i+1:Nat):Int)))],ob',fz0,nx+7⟩):=by
 have h1:(((i:Nat):Int)<((l.length:Nat):Int))=True:=by simp;omega
 have wk:IntKind.i64.wrap ((i+1:Nat):Int)=((i+1:Nat):Int):=wi64 (by omega)
 have okz:okSz 27 (l.map Guard.r)=true:=y1m (f:=Guard.r) (k:=27) (fun _=>rfl) l
 have ge:(l.map Guard.r)[i]? =some g.r:=by rw [List.getElem?_map,gd];rfl
 obtain ⟨c0,c1,c2,c3,c4,c5,c6,c7,c8,c9,c10,c11,c12,c13,c14,c15,c16,c17,c18,c19,c20,c21,c22,c23,eb,ec⟩:=yac g
 rw [eb] at hc
 rw [ec] at ge
 refine ⟨upd (upd ob (nx+5) (.box [.int .u8 0,.int .u8 0,.bool false,.nils,.bool false,.nils,.bool false,.nils,.bool false,.nils,.bool false,.nils,.bool false,.nils,.bool false,.nils,.bool false,.nils,.bool false,.nils,.bool false,.nils,.bool false,.nils,.bool false,.nils,.int .i64 0])) (nx+5) (.box [.int .u8 (g.from_:Int),.int .u8 (g.to:Int),c0,c1,c2,c3,c4,c5,c6,c7,c8,c9,c10,c11,c12,c13,c14,c15,c16,c17,c18,c19,c20,c21,c22,c23,.int .i64 g.hold]),fun id h=>by rw [y00 (by omega),y00 (by omega)], ?_⟩
 unfold badG
 generalize g.from_=fr at*
 generalize g.to=to at*
 generalize rightBx g.box=rb at*
 generalize g.hold=ho at*
 have q1:(((fr:Nat):Int)>4)=(5≤fr):=by rw [eq_iff_iff];omega
 have q2:(((to:Nat):Int)>4)=(5≤to):=by rw [eq_iff_iff];omega
 have q3:(((fr:Nat):Int)==((to:Nat):Int))=decide (fr=to):=by
  by_cases h:fr=to
  ·subst h;simp
  ·rw [decide_eq_false h];simp only [beq_eq_false_iff_ne,ne_eq];omega
 by_cases p1:5≤fr
 ·simp only [go_sem,Fn.y2m,List.length_map,o0,h1,ge,okz,hc,q1,p1]
 by_cases p2:5≤to
 ·simp only [go_sem,Fn.y2m,List.length_map,o0,h1,ge,okz,hc,q1,q2,p1,p2]
 by_cases p3:fr=to
 ·have p3':(fr=to)=True:=eq_true p3
  simp only [go_sem,Fn.y2m,List.length_map,o0,h1,ge,okz,hc,q1,q2,q3,p1,p2,p3']
 cases rb with
 | false=>simp only [go_sem,Fn.y2m,List.length_map,o0,h1,ge,okz,hc,q1,q2,q3,p1,p2,p3]
 | true=>
  by_cases p4:ho<1
  ·simp only [go_sem,Fn.y2m,List.length_map,o0,h1,ge,okz,hc,q1,q2,q3,p1,p2,p3,p4]
  by_cases p5:ho>8
  ·simp only [go_sem,Fn.y2m,List.length_map,o0,h1,ge,okz,hc,q1,q2,q3,p1,p2,p3,p4,p5]
  ·simp only [go_sem,Fn.y2m,List.length_map,o0,h1,ge,okz,hc,q1,q2,q3,p1,p2,p3,p4,p5,add1,wk]
theorem yfy {n:Nat} (l:List Guard) (w1 w2 s0 s1 s2 s3:AV) (hl:l.length<2^20) (hc:∀g∈l,∀(ob:Nat→Option AObj) (fz:Nat→Nat),callV (evF E n) Id.y17 [.agg g.box.r] ob fz=some (.fzd fz (.one (.bool (rightBx g.box))))):∀(m i:Nat),i+m=l.length→∀(ob:Nat→Option AObj) (nx:Nat) (X:List (Nat×SV)) (N:Nat),0<nx→ob 0=some (.box [.sl false (l.map Guard.r),w1,w2,s0,s1,s2,s3])→m<N→
  ∃(ob':Nat→Option AObj) (nx':Nat) (X':List (Nat×SV)),(∀id,id<nx→ob' id=ob id)∧nx≤nx'∧((l.drop i).any badG=true→loopN (evC (evF E n) n Fn.y2m) N ⟨env ((1,.one (.box 0 0))::(3,.one (.int .i64 (i:Int)))::X),ob,fz0,nx⟩=
   some (.ret,⟨env ((2,.one (.bool false))::X'),ob',fz0,nx'⟩))∧((l.drop i).any badG=false→loopN (evC (evF E n) n Fn.y2m) N ⟨env ((1,.one (.box 0 0))::(3,.one (.int .i64 (i:Int)))::X),ob,fz0,nx⟩=some (.ext 0,⟨env ((1,.one (.box 0 0))::X'),ob',fz0,nx'⟩))
 | 0,i,hi,ob,nx,X,N+1,hnx,o0,hN=>by
  have hi':i=l.length:=by omega
  subst hi'
  rw [List.drop_length,List.any_nil]
  have h1:(((l.length:Nat):Int)<((l.length:Nat):Int))=False:=by simp
  refine ⟨ob,nx,[(3,.one (.int .i64 (l.length:Int))),(32,.one (.bool false))],fun _ _=>rfl,Nat.le_refl _,fun h=>by simp at h,fun _=>y06 ?_⟩
  simp only [go_sem,Fn.y2m,List.length_map,o0,h1]
 | m+1,i,hi,ob,nx,X,N+1,hnx,o0,hN=>by
  have hil:i<l.length:=by omega
  obtain ⟨ob1,hf,hr⟩:=yof (ob:=ob) (nx:=nx) (i:=i) hnx l w1 w2 s0 s1 s2 s3 o0 hl l[i] (by simp) hil (hc _ (by simp)) X
  rw [List.drop_eq_getElem_cons hil,List.any_cons]
  by_cases hb:badG l[i]=true
  ·rw [if_pos hb] at hr
   rw [hb,Bool.true_or]
   exact ⟨ob1,nx+7,[],hf,by omega,fun _=>y34 hr,fun h=>by simp at h⟩
  ·rw [if_neg hb] at hr
   rw [Bool.not_eq_true] at hb
   rw [hb,Bool.false_or]
   obtain ⟨ob',nx',X',hf',hle,h,h'⟩:=yfy l w1 w2 s0 s1 s2 s3 hl hc m (i+1) (by omega) ob1 (nx+7) [] N (by omega) (by rw [hf 0 hnx];exact o0) (by omega)
   exact ⟨ob',nx',X',fun id h=>by rw [hf' id (by omega),hf id h],by omega,fun e=>by rw [y05 hr];exact h e,fun e=>by rw [y05 hr];exact h' e⟩
end Go.Ev
namespace Go.Ev
open Go.Dig
theorem yck (a:Rat) {S:Nat} (ha:SmQ S a) (hS:S<2^36):Calling Id.y0u [.agg (rC a)] (.one (.int .i64 (signI a.num))):=
 (Ends.of (S+20) fun {n} hn=>yk2 a (RQ.self a) ha hS hn:Ends Id.y0u [.agg (rC a)] (.one (.int .i64 (signI a.num)))).call (can1 (y8y a))
set_option maxRecDepth 100000 in
theorem you {n:Nat} {ob:Nat→Option AObj} {nx i:Nat} (C:List (List Pt)) (L:List Pt) (w0 s0 s1 s2 s3:AV) (o0:ob 0=some (.box [w0,.sl false (C.map fun s=>[.sl false (s.map Pt.r)]),.sl false (L.map Pt.r),s0,s1,s2,s3])) (hi:i<5) (c:List Pt) (p:Pt) (gc:C[i]? =some c) (gp:L[i]? =some p)
  (k0:∀(ob:Nat→Option AObj) (fz:Nat→Nat),callV (evF E n) Id.y0o [.one (.sl false (c.map Pt.r))] ob fz=some (.fzd fz (.one (.bool (rightC c)))))
  (k1:∀(ob:Nat→Option AObj) (fz:Nat→Nat),callV (evF E n) Id.y0u [.agg (rC p.x)] ob fz=some (.fzd fz (.one (.int .i64 (signI p.x.num)))))
  (k2:∀(ob:Nat→Option AObj) (fz:Nat→Nat),callV (evF E n) Id.y0u [.agg (rC p.z)] ob fz=some (.fzd fz (.one (.int .i64 (signI p.z.num))))) (X:List (Nat×SV)):
  evC (evF E n) n Fn.y4g ⟨env ((1,.one (.box 0 0))::(5,.one (.int .i64 (i:Int)))::X),ob,fz0,nx⟩=
   if (badC c || badL p)=true then some (.ret,⟨env [(2,.one (.bool false))],ob,fz0,nx⟩) else some (.nrm,⟨env [(1,.one (.box 0 0)),(5,.one (.int .i64 ((i+1:Nat):Int)))],ob,fz0,nx⟩):=by
 have h1:(((i:Nat):Int)<5)=True:=by simp;omega
 have wk:IntKind.i64.wrap ((i+1:Nat):Int)=((i+1:Nat):Int):=wi64 (by omega)
 have okc:okSz 1 (C.map fun s=>[AV.sl false (s.map Pt.r)])=true:=y1m (f:=fun s=>[AV.sl false (s.map Pt.r)]) (k:=1) (fun _=>rfl) C
 have okl:okSz 8 (L.map Pt.r)=true:=y1m ya8 L
 have g1:(C.map fun s=>[AV.sl false (s.map Pt.r)])[i]? =some [.sl false (c.map Pt.r)]:=by rw [List.getElem?_map,gc];rfl
 obtain ⟨a1,a2,a3,a4,a5,a6,a7,a8,ea,eb,ec⟩:=y6d p
 have g2:(L.map Pt.r)[i]? =some [a1,a2,a3,a4,a5,a6,a7,a8]:=by rw [List.getElem?_map,gp,Option.map_some,ec]
 rw [ea] at k1
 rw [eb] at k2
 unfold badC badL
 generalize rightC c=rc at*
 generalize signI p.x.num=x at*
 generalize signI p.z.num=z at*
 cases rc with
 | false=>
  have e:(!false || (decide (x<0) || decide (z<0)))=true:=rfl
  rw [if_pos e]
  simp only [go_sem,Fn.y4g,h1,o0,okc,okl,g1,g2,k0]
 | true=>
  by_cases hx:x<0
  ·have e:(!true || (decide (x<0) || decide (z<0)))=true:=by rw [decide_eq_true hx];rfl
   rw [if_pos e]
   simp only [go_sem,Fn.y4g,h1,o0,okc,okl,g1,g2,k0,k1,hx]
  ·by_cases hz:z<0
   ·have e:(!true || (decide (x<0) || decide (z<0)))=true:=by rw [decide_eq_true hz,decide_eq_false hx];rfl
    rw [if_pos e]
    simp only [go_sem,Fn.y4g,h1,o0,okc,okl,g1,g2,k0,k1,k2,hx,hz]
   ·have e:¬(!true || (decide (x<0) || decide (z<0)))=true:=by rw [decide_eq_false hz,decide_eq_false hx];simp
    rw [if_neg e]
    simp only [go_sem,Fn.y4g,h1,o0,okc,okl,g1,g2,k0,k1,k2,hx,hz,add1,wk]
theorem yi8 {n:Nat} {ob:Nat→Option AObj} {nx:Nat} (C:List (List Pt)) (L:List Pt) (hC:C.length=5) (hL:L.length=5) (w0 s0 s1 s2 s3:AV) (o0:ob 0=some (.box [w0,.sl false (C.map fun s=>[.sl false (s.map Pt.r)]),.sl false (L.map Pt.r),s0,s1,s2,s3]))
  (k0:∀c∈C,∀(ob:Nat→Option AObj) (fz:Nat→Nat),callV (evF E n) Id.y0o [.one (.sl false (c.map Pt.r))] ob fz=some (.fzd fz (.one (.bool (rightC c)))))
  (k1:∀p∈L,∀(ob:Nat→Option AObj) (fz:Nat→Nat),callV (evF E n) Id.y0u [.agg (rC p.x)] ob fz=some (.fzd fz (.one (.int .i64 (signI p.x.num)))))
  (k2:∀p∈L,∀(ob:Nat→Option AObj) (fz:Nat→Nat),callV (evF E n) Id.y0u [.agg (rC p.z)] ob fz=some (.fzd fz (.one (.int .i64 (signI p.z.num))))):∀(m i:Nat),i+m=5→∀(X:List (Nat×SV)) (N:Nat),m<N→
  ∃X',loopN (evC (evF E n) n Fn.y4g) N ⟨env ((1,.one (.box 0 0))::(5,.one (.int .i64 (i:Int)))::X),ob,fz0,nx⟩=
   if ((C.drop i).any badC || (L.drop i).any badL)=true then some (.ret,⟨env ((2,.one (.bool false))::X'),ob,fz0,nx⟩) else some (.ext 2,⟨env ((1,.one (.box 0 0))::X'),ob,fz0,nx⟩)
 | 0,i,hi,X,N,hN=>by
  obtain ⟨N,rfl⟩:∃k,N=k+1:=⟨N-1,by omega⟩
  have e1:C.drop i=[]:=List.drop_eq_nil_of_le (by omega)
  have e2:L.drop i=[]:=List.drop_eq_nil_of_le (by omega)
  have h1:(((i:Nat):Int)<5)=False:=by simp;omega
  rw [e1,e2]
  refine ⟨[(5,.one (.int .i64 (i:Int))),(72,.one (.bool false))], ?_⟩
  rw [if_neg (by simp)]
  refine y06 ?_
  simp only [go_sem,Fn.y4g,h1]
 | m+1,i,hi,X,N,hN=>by
  obtain ⟨N,rfl⟩:∃k,N=k+1:=⟨N-1,by omega⟩
  have hr:=you (n:=n) (nx:=nx) (i:=i) C L w0 s0 s1 s2 s3 o0 (by omega) C[i] L[i] (by simp) (by simp) (k0 _ (by simp)) (k1 _ (by simp)) (k2 _ (by simp)) X
  rw [List.drop_eq_getElem_cons (show i<C.length by omega),List.drop_eq_getElem_cons (show i<L.length by omega),List.any_cons,List.any_cons]
  by_cases hb:(badC C[i] || badL L[i])=true
  ·rw [if_pos hb] at hr
   have e:(badC C[i] || (C.drop (i+1)).any badC || (badL L[i] || (L.drop (i+1)).any badL))=true:=by
    rcases Bool.or_eq_true_iff.1 hb with h | h<;>simp [h]
   refine ⟨[], ?_⟩
   rw [if_pos e]
   exact y34 hr
  ·rw [if_neg hb] at hr
   rw [y05 hr]
   obtain ⟨X',hX⟩:=yi8 C L hC hL w0 s0 s1 s2 s3 o0 k0 k1 k2 m (i+1) (by omega) [] N (by omega)
   rw [Bool.not_eq_true,Bool.or_eq_false_iff] at hb
   rw [hb.1,hb.2,Bool.false_or,Bool.false_or]
   exact ⟨X',hX⟩
theorem y8h {α:Type} {f:FuncId} {a:α→List SV} {r:α→SV}:∀(l:List α),(∀x∈l,Calling f (a x) (r x))→∃N,∀n,N≤n→∀x∈l,∀(ob:Nat→Option AObj) (fz:Nat→Nat),callV (evF E n) f (a x) ob fz=some (.fzd fz (r x))
 | [],h=>⟨0,fun _ _ _ h=>by simp at h⟩
 | x::l,h=>by
  obtain ⟨N1,h1⟩:=h x (by simp)
  obtain ⟨N2,h2⟩:=y8h l fun y hy=>h y (by simp [hy])
  refine ⟨N1+N2,fun n hn y hy=> ?_⟩
  rcases List.mem_cons.1 hy with rfl | e
  ·exact h1 n (by omega)
  ·exact h2 n (by omega) y e
set_option maxRecDepth 100000 in
theorem yow (d:Dev) (h:SmDev d):Ends Id.y10 [.agg d.r] (.one (.bool (rightD d))):=by
 obtain ⟨N1,k1⟩:=yck d.step h.st (by decide)
 obtain ⟨N2,k2⟩:=y8h d.guards fun g hg=>ysf g.box (h.gs g hg).box
 obtain ⟨N3,k3⟩:=y8h d.curves fun c hc=>ynr c (Nat.lt_trans (h.cll c hc) (by decide)) (h.cs c hc)
 obtain ⟨N4,k4⟩:=y8h d.limits fun p hp=>yck p.x (h.ls p hp).x (by decide)
 obtain ⟨N5,k5⟩:=y8h d.limits fun p hp=>yck p.z (h.ls p hp).z (by decide)
 refine .of (N1+N2+N3+N4+N5+d.guards.length+6) fun {n} hn=> ?_
 have k1:=k1 n (by omega)
 have k2:=k2 n (by omega)
 have k3:=k3 n (by omega)
 have k4:=k4 n (by omega)
 have k5:=k5 n (by omega)
 rw [y02 yde]
 have hgl:=h.gl
 unfold rightD Dev.r
 obtain ⟨a1,a2,a3,a4,ea⟩:=rC4 d.step
 rw [ea] at k1 ⊢
 generalize signI d.step.num=sg at*
 have q1:(((d.guards.length:Nat):Int)>16)=(16<d.guards.length):=by rw [eq_iff_iff];omega
 have q2:(((d.curves.length:Nat):Int) !=5)=decide (d.curves.length≠5):=by
  by_cases h:d.curves.length=5
  ·simp [h]
  ·rw [decide_eq_true h];simp only [bne_iff_ne,ne_eq];omega
 have q3:(((d.limits.length:Nat):Int) !=5)=decide (d.limits.length≠5):=by
  by_cases h:d.limits.length=5
  ·simp [h]
  ·rw [decide_eq_true h];simp only [bne_iff_ne,ne_eq];omega
 by_cases p1:16<d.guards.length
 ·simp only [go_sem,Fn.y10,List.length_map,q1,p1]
 by_cases p2:d.curves.length≠5
 ·rw [decide_eq_true p2] at q2 ⊢
  simp only [go_sem,Fn.y10,List.length_map,q1,q2,p1]
 rw [decide_eq_false p2] at q2 ⊢
 by_cases p3:d.limits.length≠5
 ·rw [decide_eq_true p3] at q3 ⊢
  simp only [go_sem,Fn.y10,List.length_map,q1,q2,q3,p1]
 rw [decide_eq_false p3] at q3 ⊢
 by_cases p4:sg≤0
 ·simp only [go_sem,Fn.y10,List.length_map,q1,q2,q3,p1,k1,p4]
 have e:(!(decide (16<d.guards.length) || (false || (false || decide (sg≤0))))&&(!d.guards.any badG&&(!d.curves.any badC&& !d.limits.any badL)))=(!d.guards.any badG&&(!d.curves.any badC&& !d.limits.any badL)):=by
  rw [decide_eq_false p1,decide_eq_false p4];rfl
 rw [e]
 obtain ⟨ob,hob⟩:∃o,o=upd ob0 0 (.box [.sl false (d.guards.map Guard.r),.sl false (d.curves.map fun s=>[.sl false (s.map Pt.r)]),.sl false (d.limits.map Pt.r),a1,a2,a3,a4]):=⟨_,rfl⟩
 have o0:ob 0=some (.box [.sl false (d.guards.map Guard.r),.sl false (d.curves.map fun s=>[.sl false (s.map Pt.r)]),.sl false (d.limits.map Pt.r),a1,a2,a3,a4]):=by rw [hob];exact upd_same _ _ _
 obtain ⟨ob',nx',X',hf,hle,hl,hl'⟩:=yfy (n:=n) d.guards (.sl false (d.curves.map fun s=>[.sl false (s.map Pt.r)])) (.sl false (d.limits.map Pt.r)) a1 a2 a3 a4 hgl k2 d.guards.length 0 (by omega) ob 2 [] n (by omega) o0 (by omega)
 rw [show ((0:Nat):Int)=0 from rfl,List.drop_zero] at hl hl'
 have o0':=(hf 0 (by omega)).trans o0
 cases hg:d.guards.any badG with
 | true=>
  have hl:=hl hg
  simp only [go_sem,Fn.y10,List.length_map,q1,q2,q3,p1,k1,p4,←hob,o0,hl]
 | false=>
  have hl:=hl' hg
  obtain ⟨X2,hL⟩:=yi8 (n:=n) (nx:=nx') d.curves d.limits (by omega) (by omega) (.sl false (d.guards.map Guard.r)) a1 a2 a3 a4 o0' k3 k4 k5 5 0 (by omega) [] n (by omega)
  rw [show ((0:Nat):Int)=0 from rfl,List.drop_zero,List.drop_zero] at hL
  cases hc:d.curves.any badC with
  | true=>
   rw [hc,Bool.true_or,if_pos rfl] at hL
   simp only [go_sem,Fn.y10,List.length_map,q1,q2,q3,p1,k1,p4,←hob,o0,hl,hL]
  | false=>
   rw [hc,Bool.false_or] at hL
   cases hm:d.limits.any badL with
   | true=>
    rw [hm,if_pos rfl] at hL
    simp only [go_sem,Fn.y10,List.length_map,q1,q2,q3,p1,k1,p4,←hob,o0,hl,hL]
   | false=>
    rw [hm,if_neg (by simp)] at hL
    simp only [go_sem,Fn.y10,List.length_map,q1,q2,q3,p1,k1,p4,←hob,o0,hl,hL]
theorem yoh (d:Dev) (h:SmDev d):Calling Id.y10 [.agg d.r] (.one (.bool (rightD d))):=(yow d h).call (can1 (CanL.devr d).agg)
end Go.Ev
namespace Go.Ev
open Go.Dig
set_option maxRecDepth 100000 in
set_option maxHeartbeats 1000000 in
theorem ywg (b:Bx) (s:Samp) (h:SmBx b) (hs:SmSamp s):Ends Id.y39 [.agg b.r,.agg s.r] (.one (.bool (hasBx b s))):=by
 obtain ⟨N,hN⟩:=ycb 256 (by decide)
 refine .of (N+5) fun {n} hn=> ?_
 have k0:=hN s.load b.low.load _ _ (RQ.self _) (RQ.self _) hs.load h.low.load n (by omega)
 have j0:=hN s.load b.high.load _ _ (RQ.self _) (RQ.self _) hs.load h.high.load n (by omega)
 have k1:=hN s.angle b.low.angle _ _ (RQ.self _) (RQ.self _) hs.angle h.low.angle n (by omega)
 have j1:=hN s.angle b.high.angle _ _ (RQ.self _) (RQ.self _) hs.angle h.high.angle n (by omega)
 have k2:=hN s.speed b.low.speed _ _ (RQ.self _) (RQ.self _) hs.speed h.low.speed n (by omega)
 have j2:=hN s.speed b.high.speed _ _ (RQ.self _) (RQ.self _) hs.speed h.high.speed n (by omega)
 rw [y02 yi9]
 unfold hasBx amongB
 rw [yjv]
 unfold Samp.r
 obtain ⟨a0,a1,a2,a3,e0⟩:=rC4 b.low.load
 obtain ⟨b0,b1,b2,b3,f0⟩:=rC4 b.high.load
 obtain ⟨s0,s1,s2,s3,g0⟩:=rC4 s.load
 rw [e0,g0] at k0
 rw [f0,g0] at j0
 obtain ⟨a4,a5,a6,a7,e1⟩:=rC4 b.low.angle
 obtain ⟨b4,b5,b6,b7,f1⟩:=rC4 b.high.angle
 obtain ⟨s4,s5,s6,s7,g1⟩:=rC4 s.angle
 rw [e1,g1] at k1
 rw [f1,g1] at j1
 obtain ⟨a8,a9,a10,a11,e2⟩:=rC4 b.low.speed
 obtain ⟨b8,b9,b10,b11,f2⟩:=rC4 b.high.speed
 obtain ⟨s8,s9,s10,s11,g2⟩:=rC4 s.speed
 rw [e2,g2] at k2
 rw [f2,g2] at j2
 rw [e0,e1,e2,f0,f1,f2,g0,g1,g2]
 generalize cmpQ s.load b.low.load=c0 at*
 generalize cmpQ s.load b.high.load=d0 at*
 generalize cmpQ s.angle b.low.angle=c1 at*
 generalize cmpQ s.angle b.high.angle=d1 at*
 generalize cmpQ s.speed b.low.speed=c2 at*
 generalize cmpQ s.speed b.high.speed=d2 at*
 obtain ⟨m,rfl⟩:∃m,n=m+4:=⟨n-4,by omega⟩
 have nz:Ev.natOf 0=some 0:=rfl
 have n1:Ev.natOf 1=some 1:=rfl
 have n2:Ev.natOf 2=some 2:=rfl
 have l0:((0:Int)<3)=True:=by simp
 have l1:((1:Int)<3)=True:=by simp
 have l2:((2:Int)<3)=True:=by simp
 have l3:((3:Int)<3)=False:=by simp
 have w1:IntKind.i64.wrap (0+1)=1:=rfl
 have w2:IntKind.i64.wrap (1+1)=2:=rfl
 have w3:IntKind.i64.wrap (2+1)=3:=rfl
 obtain ⟨ob,hob⟩:∃o,o=upd (upd ob0 0 (.box [a0,a1,a2,a3,a4,a5,a6,a7,a8,a9,a10,a11,b0,b1,b2,b3,b4,b5,b6,b7,b8,b9,b10,b11])) 1 (.box [s0,s1,s2,s3,s4,s5,s6,s7,s8,s9,s10,s11]):=⟨_,rfl⟩
 have o0:ob 0=some (.box [a0,a1,a2,a3,a4,a5,a6,a7,a8,a9,a10,a11,b0,b1,b2,b3,b4,b5,b6,b7,b8,b9,b10,b11]):=by rw [hob,y00 (by decide)];exact upd_same _ _ _
 have o1:ob 1=some (.box [s0,s1,s2,s3,s4,s5,s6,s7,s8,s9,s10,s11]):=by rw [hob];exact upd_same _ _ _
 have fin:∀X,evC (evF E (m+4)) (m+4) Fn.y1x ⟨env ((2,.one (.box 0 0))::(3,.one (.box 1 0))::(5,.one (.int .i64 3))::X),ob,fz0,3⟩=some (.ext 0,⟨env [(2,.one (.box 0 0)),(3,.one (.box 1 0)),(5,.one (.int .i64 3)),(7,.one (.bool false))],ob,fz0,3⟩):=fun X=>by
  simp only [go_sem,Fn.y1x,l3]
 have r0:∀X,evC (evF E (m+4)) (m+4) Fn.y1x ⟨env ((2,.one (.box 0 0))::(3,.one (.box 1 0))::(5,.one (.int .i64 0))::X),ob,fz0,3⟩=if c0≥0∧d0≤0 then some (.nrm,⟨env [(2,.one (.box 0 0)),(3,.one (.box 1 0)),(5,.one (.int .i64 1))],ob,fz0,3⟩) else some (.ret,⟨env [(4,.one (.bool false))],ob,fz0,3⟩):=fun X=>by
  by_cases hc:c0<0
  ·rw [if_neg (fun h=>by omega)]
   simp only [go_sem,Fn.y1x,l0,nz,o0,o1,k0,j0,hc]
  ·by_cases hd:d0>0
   ·rw [if_neg (fun h=>by omega)]
    simp only [go_sem,Fn.y1x,l0,nz,o0,o1,k0,j0,hc,hd]
   ·rw [if_pos ⟨by omega,by omega⟩]
    simp only [go_sem,Fn.y1x,l0,nz,o0,o1,k0,j0,hc,hd,w1]
 have r1:∀X,evC (evF E (m+4)) (m+4) Fn.y1x ⟨env ((2,.one (.box 0 0))::(3,.one (.box 1 0))::(5,.one (.int .i64 1))::X),ob,fz0,3⟩=if c1≥0∧d1≤0 then some (.nrm,⟨env [(2,.one (.box 0 0)),(3,.one (.box 1 0)),(5,.one (.int .i64 2))],ob,fz0,3⟩) else some (.ret,⟨env [(4,.one (.bool false))],ob,fz0,3⟩):=fun X=>by
  by_cases hc:c1<0
  ·rw [if_neg (fun h=>by omega)]
   simp only [go_sem,Fn.y1x,l1,n1,o0,o1,k1,j1,hc]
  ·by_cases hd:d1>0
   ·rw [if_neg (fun h=>by omega)]
    simp only [go_sem,Fn.y1x,l1,n1,o0,o1,k1,j1,hc,hd]
   ·rw [if_pos ⟨by omega,by omega⟩]
    simp only [go_sem,Fn.y1x,l1,n1,o0,o1,k1,j1,hc,hd,w2]
 have r2:∀X,evC (evF E (m+4)) (m+4) Fn.y1x ⟨env ((2,.one (.box 0 0))::(3,.one (.box 1 0))::(5,.one (.int .i64 2))::X),ob,fz0,3⟩=if c2≥0∧d2≤0 then some (.nrm,⟨env [(2,.one (.box 0 0)),(3,.one (.box 1 0)),(5,.one (.int .i64 3))],ob,fz0,3⟩) else some (.ret,⟨env [(4,.one (.bool false))],ob,fz0,3⟩):=fun X=>by
  by_cases hc:c2<0
  ·rw [if_neg (fun h=>by omega)]
   simp only [go_sem,Fn.y1x,l2,n2,o0,o1,k2,j2,hc]
  ·by_cases hd:d2>0
   ·rw [if_neg (fun h=>by omega)]
    simp only [go_sem,Fn.y1x,l2,n2,o0,o1,k2,j2,hc,hd]
   ·rw [if_pos ⟨by omega,by omega⟩]
    simp only [go_sem,Fn.y1x,l2,n2,o0,o1,k2,j2,hc,hd,w3]
 have hloop:loopN (evC (evF E (m+4)) (m+4) Fn.y1x) (m+4) ⟨env [(2,.one (.box 0 0)),(3,.one (.box 1 0)),(5,.one (.int .i64 0))],ob,fz0,3⟩=
   if (c0≥0∧d0≤0)∧(c1≥0∧d1≤0)∧(c2≥0∧d2≤0) then some (.ext 0,⟨env [(2,.one (.box 0 0)),(3,.one (.box 1 0)),(5,.one (.int .i64 3)),(7,.one (.bool false))],ob,fz0,3⟩) else some (.ret,⟨env [(4,.one (.bool false))],ob,fz0,3⟩):=by
  by_cases h0:c0≥0∧d0≤0
  ·have q0:=r0 []
   rw [if_pos h0] at q0
   rw [y05 q0]
   by_cases h1:c1≥0∧d1≤0
   ·have q1:=r1 []
    rw [if_pos h1] at q1
    rw [y05 q1]
    by_cases h2:c2≥0∧d2≤0
    ·have q2:=r2 []
     rw [if_pos h2] at q2
     rw [y05 q2,y06 (fin []),if_pos ⟨h0,h1,h2⟩]
    ·have q2:=r2 []
     rw [if_neg h2] at q2
     rw [y34 q2,if_neg (fun h=>h2 h.2.2)]
   ·have q1:=r1 []
    rw [if_neg h1] at q1
    rw [y34 q1,if_neg (fun h=>h1 h.2.1)]
  ·have q0:=r0 []
   rw [if_neg h0] at q0
   rw [y34 q0,if_neg (fun h=>h0 h.1)]
 have e:(decide (c0≥0)&&decide (d0≤0)&&(decide (c1≥0)&&decide (d1≤0)&&(decide (c2≥0)&&decide (d2≤0))))=decide ((c0≥0∧d0≤0)∧(c1≥0∧d1≤0)∧(c2≥0∧d2≤0)):=by
  rw [Bool.eq_iff_iff]
  simp only [Bool.and_eq_true,decide_eq_true_eq]
 rw [e]
 by_cases hall:(c0≥0∧d0≤0)∧(c1≥0∧d1≤0)∧(c2≥0∧d2≤0)
 ·rw [if_pos hall] at hloop
  rw [decide_eq_true hall]
  simp only [go_sem,Fn.y39,←hob,hloop]
 ·rw [if_neg hall] at hloop
  rw [decide_eq_false hall]
  simp only [go_sem,Fn.y39,←hob,hloop]
theorem yxl (b:Bx) (s:Samp) (h:SmBx b) (hs:SmSamp s):Calling Id.y39 [.agg b.r,.agg s.r] (.one (.bool (hasBx b s))):=(ywg b s h hs).call (can2 (CanL.bxr b).agg (CanL.sampr s).agg)
end Go.Ev
namespace Go.Ev
theorem yjr {a b c:Rat} (h:a<b) (k:b<c):a<c:=by grind
theorem yso {a b c:Rat} (h:a<b) (k:b≤c):a<c:=by grind
theorem y9n:∀(l:List Pt) (k:Nat),k+1<l.length→incC l=true→(ptAt l k).x<(ptAt l (k+1)).x:=by
 intro l k h hi
 have h1:=ycn l k h hi
 unfold ptAt
 rw [List.getElem?_eq_getElem (by omega),List.getElem?_eq_getElem h]
 rw [yab] at h1
 exact h1
theorem yq4 {l:List Pt} (hi:incC l=true):∀(m i:Nat),i+1+m<l.length→(ptAt l i).x<(ptAt l (i+1+m)).x
 | 0,i,h=>y9n l i h hi
 | m+1,i,h=>yjr (yq4 hi m i (by omega)) (y9n l (i+1+m) h hi)
theorem ybz {l:List Pt} (hi:incC l=true) {i j:Nat} (h:i<j) (hj:j<l.length):(ptAt l i).x<(ptAt l j).x:=by
 have:=yq4 hi (j-i-1) i (by omega)
 rw [show i+1+(j-i-1)=j by omega] at this
 exact this
theorem yjd {l:List Pt} (hi:incC l=true) (q:Rat):∀(m lo hh:Nat),hh≤lo+m→lo≤hh→hh≤l.length→(∀i,i<lo→(ptAt l i).x<q)→(∀i,hh≤i→i<l.length→q≤(ptAt l i).x)→
  (∀i,i<bs l q m lo hh→(ptAt l i).x<q)∧∀i,bs l q m lo hh≤i→i<l.length→q≤(ptAt l i).x
 | 0,lo,hh,hm,h1,h2,h3,h4=>by
  have:lo=hh:=by omega
  subst this
  exact ⟨h3,h4⟩
 | m+1,lo,hh,hm,h1,h2,h3,h4=>by
  unfold bs
  by_cases hlt:lo<hh
  ·rw [if_pos hlt]
   have hp:((l[(lo+hh) / 2]?).getD ⟨0,0⟩).x=(ptAt l ((lo+hh) / 2)).x:=rfl
   rw [hp]
   have hcq:=yab (ptAt l ((lo+hh) / 2)).x q
   by_cases hc:cmpQ (ptAt l ((lo+hh) / 2)).x q<0
   ·rw [if_pos hc]
    rw [hcq] at hc
    refine yjd hi q m _ hh (by omega) (by omega) h2 (fun i hi'=> ?_) h4
    rcases Nat.lt_or_ge i ((lo+hh) / 2) with h | h
    ·exact yjr (ybz hi h (by omega)) hc
    ·have:i=(lo+hh) / 2:=by omega
     subst this;exact hc
   ·rw [if_neg hc]
    rw [hcq] at hc
    refine yjd hi q m lo _ (by omega) (by omega) (by omega) h3 (fun i hi' hl=> ?_)
    have hc':=Rat.not_lt.1 hc
    rcases Nat.lt_or_ge ((lo+hh) / 2) i with h | h
    ·exact Rat.le_of_lt (by have:=ybz hi h hl;grind)
    ·have:i=(lo+hh) / 2:=by omega
     subst this;exact hc'
  ·rw [if_neg hlt]
   have:lo=hh:=by omega
   subst this
   exact ⟨h3,h4⟩
theorem yqs {l:List Pt} (hi:incC l=true) (q:Rat):(∀i,i<place l q→(ptAt l i).x<q)∧∀i,place l q≤i→i<l.length→q≤(ptAt l i).x:=
 yjd hi q l.length 0 l.length (by omega) (Nat.zero_le _) (Nat.le_refl _) (fun i h=>by omega) (fun i h h'=>by omega)
def AtS (l:List Pt) (q v:Rat):Prop:=
 (q≤(ptAt l 0).x∧v=(ptAt l 0).z)∨((ptAt l (l.length-1)).x≤q∧v=(ptAt l (l.length-1)).z)∨
 ∃i,i+1<l.length∧(ptAt l i).x≤q∧q≤(ptAt l (i+1)).x∧(v-(ptAt l i).z)*((ptAt l (i+1)).x-(ptAt l i).x)=(q-(ptAt l i).x)*((ptAt l (i+1)).z-(ptAt l i).z)
theorem ytt (l:List Pt) (q:Rat):atQ l q=if place l q=l.length then (ptAt l (l.length-1)).z else if place l q=0 then (ptAt l 0).z else if (ptAt l (place l q)).x=q then (ptAt l (place l q)).z else
  (ptAt l (place l q-1)).z*(1-shareQ l q (place l q))+(ptAt l (place l q)).z*shareQ l q (place l q):=by
 have e1:Rat.ofInt 1=1:=rfl
 unfold atQ partsL
 rw [e1]
 have hcq:=yys (ptAt l (place l q)).x q
 by_cases h1:place l q=l.length
 ·rw [if_pos h1,if_pos h1,h1];simp only [List.foldl_cons,List.foldl_nil];grind
 ·rw [if_neg h1,if_neg h1]
  by_cases h2:place l q=0
  ·rw [if_pos h2,if_pos h2,h2];simp only [List.foldl_cons,List.foldl_nil];grind
  ·rw [if_neg h2,if_neg h2]
   by_cases h3:cmpQ (ptAt l (place l q)).x q=0
   ·rw [if_pos h3,if_pos (by rw [←hcq];exact h3)];simp only [List.foldl_cons,List.foldl_nil];grind
   ·rw [if_neg h3,if_neg (by rw [←hcq];exact h3)];simp only [List.foldl_cons,List.foldl_nil];grind
theorem at_eq {l:List Pt} (hi:incC l=true) (h1:1≤l.length) {q v:Rat} (h:AtS l q v):v=atQ l q:=by
 obtain ⟨g1,g2⟩:=yqs hi q
 have hle:=ycp l q
 rw [ytt]
 generalize place l q=k at*
 rcases h with ⟨h2,rfl⟩ | ⟨h2,rfl⟩ | ⟨i,h2,h3,h4,h5⟩
 ·have hk:k=0:=by
   rcases Nat.eq_zero_or_pos k with h | h
   ·exact h
   ·exact absurd (g1 0 h) (Rat.not_lt.2 h2)
  subst hk
  rw [if_neg (by omega),if_pos rfl]
 ·by_cases hk:k=l.length
  ·rw [if_pos hk]
  ·have h3:=g2 k (Nat.le_refl _) (by omega)
   have hk':k=l.length-1:=by
    rcases Nat.lt_or_ge k (l.length-1) with h | h
    ·have:=ybz hi h (by omega)
     exact absurd (yso this h2) (Rat.not_lt.2 h3)
    ·omega
   rw [if_neg hk,←hk']
   have hx:(ptAt l k).x=q:=Rat.le_antisymm (by rw [hk'];exact h2) h3
   by_cases h0:k=0
   ·rw [if_pos h0,h0]
   ·rw [if_neg h0,if_pos hx]
 ·have hx:=y9n l i h2 hi
  have a1:k≤i+1:=by
   rcases Nat.lt_or_ge (i+1) k with h | h
   ·exact absurd (g1 (i+1) h) (Rat.not_lt.2 h4)
   ·exact h
  have a2:i≤k:=by
   rcases Nat.lt_or_ge k i with h | h
   ·have h6:=ybz hi h (by omega)
    have h7:=g2 k (Nat.le_refl _) (by omega)
    exact absurd (yso h6 h3) (Rat.not_lt.2 h7)
   ·exact h
  rw [if_neg (by omega)]
  have cancel:∀a b c:Rat,c≠0→a*c=b*c→a=b:=fun a b c hc h=>by
   have:(a-b)*c=0:=by grind
   rcases Rat.mul_eq_zero.1 this with h | h
   ·grind
   ·exact absurd h hc
  have hd:(ptAt l (i+1)).x-(ptAt l i).x≠0:=by grind
  rcases Nat.lt_or_ge i k with h | h
  ·have hk:k=i+1:=by omega
   subst hk
   rw [if_neg (by omega)]
   have h6:=g1 i (by omega)
   by_cases hq:(ptAt l (i+1)).x=q
   ·rw [if_pos hq]
    refine cancel _ _ _ hd ?_
    grind
   ·rw [if_neg hq]
    unfold shareQ
    rw [Nat.add_sub_cancel]
    refine cancel _ _ _ hd ?_
    have hs:(q-(ptAt l i).x) / ((ptAt l (i+1)).x-(ptAt l i).x)*((ptAt l (i+1)).x-(ptAt l i).x)=q-(ptAt l i).x:=Rat.div_mul_cancel hd
    generalize (q-(ptAt l i).x) / ((ptAt l (i+1)).x-(ptAt l i).x)=s at*
    grind
  ·have hk:k=i:=by omega
   subst hk
   have h6:=g2 k (Nat.le_refl _) (by omega)
   have hq:(ptAt l k).x=q:=Rat.le_antisymm h3 h6
   have hv:v=(ptAt l k).z:=by
    refine cancel _ _ _ hd ?_
    grind
   by_cases h0:k=0
   ·rw [if_pos h0,hv,h0]
   ·rw [if_neg h0,if_pos hq,hv]
end Go.Ev
namespace Go.Ev
open Go.Dig
theorem y9a {l:List Pt} {k:Nat} (h:k<l.length):l[k]? =some (ptAt l k):=by
 unfold ptAt
 rw [List.getElem?_eq_getElem h];rfl
set_option maxRecDepth 100000 in
theorem yyn {n ba:Nat} {ob:Nat→Option AObj} {fz:Nat→Nat} {nx:Nat} (c:List Pt) (q:Rat) (hl:c.length<2^40) (hb:ba<nx) (ob1:ob ba=some (.box (rC q))) (hc:∀k,k<c.length→∀(ob:Nat→Option AObj) (fz:Nat→Nat),callV (evF E n) Id.y0l [.agg (rC (ptAt c k).x),.agg (rC q)] ob fz=some (.fzd fz (.one (.int .i64 (cmpQ (ptAt c k).x q)))))
  (hlast:¬cmpQ (ptAt c (c.length-1)).x q≤0) (v5:SV):∀(m k:Nat),k+2+m=c.length→∀(X:List (Nat×SV)) (N:Nat),m<N→
  ∃k' X',k≤k'∧k'+1<c.length∧(∀j,k≤j→j<k'→cmpQ (ptAt c (j+1)).x q≤0)∧¬cmpQ (ptAt c (k'+1)).x q≤0∧
   loopN (evC (evF E n) n Fn.y5b) N ⟨env ((0,.one (.sl false (c.map Pt.r)))::(3,.one (.box ba 0))::(5,v5)::(7,.one (.int .i64 (k:Int)))::X),ob,fz,nx⟩=
    some (.ext 0,⟨env ((0,.one (.sl false (c.map Pt.r)))::(3,.one (.box ba 0))::(5,v5)::(7,.one (.int .i64 (k':Int)))::X'),ob,fz,nx⟩):=by
 have okz:okSz 8 (c.map Pt.r)=true:=y1m ya8 c
 obtain ⟨s0,s1,s2,s3,es⟩:=rC4 q
 rw [es] at ob1
 have lb:∀k,(ba<nx+k)=True:=fun k=>by simp only [eq_iff_iff,iff_true];omega
 have lb0:(ba<nx)=True:=by simp only [eq_iff_iff,iff_true];omega
 intro m
 induction m with
 | zero=>
  intro k hk X N hN
  obtain ⟨N,rfl⟩:∃j,N=j+1:=⟨N-1,by omega⟩
  have hk1:k+1<c.length:=by omega
  have e:c.length-1=k+1:=by omega
  rw [e] at hlast
  have hcc:=hc (k+1) hk1
  obtain ⟨a1,a2,a3,a4,a5,a6,a7,a8,ea,-,ec⟩:=y6d (ptAt c (k+1))
  have g1:(c.map Pt.r)[k+1]? =some [a1,a2,a3,a4,a5,a6,a7,a8]:=by rw [List.getElem?_map,y9a hk1,Option.map_some,ec]
  rw [ea,es] at hcc
  have wk:IntKind.i64.wrap ((k+1:Nat):Int)=((k+1:Nat):Int):=wi64 (by omega)
  refine ⟨k,[(46,.one (.bool false))],Nat.le_refl _,hk1,fun j h1 h2=>by omega,hlast,y06 ?_⟩
  generalize cmpQ (ptAt c (k+1)).x q=x at*
  simp only [go_sem,Fn.y5b,add1,wk,okz,g1,ob1,lb,lb0,hcc,hlast]
 | succ m ih=>
  intro k hk X N hN
  obtain ⟨N,rfl⟩:∃j,N=j+1:=⟨N-1,by omega⟩
  have hk1:k+1<c.length:=by omega
  have hcc:=hc (k+1) hk1
  obtain ⟨a1,a2,a3,a4,a5,a6,a7,a8,ea,-,ec⟩:=y6d (ptAt c (k+1))
  have g1:(c.map Pt.r)[k+1]? =some [a1,a2,a3,a4,a5,a6,a7,a8]:=by rw [List.getElem?_map,y9a hk1,Option.map_some,ec]
  rw [ea,es] at hcc
  have wk:IntKind.i64.wrap ((k+1:Nat):Int)=((k+1:Nat):Int):=wi64 (by omega)
  by_cases hx:cmpQ (ptAt c (k+1)).x q≤0
  ·have hst:evC (evF E n) n Fn.y5b ⟨env ((0,.one (.sl false (c.map Pt.r)))::(3,.one (.box ba 0))::(5,v5)::(7,.one (.int .i64 (k:Int)))::X),ob,fz,nx⟩=
     some (.nrm,⟨env [(0,.one (.sl false (c.map Pt.r))),(3,.one (.box ba 0)),(5,v5),(7,.one (.int .i64 ((k+1:Nat):Int)))],ob,fz,nx⟩):=by
    have hx':=hx
    generalize cmpQ (ptAt c (k+1)).x q=x at hcc hx'
    simp only [go_sem,Fn.y5b,add1,wk,okz,g1,ob1,lb,lb0,hcc,hx']
   obtain ⟨k',X',q1,q2,q3,q4,q5⟩:=ih (k+1) (by omega) [] N (by omega)
   refine ⟨k',X',by omega,q2,fun j h1 h2=> ?_,q4,by rw [y05 hst];exact q5⟩
   by_cases e:j=k
   ·subst e;exact hx
   ·exact q3 j (by omega) h2
  ·refine ⟨k,[(46,.one (.bool false))],Nat.le_refl _,hk1,fun j h1 h2=>by omega,hx,y06 ?_⟩
   generalize cmpQ (ptAt c (k+1)).x q=x at*
   simp only [go_sem,Fn.y5b,add1,wk,okz,g1,ob1,lb,lb0,hcc,hx]
end Go.Ev
namespace Go.Ev
open Go.Dig
theorem ytc (a b:Rat) {ca cb:List AV} (h:RQ a ca) (h':RQ b cb) {S T:Nat} (ha:SmQ S a) (hb:SmQ T b) (hS:S+T<2^36) {n:Nat} (hn:KR (S+T)+4≤n):evV E (n+1) Id.y0y [.agg ca,.agg cb]=some (rV (a*b)):=by
 rw [y02 yaq,Rat.mul_def]
 have hK:=yah (S+T)
 obtain ⟨n,rfl⟩:∃k,n=k+1:=⟨n-1,by omega⟩
 have da:=y12 ha.den
 have db:=y12 hb.den
 have na:=y12 ha.num
 have nb:=y12 hb.num
 have d1:=rdn h (by omega) (n:=n+1) (by omega)
 have d2:=rdn h' (by omega) (n:=n+1) (by omega)
 have m1:=y01 (y6f a.num b.num (by omega) (by omega) (n:=n) (by omega)) (can2 (y1s _) (y1s _))
 have m2:=y01 (y6f (a.den:Int) (b.den:Int) (by rw [Int.natAbs_natCast];omega) (by rw [Int.natAbs_natCast];omega) (n:=n) (by rw [Int.natAbs_natCast,Int.natAbs_natCast];omega)) (can2 (y1s _) (y1s _))
 have h1:(a.num*b.num).natAbs<2^(S+T):=by rw [Int.natAbs_mul];exact y4p ha.num hb.num
 have h2:((a.den:Int)*(b.den:Int)).natAbs<2^(S+T):=by
  rw [Int.natAbs_mul,Int.natAbs_natCast,Int.natAbs_natCast];exact y4p ha.den hb.den
 have hp:(0:Int)<(a.den:Int)*(b.den:Int):=Int.mul_pos (by have:=a.den_pos;omega) (by have:=b.den_pos;omega)
 have hq:=y01 (yaf (a.num*b.num) ((a.den:Int)*(b.den:Int)) hp h1 h2 (by omega) (n:=n) (by omega) false _ _ (.inl ⟨rfl,rfl,rfl⟩)) (can2 (y1s _) (y1s _))
 have en:Rat.normalize (a.num*b.num) ((a.den:Int)*(b.den:Int)).natAbs (by omega)=Rat.normalize (a.num*b.num) (a.den*b.den) (Nat.mul_ne_zero a.den_nz b.den_nz):=by
  congr 1
 rw [en] at hq
 generalize Rat.normalize (a.num*b.num) (a.den*b.den) _=q at hq ⊢
 generalize a.num*b.num=p at m1 hq
 generalize (a.den:Int)*(b.den:Int)=r at m2 hq
 obtain ⟨e,y,rfl⟩:=h.cells
 obtain ⟨e',y',rfl⟩:=h'.cells
 unfold rV at hq ⊢
 rw [rC_eq] at hq ⊢
 unfold sV zC at d1 d2 m1 m2 hq
 rw [Int.natAbs_natCast] at d1 d2
 rw [Int.natAbs_natCast,Int.natAbs_natCast] at m2
 unfold zD at d1 d2 m1 m2 hq ⊢
 simp only [go_sem,Fn.y0y,d1,d2,m1,m2,hq]
end Go.Ev
namespace Go.Ev
open Go.Dig
def rawQ:Option Rat→List AV
 | some q=>rC q
 | none=>[.bool false,.nils,.bool false,.nils]
def frzQ:Option Rat→List AV
 | some q=>rC q
 | none=>[.bool false,.sl false [],.bool false,.sl false []]
theorem yee (o:Option Rat):RQ (o.getD 0) (frzQ o):=by
 cases o with
 | none=>exact .inr ⟨rfl,rfl⟩
 | some q=>exact .inl rfl
theorem ynz (o:Option Rat) (ob:Nat→Option AObj) (k:Nat) (fz:Nat→Nat):mapFz (Ev.frz ob (k+1)) fz (rawQ o)=some (fz,frzQ o):=by
 cases o with
 | none=>rfl
 | some q=>exact y7f _ fun x hx=>(CanL.r q x hx).frz ob k fz
theorem yl2 (ob:Nat→Option AObj) (k:Nat) (fz:Nat→Nat):∀l:List (Option Rat),mapFz (mapFz (Ev.frz ob (k+1))) fz (l.map rawQ)=some (fz,l.map frzQ)
 | []=>rfl
 | o::r=>by
  rw [List.map_cons,mapFz,ynz o ob k fz]
  simp only
  rw [yl2 ob k fz r]
  rfl
end Go.Ev
namespace Go.Ev
open Go.Dig
def dotZ:List (Option Rat)→List Pt→Rat→Rat
 | o::L,p::c,m=>dotZ L c (m+o.getD 0*p.z)
 | _,_,m=>m
theorem yog:∀(L:List (Option Rat)) (c:List Pt) (m x:Rat),dotZ L c (m+x)=dotZ L c m+x
 | [],c,m,x=>rfl
 | o::L,[],m,x=>rfl
 | o::L,p::c,m,x=>by
  unfold dotZ
  rw [show m+x+o.getD 0*p.z=(m+o.getD 0*p.z)+x by grind]
  exact yog L c _ _
theorem ybd:∀(n:Nat) (c:List Pt) (m:Rat),dotZ (List.replicate n none) c m=m
 | 0,c,m=>rfl
 | n+1,[],m=>rfl
 | n+1,p::c,m=>by
  rw [List.replicate_succ]
  unfold dotZ
  rw [ybd n c,Option.getD_none]
  grind
theorem yao:∀(L:List (Option Rat)) (c:List Pt) (m:Rat) (k:Nat) (s:Rat),L.length=c.length→L[k]? =some none→dotZ (L.set k (some s)) c m=dotZ L c m+s*(ptAt c k).z
 | [],c,m,k,s,h,hk=>by simp at hk
 | o::L,[],m,k,s,h,hk=>by simp at h
 | o::L,p::c,m,0,s,h,hk=>by
  simp only [List.getElem?_cons_zero,Option.some.injEq] at hk
  subst hk
  rw [List.set_cons_zero]
  unfold dotZ
  rw [Option.getD_some,Option.getD_none,show m+(0:Rat)*p.z=m by grind,yog]
  rfl
 | o::L,p::c,m,k+1,s,h,hk=>by
  rw [List.set_cons_succ]
  unfold dotZ
  exact yao L c _ k s (by simpa using h) (by simpa using hk)
structure ShOk (c:List Pt) (q:Rat) (L:List (Option Rat)):Prop where
 len:L.length=c.length
 sm:∀o∈L,SmQ 1100 (o.getD 0)
 eq:dotZ L c 0=atQ c q
theorem sm0 (S:Nat):SmQ (S+1) 0:=⟨Nat.two_pow_pos _,Nat.one_lt_two_pow (by omega)⟩
theorem sm1 (S:Nat):SmQ (S+1) (Rat.ofInt 1):=⟨Nat.one_lt_two_pow (by omega),Nat.one_lt_two_pow (by omega)⟩
theorem ya2 {α:Type} {P:α→Prop} {L:List α} {k:Nat} {x:α} (h:∀o∈L,P o) (hx:P x):∀o∈L.set k x,P o:=fun o ho=>by
 rcases List.mem_or_eq_of_mem_set ho with h' | rfl
 ·exact h o h'
 ·exact hx
theorem ynh (n:Nat):∀o∈List.replicate n (none:Option Rat),SmQ 1100 (o.getD 0):=fun o ho=>by
 rw [List.eq_of_mem_replicate ho];exact sm0 1099
theorem yqi {c:List Pt} {q:Rat} (hi:incC c=true) (h1:1≤c.length) (hq:q≤(ptAt c 0).x):ShOk c q ((List.replicate c.length none).set 0 (some (Rat.ofInt 1))) where
 len:=by simp
 sm:=ya2 (ynh _) (sm1 1099)
 eq:=by
  rw [yao _ _ _ _ _ (by simp) (by rw [List.getElem?_replicate,if_pos (by omega)]),ybd]
  refine at_eq hi h1 (.inl ⟨hq, ?_⟩)
  rw [show Rat.ofInt 1=1 from rfl];grind
theorem yuy {c:List Pt} {q:Rat} (hi:incC c=true) (h1:1≤c.length) (hq:(ptAt c (c.length-1)).x≤q):ShOk c q ((List.replicate c.length none).set (c.length-1) (some (Rat.ofInt 1))) where
 len:=by simp
 sm:=ya2 (ynh _) (sm1 1099)
 eq:=by
  rw [yao _ _ _ _ _ (by simp) (by rw [List.getElem?_replicate,if_pos (by omega)]),ybd]
  refine at_eq hi h1 (.inr (.inl ⟨hq, ?_⟩))
  rw [show Rat.ofInt 1=1 from rfl];grind
theorem yx3 {c:List Pt} {q:Rat} (hi:incC c=true) {k:Nat} (hk:k+1<c.length) (h1:(ptAt c k).x≤q) (h2:q≤(ptAt c (k+1)).x) {s:Rat} (hs:s=(q-(ptAt c k).x) / ((ptAt c (k+1)).x-(ptAt c k).x)) (s1:SmQ 1100 s) (s2:SmQ 1100 (Rat.ofInt 1-s)):
  ShOk c q (((List.replicate c.length none).set (k+1) (some s)).set k (some (Rat.ofInt 1-s))) where
 len:=by simp
 sm:=ya2 (ya2 (ynh _) s1) s2
 eq:=by
  rw [yao _ _ _ _ _ (by simp) (by rw [List.getElem?_set_ne (by omega),List.getElem?_replicate,if_pos (by omega)]),yao _ _ _ _ _ (by simp) (by rw [List.getElem?_replicate,if_pos hk]),ybd]
  refine at_eq hi (by omega) (.inr (.inr ⟨k,hk,h1,h2, ?_⟩))
  have hx:=y9n c k hk hi
  have hd:(ptAt c (k+1)).x-(ptAt c k).x≠0:=by grind
  have e:s*((ptAt c (k+1)).x-(ptAt c k).x)=q-(ptAt c k).x:=by rw [hs];exact Rat.div_mul_cancel hd
  rw [show Rat.ofInt 1=1 from rfl]
  grind
end Go.Ev
namespace Go.Ev
open Go.Dig
def RW (q:Rat) (cs:List AV):Prop:=RQ q cs∨(q=0∧cs=[.bool false,.nils,.bool false,.nils])
theorem RQ.w {q:Rat} {cs:List AV} (h:RQ q cs):RW q cs:=.inl h
theorem RW.self (q:Rat):RW q (rC q):=.inl (.self q)
theorem RW.zero:RW 0 [.bool false,.nils,.bool false,.nils]:=.inr ⟨rfl,rfl⟩
theorem RW.fz {q:Rat} {cs:List AV} (h:RW q cs):∃cs',RQ q cs'∧FzS (.agg cs) (.agg cs'):=by
 rcases h with h | ⟨rfl,rfl⟩
 ·exact ⟨cs,h,h.can.fzs⟩
 ·exact ⟨[.bool false,.sl false [],.bool false,.sl false []],.inr ⟨rfl,rfl⟩,fun ob fz=>rfl⟩
theorem RW.cells4 {q:Rat} {cs:List AV} (h:RW q cs):∃a b c d,cs=[a,b,c,d]:=by
 rcases h with (rfl | ⟨-,rfl⟩) | ⟨-,rfl⟩
 ·exact rC4 q
 ·exact ⟨_,_,_,_,rfl⟩
 ·exact ⟨_,_,_,_,rfl⟩
theorem y7u {f:FuncId} {xs ys:List SV} {r:SV} {n:Nat} (h:evV E n f ys=some r) (hx:∀(ob:Nat→Option AObj) (fz:Nat→Nat),mapFz (frzS ob) fz xs=some (fz,ys)) (ob:Nat→Option AObj) (fz:Nat→Nat):callV (evF E n) f xs ob fz=some (.fzd fz r):=by
 rw [y6r,hx]
 simp only [h,Option.map_some]
section
variable {a b:Rat} {ca cb:List AV} {S T:Nat}
theorem ygu (S T:Nat) (hS:S+T<2^35):∃N,∀(a b:Rat) (ca cb:List AV),RW a ca→RW b cb→SmQ S a→SmQ T b→∀n,N≤n→∀(ob:Nat→Option AObj) (fz:Nat→Nat),callV (evF E n) Id.y1r [.agg ca,.agg cb] ob fz=some (.fzd fz (.agg (rC (a+b)))):=
 ⟨KR (S+T+1)+11,fun a b ca cb ha hb sa sb n hn ob fz=>by
  obtain ⟨m,rfl⟩:∃m,n=m+1:=⟨n-1,by omega⟩
  obtain ⟨ca',ha,fa⟩:=ha.fz
  obtain ⟨cb',hb,fb⟩:=hb.fz
  exact y7u (ymh a b ha hb sa sb hS (n:=m) (by omega)) (fa.two fb) ob fz⟩
theorem ymi (S T:Nat) (hS:S+T<2^35):∃N,∀(a b:Rat) (ca cb:List AV),RW a ca→RW b cb→SmQ S a→SmQ T b→∀n,N≤n→∀(ob:Nat→Option AObj) (fz:Nat→Nat),callV (evF E n) Id.y22 [.agg ca,.agg cb] ob fz=some (.fzd fz (.agg (rC (a-b)))):=
 ⟨KR (S+T+1)+13,fun a b ca cb ha hb sa sb n hn ob fz=>by
  obtain ⟨m,rfl⟩:∃m,n=m+1:=⟨n-1,by omega⟩
  obtain ⟨ca',ha,fa⟩:=ha.fz
  obtain ⟨cb',hb,fb⟩:=hb.fz
  exact y7u (yy3 a b ha hb sa sb hS (n:=m) (by omega)) (fa.two fb) ob fz⟩
theorem ye0 (h:RW a ca) (h':RW b cb) (ha:SmQ S a) (hb:SmQ T b) (hS:S+T<2^35):Calling Id.y22 [.agg ca,.agg cb] (.agg (rC (a-b))):=by
 obtain ⟨N,hN⟩:=ymi S T hS
 exact ⟨N,hN a b ca cb h h' ha hb⟩
theorem ycf (S T:Nat) (hS:S+T<2^36):∃N,∀(a b:Rat) (ca cb:List AV),RW a ca→RW b cb→SmQ S a→SmQ T b→∀n,N≤n→∀(ob:Nat→Option AObj) (fz:Nat→Nat),callV (evF E n) Id.y0y [.agg ca,.agg cb] ob fz=some (.fzd fz (.agg (rC (a*b)))):=
 ⟨KR (S+T)+5,fun a b ca cb ha hb sa sb n hn ob fz=>by
  obtain ⟨m,rfl⟩:∃m,n=m+1:=⟨n-1,by omega⟩
  obtain ⟨ca',ha,fa⟩:=ha.fz
  obtain ⟨cb',hb,fb⟩:=hb.fz
  exact y7u (ytc a b ha hb sa sb hS (n:=m) (by omega)) (fa.two fb) ob fz⟩
theorem ywq (S T:Nat) (hS:S+T<2^35):∃N,∀(a b:Rat) (ca cb:List AV),b.num≠0→RW a ca→RW b cb→SmQ S a→SmQ T b→∀n,N≤n→∀(ob:Nat→Option AObj) (fz:Nat→Nat),callV (evF E n) Id.y3h [.agg ca,.agg cb] ob fz=some (.fzd fz (.agg (rC (a / b)))):=
 ⟨KR (S+T)+11,fun a b ca cb h0 ha hb sa sb n hn ob fz=>by
  obtain ⟨m,rfl⟩:∃m,n=m+1:=⟨n-1,by omega⟩
  obtain ⟨ca',ha,fa⟩:=ha.fz
  obtain ⟨cb',hb,fb⟩:=hb.fz
  exact y7u (ywx a b h0 ha hb sa sb hS (n:=m) (by omega)) (fa.two fb) ob fz⟩
theorem ytv (h0:b.num≠0) (h:RW a ca) (h':RW b cb) (ha:SmQ S a) (hb:SmQ T b) (hS:S+T<2^35):Calling Id.y3h [.agg ca,.agg cb] (.agg (rC (a / b))):=by
 obtain ⟨N,hN⟩:=ywq S T hS
 exact ⟨N,hN a b ca cb h0 h h' ha hb⟩
theorem ykz (S T:Nat) (hS:S+T<2^36):∃N,∀(a b:Rat) (ca cb:List AV),RW a ca→RW b cb→SmQ S a→SmQ T b→∀n,N≤n→∀(ob:Nat→Option AObj) (fz:Nat→Nat),callV (evF E n) Id.y0l [.agg ca,.agg cb] ob fz=some (.fzd fz (.one (.int .i64 (cmpQ a b)))):=
 ⟨2*(S+T)+21,fun a b ca cb ha hb sa sb n hn ob fz=>by
  obtain ⟨m,rfl⟩:∃m,n=m+1:=⟨n-1,by omega⟩
  obtain ⟨ca',ha,fa⟩:=ha.fz
  obtain ⟨cb',hb,fb⟩:=hb.fz
  exact y7u (yml a b ha hb sa sb hS (n:=m) (by omega)) (fa.two fb) ob fz⟩
theorem ywe (S:Nat) (hS:S<2^36):∃N,∀(a:Rat) (ca:List AV),RW a ca→SmQ S a→∀n,N≤n→∀(ob:Nat→Option AObj) (fz:Nat→Nat),callV (evF E n) Id.y36 [.agg ca] ob fz=some (.fzd fz (.agg (rC (-a)))):=
 ⟨21,fun a ca ha sa n hn ob fz=>by
  obtain ⟨m,rfl⟩:∃m,n=m+1:=⟨n-1,by omega⟩
  obtain ⟨ca',ha,fa⟩:=ha.fz
  exact y7u (ynv a ha sa hS (n:=m) (by omega)) fa.one ob fz⟩
theorem yta (S:Nat) (hS:S<2^36):∃N,∀(a:Rat) (ca:List AV),RW a ca→SmQ S a→∀n,N≤n→∀(ob:Nat→Option AObj) (fz:Nat→Nat),callV (evF E n) Id.y0u [.agg ca] ob fz=some (.fzd fz (.one (.int .i64 (signI a.num)))):=
 ⟨S+21,fun a ca ha sa n hn ob fz=>by
  obtain ⟨m,rfl⟩:∃m,n=m+1:=⟨n-1,by omega⟩
  obtain ⟨ca',ha,fa⟩:=ha.fz
  exact y7u (yk2 a ha sa hS (n:=m) (by omega)) fa.one ob fz⟩
theorem ytr (z:Int) (h1:-9223372036854775808≤z) (h2:z<9223372036854775808):Calling Id.y2y [.one (.int .i64 z)] (.agg (rC (Rat.ofInt z))):=
 (Ends.of 12 fun {n} hn=>yx0 z h1 h2 hn:Ends Id.y2y [.one (.int .i64 z)] (.agg (rC (Rat.ofInt z)))).call (can1 (y2j _ _))
end
theorem yc7 {ob:Nat→Option AObj} {id ver sz z len:Nat} {full:Bool} (L:List (Option Rat)) (fz:Nat→Nat) (hr:rowAt ob id ver=some (z,L.map rawQ)) (hl:len=L.length):
  frzS ob fz (.one (.rsl id ver sz 0 len full))=some (raise fz id len,.one (.sl false (L.map frzQ))):=by
 subst hl
 have hb:Nat.ble (0+L.length) (L.map rawQ).length=true:=by simp
 have h1:Ev.frz ob DEPTH fz (.rsl id ver sz 0 L.length full)=some (raise fz id L.length,.sl false (L.map frzQ)):=by
  rw [show DEPTH=6+1+1 from rfl,y7l,hr]
  simp only [hb,cond_true]
  rw [Nat.zero_add,List.drop_zero,List.take_of_length_le (by simp),yl2]
 simp only [frzS,h1]
theorem ygb (n:Nat):List.replicate n [AV.bool false,.nils,.bool false,.nils]=(List.replicate n (none:Option Rat)).map rawQ:=by
 rw [List.map_replicate];rfl
theorem yae (L:List (Option Rat)) (k:Nat) (q:Rat):(L.map rawQ).set k (rC q)=(L.set k (some q)).map rawQ:=by
 rw [List.map_set];rfl
theorem rawQ4 (o:Option Rat):∃a b c d,rawQ o=[a,b,c,d]:=by
 cases o with
 | none=>exact ⟨_,_,_,_,rfl⟩
 | some q=>exact rC4 q
theorem frzQ4 (o:Option Rat):∃a b c d,frzQ o=[a,b,c,d]:=by
 cases o with
 | none=>exact ⟨_,_,_,_,rfl⟩
 | some q=>exact rC4 q
end Go.Ev
namespace Go.Ev
open Go.Dig
theorem yvq (P:Nat→Prop) [DecidablePred P] (n:Nat) (h:P n):∃k,k≤n∧P k∧∀j,j<k→¬P j:=by
 induction n using Nat.strongRecOn with
 | ind n ih=>
  by_cases h':∃j,j<n∧P j
  ·obtain ⟨j,hj,hp⟩:=h'
   obtain ⟨k,h1,h2,h3⟩:=ih j hj hp
   exact ⟨k,by omega,h2,h3⟩
  ·exact ⟨n,Nat.le_refl _,h,fun j hj hp=>h' ⟨j,hj,hp⟩⟩
theorem y107 {a:Rat} (h:a≠0):a.num≠0:=fun e=>h ((yxq a).mp e)
set_option maxRecDepth 100000 in
theorem ymr (c:List Pt) (q:Rat) (h0:1≤c.length) (hl:c.length<2^20) (hi:incC c=true) (hp:∀p∈c,SmPt p) (hq:SmQ 256 q):∃L,ShOk c q L∧Ends Id.y1w [.one (.sl false (c.map Pt.r)),.agg (rC q)] (.one (.sl false (L.map frzQ))):=by
 have hpt:∀k,k<c.length→SmPt (ptAt c k):=fun k hk=>hp _ (by unfold ptAt;rw [List.getElem?_eq_getElem hk];simp)
 obtain ⟨N,hN⟩:=ycb 256 (by decide)
 have wl:IntKind.i64.wrap (((c.length:Nat):Int)-1)=((c.length-1:Nat):Int):=by rw [wrap_i64 (by omega)];omega
 have mk1:(c.length≤9223372036854775807)=True:=by simp;omega
 have mk2:(64*c.length≤281474976710656)=True:=by simp;omega
 have okz:okSz 8 (c.map Pt.r)=true:=y1m ya8 c
 have n0:Ev.natOf 0=some 0:=rfl
 obtain ⟨s0,s1,s2,s3,es⟩:=rC4 q
 obtain ⟨i0,i1,i2,i3,ei⟩:=rC4 (Rat.ofInt 1)
 obtain ⟨N1,k1⟩:=ytr 1 (by decide) (by decide)
 rw [ei] at k1
 obtain ⟨a1,a2,a3,a4,a5,a6,a7,a8,ea,-,ec⟩:=y6d (ptAt c 0)
 have g0:(c.map Pt.r)[0]? =some [a1,a2,a3,a4,a5,a6,a7,a8]:=by rw [List.getElem?_map,y9a (by omega),Option.map_some,ec]
 obtain ⟨b1,b2,b3,b4,b5,b6,b7,b8,eb,-,ed⟩:=y6d (ptAt c (c.length-1))
 have gl:(c.map Pt.r)[c.length-1]? =some [b1,b2,b3,b4,b5,b6,b7,b8]:=by rw [List.getElem?_map,y9a (by omega),Option.map_some,ed]
 have hf:fz0 4=0:=rfl
 have p0:(0<c.length)=True:=by simp;omega
 have gr:∀k,k<c.length→(List.replicate c.length [AV.bool false,.nils,.bool false,.nils])[k]? =some [AV.bool false,.nils,.bool false,.nils]:=fun k hk=>by rw [List.getElem?_replicate,if_pos hk]
 have gr0:=gr 0 (by omega)
 by_cases c0:cmpQ q (ptAt c 0).x≤0
 ·refine ⟨_,yqi hi h0 (by rw [ybr] at c0;exact c0),.of (N+N1) fun {n} hn=> ?_⟩
  have hcc:=hN q (ptAt c 0).x _ _ (RQ.self _) (RQ.self _) hq (hpt 0 (by omega)).x n (by omega)
  have k1:=k1 n (by omega)
  rw [y02 y84]
  rw [es,ea] at hcc
  rw [es]
  generalize cmpQ q (ptAt c 0).x=x at hcc c0
  simp only [go_sem,Fn.y1w,List.length_map,List.length_replicate,wl,mk1,mk2,okz,n0,g0,hcc,c0,k1,p0,gr0,hf]
  rw [←ei,ygb,yae]
  rw [yc7 _ _ y3d (by simp)]
  rfl
 ·by_cases c1:cmpQ q (ptAt c (c.length-1)).x≥0
  ·refine ⟨_,yuy hi h0 (by rw [yq7] at c1;exact c1),.of (N+N1) fun {n} hn=> ?_⟩
   have hcc:=hN q (ptAt c 0).x _ _ (RQ.self _) (RQ.self _) hq (hpt 0 (by omega)).x n (by omega)
   have hcd:=hN q (ptAt c (c.length-1)).x _ _ (RQ.self _) (RQ.self _) hq (hpt _ (by omega)).x n (by omega)
   have k1:=k1 n (by omega)
   have pl:(c.length-1<c.length)=True:=by simp;omega
   have gr1:=gr (c.length-1) (by omega)
   have hz:Ev.natOf ((c.length-1:Nat):Int)=some (c.length-1):=ya1 _
   rw [y02 y84]
   rw [es,ea] at hcc
   rw [es,eb] at hcd
   rw [es]
   generalize cmpQ q (ptAt c 0).x=x at hcc c0
   generalize cmpQ q (ptAt c (c.length-1)).x=y at hcd c1
   generalize c.length-1=l at*
   simp only [go_sem,Fn.y1w,List.length_map,List.length_replicate,wl,mk1,mk2,okz,n0,g0,gl,hcc,hcd,c0,c1,k1,pl,gr1,hf]
   rw [←ei,ygb,yae]
   rw [yc7 _ _ y3d (by simp)]
   rfl
  ·have hlast:¬cmpQ (ptAt c (c.length-1)).x q≤0:=by
    rw [ybr];rw [yq7] at c1;exact c1
   have h2:2≤c.length:=by
    rcases Nat.lt_or_ge c.length 2 with h | h
    ·have:c.length-1=0:=by omega
     rw [this] at c1
     omega
    ·exact h
   have hcq:∀n,N≤n→∀k,k<c.length→∀(ob:Nat→Option AObj) (fz:Nat→Nat),callV (evF E n) Id.y0l [.agg (rC (ptAt c k).x),.agg (rC q)] ob fz=some (.fzd fz (.one (.int .i64 (cmpQ (ptAt c k).x q)))):=fun n hn k hk=>hN _ q _ _ (RQ.self _) (RQ.self _) (hpt k hk).x hq n hn
   obtain ⟨k,hk,hb,ha⟩:∃k,k+1<c.length∧(∀j,j<k→cmpQ (ptAt c (j+1)).x q≤0)∧¬cmpQ (ptAt c (k+1)).x q≤0:=by
    obtain ⟨k,h3,h4,h5⟩:=yvq (fun k=>¬cmpQ (ptAt c (k+1)).x q≤0) (c.length-2) (by show ¬cmpQ (ptAt c (c.length-2+1)).x q≤0;rw [show c.length-2+1=c.length-1 by omega];exact hlast)
    exact ⟨k,by omega,fun j hj=>Decidable.not_not.1 (h5 j hj),h4⟩
   have hx:=y9n c k hk hi
   have hle1:(ptAt c k).x≤q:=by
    rcases Nat.eq_zero_or_pos k with rfl | hkp
    ·rw [ybr] at c0;grind
    ·have:=hb (k-1) (by omega)
     rw [ybr,show k-1+1=k by omega] at this
     exact this
   have hle2:q≤(ptAt c (k+1)).x:=by
    rw [ybr] at ha;grind
   have sk:=(hpt k (by omega)).x
   have sk1:=(hpt (k+1) hk).x
   have d1:=hq.sub sk
   have d2:=sk1.sub sk
   have hne:((ptAt c (k+1)).x-(ptAt c k).x).num≠0:=y107 (by grind)
   have d3:=SmQ.div hne d1 d2
   have d4:=(sm1 63).sub d3
   obtain ⟨N2,k2⟩:=ye0 (RW.self q) (RW.self (ptAt c k).x) hq sk (by decide)
   obtain ⟨N3,k3⟩:=ye0 (RW.self (ptAt c (k+1)).x) (RW.self (ptAt c k).x) sk1 sk (by decide)
   obtain ⟨N4,k4⟩:=ytv hne (RW.self _) (RW.self _) d1 d2 (by decide)
   obtain ⟨N5,k5⟩:=ye0 (RW.self _) (RW.self _) (sm1 63) d3 (by decide)
   refine ⟨_,yx3 hi hk hle1 hle2 rfl (d3.mono (by decide)) (d4.mono (by decide)),.of (N+N1+N2+N3+N4+N5+c.length) fun {n} hn=> ?_⟩
   have hcc:=hN q (ptAt c 0).x _ _ (RQ.self _) (RQ.self _) hq (hpt 0 (by omega)).x n (by omega)
   have hcd:=hN q (ptAt c (c.length-1)).x _ _ (RQ.self _) (RQ.self _) hq (hpt _ (by omega)).x n (by omega)
   have k1:=k1 n (by omega)
   have k2:=k2 n (by omega)
   have k3:=k3 n (by omega)
   have k4:=k4 n (by omega)
   have k5:=k5 n (by omega)
   have pl:(c.length-1<c.length)=True:=by simp;omega
   obtain ⟨k',X',-,l2,l3,l4,hlo⟩:=yyn (n:=n) (ba:=0) (ob:=upd (upd ob0 0 (.box (rC q))) 4 (.row 4 (List.replicate c.length [AV.bool false,.nils,.bool false,.nils]) 0)) (fz:=fz0) (nx:=6) c q (Nat.lt_trans hl (by decide)) (by decide) (by rw [y00 (by decide)];exact upd_same _ _ _) (hcq n (by omega)) hlast (.one (.rsl 4 0 4 0 c.length false)) (c.length-2) 0 (by omega) [] n (by omega)
   have e:k'=k:=by
    rcases Nat.lt_trichotomy k' k with h | h | h
    ·exact absurd (hb k' h) l4
    ·exact h
    ·exact absurd (l3 k (Nat.zero_le _) h) ha
   subst e
   rw [show ((0:Nat):Int)=0 from rfl] at hlo
   have wk:IntKind.i64.wrap ((k'+1:Nat):Int)=((k'+1:Nat):Int):=wi64 (by omega)
   obtain ⟨p1,p2,p3,p4,p5,p6,p7,p8,ep,-,eq⟩:=y6d (ptAt c k')
   have gp:(c.map Pt.r)[k']? =some [p1,p2,p3,p4,p5,p6,p7,p8]:=by rw [List.getElem?_map,y9a (by omega),Option.map_some,eq]
   obtain ⟨r1,r2,r3,r4,r5,r6,r7,r8,er,-,es'⟩:=y6d (ptAt c (k'+1))
   have gq:(c.map Pt.r)[k'+1]? =some [r1,r2,r3,r4,r5,r6,r7,r8]:=by rw [List.getElem?_map,y9a hk,Option.map_some,es']
   have pk:(k'<c.length)=True:=by simp;omega
   have pk1:(k'+1<c.length)=True:=by simp;omega
   have gk1:=gr (k'+1) hk
   obtain ⟨m,hm⟩:∃m,m=(q-(ptAt c k').x) / ((ptAt c (k'+1)).x-(ptAt c k').x):=⟨_,rfl⟩
   rw [←hm] at k4 k5 ⊢
   obtain ⟨m0,m1,m2,m3,em⟩:=rC4 m
   obtain ⟨u0,u1,u2,u3,eu⟩:=rC4 (q-(ptAt c k').x)
   obtain ⟨v0,v1,v2,v3,ev⟩:=rC4 ((ptAt c (k'+1)).x-(ptAt c k').x)
   obtain ⟨t0,t1,t2,t3,et⟩:=rC4 (Rat.ofInt 1-m)
   have gs:((List.replicate c.length [AV.bool false,.nils,.bool false,.nils]).set (k'+1) [m0,m1,m2,m3])[k'+1]? =some [m0,m1,m2,m3]:=by rw [List.getElem?_set_self (by simpa using hk)]
   have gs':((List.replicate c.length [AV.bool false,.nils,.bool false,.nils]).set (k'+1) [m0,m1,m2,m3])[k']? =some [AV.bool false,.nils,.bool false,.nils]:=by rw [List.getElem?_set_ne (by omega)];exact gr k' (by omega)
   rw [y02 y84]
   rw [es,ea] at hcc
   rw [es,eb] at hcd
   rw [es,ep,eu] at k2
   rw [er,ep,ev] at k3
   rw [eu,ev,em] at k4
   rw [ei,em,et] at k5
   rw [es] at hlo ⊢
   generalize cmpQ q (ptAt c 0).x=x at hcc c0
   generalize cmpQ q (ptAt c (c.length-1)).x=y at hcd c1
   generalize c.length-1=l at*
   simp only [go_sem,Fn.y1w,List.length_map,List.length_replicate,List.length_set,wl,mk1,mk2,okz,n0,g0,gl,hcc,hcd,c0,c1,hlo,add1,wk,gp,gq,k1,k2,k3,k4,k5,pl,pk,pk1,gk1,gs,gs',hf]
   rw [←em,←et,ygb,yae,yae]
   rw [yc7 _ _ y3d (by simp)]
   rfl
theorem ymj (c:List Pt) (q:Rat) (h0:1≤c.length) (hl:c.length<2^20) (hi:incC c=true) (hp:∀p∈c,SmPt p) (hq:SmQ 256 q):∃L,ShOk c q L∧Calling Id.y1w [.one (.sl false (c.map Pt.r)),.agg (rC q)] (.one (.sl false (L.map frzQ))):=by
 obtain ⟨L,h1,h2⟩:=ymr c q h0 hl hi hp hq
 exact ⟨L,h1,h2.call (can2 (.one _ (.sl _)) (y8y q))⟩
end Go.Ev
namespace Go.Ev
open Go.Dig
theorem RQ.cells4 {q:Rat} {cs:List AV} (h:RQ q cs):∃a b c d,cs=[a,b,c,d]:=by
 rcases h with rfl | ⟨-,rfl⟩
 ·exact rC4 q
 ·exact ⟨_,_,_,_,rfl⟩
theorem RQ.cellsF {q:Rat} {cs:List AV} (h:RQ q cs):∃a b c d,cs=[a,b,c,d]∧Fz a∧Fz b∧Fz c∧Fz d:=by
 rcases h with rfl | ⟨-,rfl⟩
 ·exact y6q q
 ·exact ⟨_,_,_,_,rfl,(Canon.bool _).fz,(Canon.sl _).fz,(Canon.bool _).fz,(Canon.sl _).fz⟩
theorem RQ.canL {q:Rat} {cs:List AV} (h:RQ q cs):CanL cs:=by
 rcases h with rfl | ⟨-,rfl⟩
 ·exact .r q
 ·exact .cons (.bool _) (.cons (.sl _) (.cons (.bool _) (.cons (.sl _) .nil)))
set_option maxRecDepth 100000 in
theorem ywf (S T:Nat) (hS:S+T<2^36):∃N,∀(a b:Rat) (ca cb:List AV),RQ a ca→RQ b cb→SmQ S a→SmQ T b→∀n,N≤n→evV E n Id.y3s [.one (.sl false [ca,cb])]=some (.agg (if cmpQ b a<0 then cb else ca)):=by
 obtain ⟨N,hN⟩:=ykz T S (by omega)
 refine ⟨N+6,fun a b ca cb h h' ha hb n hn=> ?_⟩
 obtain ⟨n,rfl⟩:∃k,n=k+1:=⟨n-1,by omega⟩
 have k0:=hN b a cb ca h'.w h.w hb ha n (by omega)
 rw [y02 yga]
 obtain ⟨x0,x1,x2,x3,rfl⟩:=h.cells4
 obtain ⟨y0,y1,y2,y3,rfl⟩:=h'.cells4
 have f0:=h.canL.agg.frz
 have f1:=h'.canL.agg.frz
 generalize cmpQ b a=x at*
 obtain ⟨m,rfl⟩:∃m,n=m+4:=⟨n-4,by omega⟩
 have nz:Ev.natOf 0=some 0:=rfl
 have n1:Ev.natOf 1=some 1:=rfl
 have l0:((0:Int)<((2:Nat):Int))=True:=by simp
 have l1:((1:Int)<((2:Nat):Int))=True:=by simp
 have l2:((2:Int)<((2:Nat):Int))=False:=by simp
 have w1:IntKind.i64.wrap (0+1)=1:=rfl
 have w2:IntKind.i64.wrap (1+1)=2:=rfl
 have q0:((0:Int)==0)=true:=rfl
 have q1:((1:Int)==0)=false:=rfl
 have okz:okSz 4 [[x0,x1,x2,x3],[y0,y1,y2,y3]]=true:=rfl
 have r0:∀(ob:Nat→Option AObj) (X:List (Nat×SV)),ob 1=some (.box [.bool false,.nils,.bool false,.nils])→evC (evF E (m+4)) (m+4) Fn.y4x ⟨env ((0,.one (.sl false [[x0,x1,x2,x3],[y0,y1,y2,y3]]))::(2,.one (.box 0 0))::(3,.one (.box 1 0))::(4,.one (.int .i64 0))::X),ob,fz0,2⟩=some (.nrm,⟨env [(0,.one (.sl false [[x0,x1,x2,x3],[y0,y1,y2,y3]])),(2,.one (.box 0 0)),(3,.one (.box 1 0)),(4,.one (.int .i64 1))],upd ob 1 (.box [x0,x1,x2,x3]),fz0,2⟩):=fun ob X o1=>by
  simp only [go_sem,Fn.y4x,l0,nz,q0,okz,o1,w1]
 have r1:∀(ob:Nat→Option AObj) (X:List (Nat×SV)),ob 1=some (.box [x0,x1,x2,x3])→evC (evF E (m+4)) (m+4) Fn.y4x ⟨env ((0,.one (.sl false [[x0,x1,x2,x3],[y0,y1,y2,y3]]))::(2,.one (.box 0 0))::(3,.one (.box 1 0))::(4,.one (.int .i64 1))::X),ob,fz0,2⟩=some (.nrm,⟨env [(0,.one (.sl false [[x0,x1,x2,x3],[y0,y1,y2,y3]])),(2,.one (.box 0 0)),(3,.one (.box 1 0)),(4,.one (.int .i64 2))],if x<0 then upd ob 1 (.box [y0,y1,y2,y3]) else ob,fz0,2⟩):=fun ob X o1=>by
  by_cases hx:x<0<;>simp only [go_sem,Fn.y4x,l1,n1,q1,okz,o1,w2,k0,hx]
 have r2:∀(ob:Nat→Option AObj) (X:List (Nat×SV)),evC (evF E (m+4)) (m+4) Fn.y4x ⟨env ((0,.one (.sl false [[x0,x1,x2,x3],[y0,y1,y2,y3]]))::(2,.one (.box 0 0))::(3,.one (.box 1 0))::(4,.one (.int .i64 2))::X),ob,fz0,2⟩=some (.ext 0,⟨env [(0,.one (.sl false [[x0,x1,x2,x3],[y0,y1,y2,y3]])),(2,.one (.box 0 0)),(3,.one (.box 1 0)),(4,.one (.int .i64 2)),(8,.one (.bool false))],ob,fz0,2⟩):=fun ob X=>by
  simp only [go_sem,Fn.y4x,l2]
 have hloop:∀ob:Nat→Option AObj,ob 1=some (.box [.bool false,.nils,.bool false,.nils])→loopN (evC (evF E (m+4)) (m+4) Fn.y4x) (m+4) ⟨env [(0,.one (.sl false [[x0,x1,x2,x3],[y0,y1,y2,y3]])),(2,.one (.box 0 0)),(3,.one (.box 1 0)),(4,.one (.int .i64 0))],ob,fz0,2⟩=some (.ext 0,⟨env [(0,.one (.sl false [[x0,x1,x2,x3],[y0,y1,y2,y3]])),(2,.one (.box 0 0)),(3,.one (.box 1 0)),(4,.one (.int .i64 2)),(8,.one (.bool false))],if x<0 then upd (upd ob 1 (.box [x0,x1,x2,x3])) 1 (.box [y0,y1,y2,y3]) else upd ob 1 (.box [x0,x1,x2,x3]),fz0,2⟩):=fun ob o1=>by
  rw [y05 (r0 ob [] o1),y05 (r1 _ [] (upd_same _ _ _)),y06 (r2 _ [])]
 have hl:=hloop (upd (upd ob0 0 (.box [.bool false,.nils,.bool false,.nils])) 1 (.box [.bool false,.nils,.bool false,.nils])) (upd_same _ _ _)
 by_cases hx:x<0
 ·rw [if_pos hx] at hl ⊢
  simp only [go_sem,Fn.y3s,hl,f1]
 ·rw [if_neg hx] at hl ⊢
  simp only [go_sem,Fn.y3s,hl,f0]
set_option maxRecDepth 100000 in
theorem yxs (S T:Nat) (hS:S+T<2^36):∃N,∀(a b:Rat) (ca cb:List AV),RQ a ca→RQ b cb→SmQ S a→SmQ T b→∀n,N≤n→evV E n Id.y3t [.one (.sl false [ca,cb])]=some (.agg (if cmpQ b a>0 then cb else ca)):=by
 obtain ⟨N,hN⟩:=ykz T S (by omega)
 refine ⟨N+6,fun a b ca cb h h' ha hb n hn=> ?_⟩
 obtain ⟨n,rfl⟩:∃k,n=k+1:=⟨n-1,by omega⟩
 have k0:=hN b a cb ca h'.w h.w hb ha n (by omega)
 rw [y02 yh0]
 obtain ⟨x0,x1,x2,x3,rfl⟩:=h.cells4
 obtain ⟨y0,y1,y2,y3,rfl⟩:=h'.cells4
 have f0:=h.canL.agg.frz
 have f1:=h'.canL.agg.frz
 generalize cmpQ b a=x at*
 obtain ⟨m,rfl⟩:∃m,n=m+4:=⟨n-4,by omega⟩
 have nz:Ev.natOf 0=some 0:=rfl
 have n1:Ev.natOf 1=some 1:=rfl
 have l0:((0:Int)<((2:Nat):Int))=True:=by simp
 have l1:((1:Int)<((2:Nat):Int))=True:=by simp
 have l2:((2:Int)<((2:Nat):Int))=False:=by simp
 have w1:IntKind.i64.wrap (0+1)=1:=rfl
 have w2:IntKind.i64.wrap (1+1)=2:=rfl
 have q0:((0:Int)==0)=true:=rfl
 have q1:((1:Int)==0)=false:=rfl
 have okz:okSz 4 [[x0,x1,x2,x3],[y0,y1,y2,y3]]=true:=rfl
 have r0:∀(ob:Nat→Option AObj) (X:List (Nat×SV)),ob 1=some (.box [.bool false,.nils,.bool false,.nils])→evC (evF E (m+4)) (m+4) Fn.y4v ⟨env ((0,.one (.sl false [[x0,x1,x2,x3],[y0,y1,y2,y3]]))::(2,.one (.box 0 0))::(3,.one (.box 1 0))::(4,.one (.int .i64 0))::X),ob,fz0,2⟩=some (.nrm,⟨env [(0,.one (.sl false [[x0,x1,x2,x3],[y0,y1,y2,y3]])),(2,.one (.box 0 0)),(3,.one (.box 1 0)),(4,.one (.int .i64 1))],upd ob 1 (.box [x0,x1,x2,x3]),fz0,2⟩):=fun ob X o1=>by
  simp only [go_sem,Fn.y4v,l0,nz,q0,okz,o1,w1]
 have r1:∀(ob:Nat→Option AObj) (X:List (Nat×SV)),ob 1=some (.box [x0,x1,x2,x3])→evC (evF E (m+4)) (m+4) Fn.y4v ⟨env ((0,.one (.sl false [[x0,x1,x2,x3],[y0,y1,y2,y3]]))::(2,.one (.box 0 0))::(3,.one (.box 1 0))::(4,.one (.int .i64 1))::X),ob,fz0,2⟩=some (.nrm,⟨env [(0,.one (.sl false [[x0,x1,x2,x3],[y0,y1,y2,y3]])),(2,.one (.box 0 0)),(3,.one (.box 1 0)),(4,.one (.int .i64 2))],if x>0 then upd ob 1 (.box [y0,y1,y2,y3]) else ob,fz0,2⟩):=fun ob X o1=>by
  by_cases hx:x>0<;>simp only [go_sem,Fn.y4v,l1,n1,q1,okz,o1,w2,k0,hx]
 have r2:∀(ob:Nat→Option AObj) (X:List (Nat×SV)),evC (evF E (m+4)) (m+4) Fn.y4v ⟨env ((0,.one (.sl false [[x0,x1,x2,x3],[y0,y1,y2,y3]]))::(2,.one (.box 0 0))::(3,.one (.box 1 0))::(4,.one (.int .i64 2))::X),ob,fz0,2⟩=some (.ext 0,⟨env [(0,.one (.sl false [[x0,x1,x2,x3],[y0,y1,y2,y3]])),(2,.one (.box 0 0)),(3,.one (.box 1 0)),(4,.one (.int .i64 2)),(8,.one (.bool false))],ob,fz0,2⟩):=fun ob X=>by
  simp only [go_sem,Fn.y4v,l2]
 have hloop:∀ob:Nat→Option AObj,ob 1=some (.box [.bool false,.nils,.bool false,.nils])→loopN (evC (evF E (m+4)) (m+4) Fn.y4v) (m+4) ⟨env [(0,.one (.sl false [[x0,x1,x2,x3],[y0,y1,y2,y3]])),(2,.one (.box 0 0)),(3,.one (.box 1 0)),(4,.one (.int .i64 0))],ob,fz0,2⟩=some (.ext 0,⟨env [(0,.one (.sl false [[x0,x1,x2,x3],[y0,y1,y2,y3]])),(2,.one (.box 0 0)),(3,.one (.box 1 0)),(4,.one (.int .i64 2)),(8,.one (.bool false))],if x>0 then upd (upd ob 1 (.box [x0,x1,x2,x3])) 1 (.box [y0,y1,y2,y3]) else upd ob 1 (.box [x0,x1,x2,x3]),fz0,2⟩):=fun ob o1=>by
  rw [y05 (r0 ob [] o1),y05 (r1 _ [] (upd_same _ _ _)),y06 (r2 _ [])]
 have hl:=hloop (upd (upd ob0 0 (.box [.bool false,.nils,.bool false,.nils])) 1 (.box [.bool false,.nils,.bool false,.nils])) (upd_same _ _ _)
 by_cases hx:x>0
 ·rw [if_pos hx] at hl ⊢
  simp only [go_sem,Fn.y3t,hl,f1]
 ·rw [if_neg hx] at hl ⊢
  simp only [go_sem,Fn.y3t,hl,f0]
theorem yps (a b:Rat) (ca cb:List AV):(if cmpQ b a<0 then cb else ca)=if b<a then cb else ca:=by simp only [yab]
theorem yqe (a b:Rat) (ca cb:List AV):(if cmpQ b a>0 then cb else ca)=if a<b then cb else ca:=by simp only [yef]
theorem yyx {a b:Rat} {ca cb:List AV} (h:RQ a ca) (h':RQ b cb):RQ (minQ a b) (if cmpQ b a<0 then cb else ca):=by
 rw [yps,yqb]
 split
 ·exact h'
 ·exact h
theorem yyv {a b:Rat} {ca cb:List AV} (h:RQ a ca) (h':RQ b cb):RQ (maxQ a b) (if cmpQ b a>0 then cb else ca):=by
 rw [yqe,yq3]
 split
 ·exact h'
 ·exact h
set_option maxRecDepth 100000 in
theorem ysx (S:Nat) (hS:S<2^34):∃N,∀(q lo hi:Rat) (cq cl ch:List AV),RQ q cq→RQ lo cl→RQ hi ch→SmQ S q→SmQ S lo→SmQ S hi→∃cc,RQ (clampQ q lo hi) cc∧(cq=rC q→cl=rC lo→ch=rC hi→cc=rC (clampQ q lo hi))∧∀n,N≤n→∀(ob:Nat→Option AObj) (fz:Nat→Nat),callV (evF E n) Id.y2b [.agg cq,.agg cl,.agg ch] ob fz=some (.fzd fz (.agg cc)):=by
 obtain ⟨N1,k1⟩:=ywf S S (by omega)
 obtain ⟨N2,k2⟩:=yxs S S (by omega)
 refine ⟨N1+N2+1,fun q lo hi cq cl ch h h1 h2 hq hl hh=> ?_⟩
 have k1:=k1 hi q ch cq h2 h hh hq
 have r1:=yyx h2 h
 have q1:cq=rC q→ch=rC hi→(if cmpQ q hi<0 then cq else ch)=rC (minQ hi q):=fun e1 e2=>by
  rw [e1,e2,yps,yqb];split<;>rfl
 generalize (if cmpQ q hi<0 then cq else ch)=c1 at k1 r1 q1
 have k2:=k2 lo (minQ hi q) cl c1 h1 r1 hl (hh.min hq)
 have r2:=yyv h1 r1
 have q2:c1=rC (minQ hi q)→cl=rC lo→(if cmpQ (minQ hi q) lo>0 then c1 else cl)=rC (clampQ q lo hi):=fun e1 e2=>by
  rw [e1,e2,yqe];unfold clampQ;rw [yq3];split<;>rfl
 generalize (if cmpQ (minQ hi q) lo>0 then c1 else cl)=c2 at k2 r2 q2
 refine ⟨c2,r2,fun e1 e2 e3=>q2 (q1 e1 e3) e2,fun n hn=> ?_⟩
 obtain ⟨n,rfl⟩:∃k,n=k+1:=⟨n-1,by omega⟩
 refine y01 ?_ ?_
 ·have k1:=fun ob fz (hr:rowAt ob 7 0=some (4,[ch,cq]))=>yca (sz:=4) (full:=false) (fz:=fz) (k1 n (by omega)) (canonEs2 h2.canL h.canL) hr
  have k2:=fun ob fz (hr:rowAt ob 9 0=some (4,[cl,c1]))=>yca (sz:=4) (full:=false) (fz:=fz) (k2 n (by omega)) (canonEs2 h1.canL r1.canL) hr
  rw [y02 yd7]
  obtain ⟨x0,x1,x2,x3,rfl⟩:=h.cells4
  obtain ⟨y0,y1,y2,y3,rfl⟩:=h1.cells4
  obtain ⟨z0,z1,z2,z3,rfl⟩:=h2.cells4
  obtain ⟨u0,u1,u2,u3,rfl⟩:=r1.cells4
  obtain ⟨v0,v1,v2,v3,rfl,f0,f1,f2,f3⟩:=r2.cellsF
  unfold Fz at f0 f1 f2 f3
  have k1:=fun ob fz=>k1 (upd ob 7 (.row 4 [[z0,z1,z2,z3],[x0,x1,x2,x3]] 0)) fz y3d
  have k2:=fun ob fz=>k2 (upd ob 9 (.row 4 [[y0,y1,y2,y3],[u0,u1,u2,u3]] 0)) fz y3d
  simp only [List.length_cons,List.length_nil,Nat.zero_add,Nat.reduceAdd] at k1 k2
  simp only [go_sem,Fn.y2b,k1,k2,f0,f1,f2,f3]
 ·intro x hx
  simp only [List.mem_cons,List.not_mem_nil,or_false] at hx
  rcases hx with rfl | rfl | rfl
  ·exact h.can
  ·exact h1.can
  ·exact h2.can
end Go.Ev
