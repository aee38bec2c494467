import Derived.Test.YthghhnhojdmcpaaGreatP4
set_option linter.all false
namespace Go.Ev
open Go.Dig
theorem u8i64 {k:Nat} (h:k<256):IntKind.i64.wrap ((k:Nat):Int)=((k:Nat):Int):=wi64 (by omega)
theorem y8c {base bb p:Nat} (y7 y8 y9:SV) (l:List Rcd) (hl:l.length<2^20) (hs:∀x∈l,SmSamp x.s∧x.ph<5) (hbb:base≤bb) (hp:p<5) (y:AV):∃M,∀n,M≤n→∀(r:List Rcd) (i:Nat),i+r.length=l.length→l.drop i=r→∀(ob:Nat→Option AObj) (fz:Nat→Nat) (nx:Nat) (st:Option Bx) (N:List (Option Rat)) (X:List (Nat×SV)) (K:Nat),r.length<K→YOk ob base y l→bb<nx→ob bb=some (.box (flatN N))→N.length=30→(∀o∈N,SmQ 256 (o.getD 0))→PN N p st→SmO st→
  ∃ob' nx' N' X',loopN (evC (evF E n) n Fn.y1u) K ⟨env ((6,.one y)::(7,y7)::(8,y8)::(9,y9)::(13,.one (.box bb 0))::(14,.one (.int .i64 (p:Int)))::(15,.one (.bool st.isSome))::(16,.one (.int .i64 (i:Int)))::X),ob,fz,nx⟩=
   some (.ext 6,⟨env ((6,.one y)::(7,y7)::(8,y8)::(9,y9)::(13,.one (.box bb 0))::(14,.one (.int .i64 (p:Int)))::(15,.one (.bool (r.foldl (stepP p) st).isSome))::X'),ob',fz,nx'⟩)∧
   ob' bb=some (.box (flatN N'))∧N'.length=30∧(∀o∈N',SmQ 256 (o.getD 0))∧PN N' p (r.foldl (stepP p) st)∧SmO (r.foldl (stepP p) st)∧(∀k,k<30→¬(6*p≤k∧k<6*p+6)→N'[k]? =N[k]?)∧nx≤nx'∧∀id,id<base→ob' id=ob id:=by
 by_cases hy:∃b vb,y=.rsl b vb 17 0 l.length false∧b<base
 case neg=>
  refine ⟨0,fun n hn r i hi hdr ob fz nx st N X K hK hY hbx obb hN sN hPN hst=> ?_⟩
  obtain ⟨K,rfl⟩:∃k,K=k+1:=⟨K-1,by omega⟩
  rcases hY with ⟨rfl,rfl⟩ | ⟨b,vb,h1,h2,h3⟩
  ·have hr0:r=[]:=by rw [←hdr];simp
   have hi0:i=0:=by simp at hi;omega
   subst hr0;subst hi0
   have h1:(((0:Nat):Int)<((0:Nat):Int))=False:=by simp
   refine ⟨ob,nx,N,[(16,.one (.int .i64 ((0:Nat):Int))),(107,.one (.bool false))],y09 ?_,obb,hN,sN,hPN,hst,fun _ _ _=>rfl,Nat.le_refl _,fun _ _=>rfl⟩
   simp only [go_sem,Fn.y1u,h1]
   rfl
  ·exact absurd ⟨b,vb,h1,h3⟩ hy
 obtain ⟨b,vb,rfl,hb⟩:=hy
 obtain ⟨Ma,hMa⟩:=yio y7 y8 y9 l hl b vb hb hbb hp true
 obtain ⟨Mb,hMb⟩:=yio y7 y8 y9 l hl b vb hb hbb hp false
 refine ⟨Ma+Mb+4,fun n hn r=> ?_⟩
 induction r with
 | nil=>
  intro i hi hdr ob fz nx st N X K hK hY hbx obb hN sN hPN hst
  obtain ⟨K,rfl⟩:∃k,K=k+1:=⟨K-1,by omega⟩
  have h1:(((i:Nat):Int)<((l.length:Nat):Int))=False:=by simp at hi ⊢;omega
  refine ⟨ob,nx,N,[(16,.one (.int .i64 (i:Int))),(107,.one (.bool false))],y09 ?_,obb,hN,sN,hPN,hst,fun _ _ _=>rfl,Nat.le_refl _,fun _ _=>rfl⟩
  simp only [go_sem,Fn.y1u,h1]
  rfl
 | cons x r ih=>
  intro i hi hdr ob fz nx st N X K hK hY hbx obb hN sN hPN hst
  obtain ⟨K,rfl⟩:∃k,K=k+1:=⟨K-1,by omega⟩
  simp only [List.length_cons] at hi hK
  obtain ⟨gx,hdr',hxm⟩:=y92 hdr
  obtain ⟨sx,hph⟩:=hs x hxm
  have hrow:ob b=some (.row 17 (l.map Rcd.r) vb):=by
   rcases hY with ⟨rfl,-⟩ | ⟨b',vb',h1,h2,h3⟩
   ·simp at gx
   ·cases h1;exact h2
  have hil:i<l.length:=by omega
  have h1:(((i:Nat):Int)<((l.length:Nat):Int))=True:=by simp;omega
  have hib:(i<l.length)=True:=eq_true hil
  have wk:IntKind.i64.wrap ((i+1:Nat):Int)=((i+1:Nat):Int):=wi64 (by omega)
  have wp:=u8i64 (k:=x.ph) (by omega)
  have hr0:rowAt ob b vb=some (17,l.map Rcd.r):=y25 hrow
  have gl:(l.map Rcd.r)[i]? =some x.r:=by rw [List.getElem?_map,gx];rfl
  have hx17:=y9w x
  have ht:x.r.take 1=[AV.int .u8 (x.ph:Int)]:=rfl
  have ni:Ev.natOf (i:Int)=some i:=y4q _
  rw [List.foldl_cons]
  by_cases he:x.ph=p
  ·have q:(((x.ph:Nat):Int) !=((p:Nat):Int))=false:=by rw [he];simp
   have hlo:∃ob1 nx1 N1 X1,loopN (evC (evF E n) n Fn.y16) n ⟨env [(6,.one (.rsl b vb 17 0 l.length false)),(7,y7),(8,y8),(9,y9),(13,.one (.box bb 0)),(14,.one (.int .i64 (p:Int))),(15,.one (.bool st.isSome)),(16,.one (.int .i64 (i:Int))),(17,.one (.int .i64 0))],ob,fz,nx⟩=
     some (.ext 8,⟨env ((6,.one (.rsl b vb 17 0 l.length false))::(7,y7)::(8,y8)::(9,y9)::(13,.one (.box bb 0))::(14,.one (.int .i64 (p:Int)))::(15,.one (.bool st.isSome))::(16,.one (.int .i64 (i:Int)))::X1),ob1,fz,nx1⟩)∧ob1 bb=some (.box (flatN N1))∧N1.length=30∧(∀k,k<30→N1[k]? =if 6*p≤k∧k<6*p+6 then some (newV N p st.isSome x.s (k-6*p)) else N[k]?)∧nx≤nx1∧∀id,id<base→ob1 id=ob id:=by
    cases hso:st.isSome with
    | true=>exact hMa n (by omega) i x N gx sx hN sN (fun _ j hj=>by obtain ⟨v,hv⟩:=ykr hso j hj;exact ⟨v,(hPN j hj).trans hv⟩) 3 0 rfl ob fz nx N [] n (by omega) hbx hrow obb hN (fun k hk=>by rw [if_neg (by omega)])
    | false=>exact hMb n (by omega) i x N gx sx hN sN (fun h=>by cases h) 3 0 rfl ob fz nx N [] n (by omega) hbx hrow obb hN (fun k hk=>by rw [if_neg (by omega)])
   obtain ⟨ob1,nx1,N1,X1,hlo,b1,b2,b3,b4,b5⟩:=hlo
   have hPN1:PN N1 p (stepP p st x):=fun j hj=>by
    rw [b3 _ (by omega),if_pos ⟨by omega,by omega⟩,show 6*p+j-6*p=j by omega]
    exact yff hPN x he j hj
   have hst1:=yhb (p:=p) hst sx
   have hso1:(stepP p st x).isSome=true:=by rw [yks,decide_eq_true he];rfl
   have sN1:∀o∈N1,SmQ 256 (o.getD 0):=fun o ho=>by
    obtain ⟨k,hok⟩:=List.getElem?_of_mem ho
    have hk30:k<30:=by rw [←b2];exact (List.getElem?_eq_some_iff.1 hok).1
    rw [b3 k hk30] at hok
    split at hok
    ·rename_i h
     rw [yff hPN x he _ (by omega)] at hok
     exact yq5 hst1 o (List.mem_of_getElem? hok)
    ·exact sN o (List.mem_of_getElem? hok)
   have hst0:evC (evF E n) n Fn.y1u ⟨env ((6,.one (.rsl b vb 17 0 l.length false))::(7,y7)::(8,y8)::(9,y9)::(13,.one (.box bb 0))::(14,.one (.int .i64 (p:Int)))::(15,.one (.bool st.isSome))::(16,.one (.int .i64 (i:Int)))::X),ob,fz,nx⟩=
     some (.nrm,⟨env [(6,.one (.rsl b vb 17 0 l.length false)),(7,y7),(8,y8),(9,y9),(13,.one (.box bb 0)),(14,.one (.int .i64 (p:Int))),(15,.one (.bool (stepP p st x).isSome)),(16,.one (.int .i64 ((i+1:Nat):Int)))],ob1,fz,nx1⟩):=by
    rw [hso1]
    simp only [go_sem,Fn.y1u,h1,hib,hr0,gl,hx17,ht,ni,wp,q,hlo,add1,wk]
   rw [y08 hst0]
   obtain ⟨ob2,nx2,N2,X2,q1,q2,q3,q4,q5,q6,q7,q8,q9⟩:=ih (i+1) (by omega) hdr' ob1 fz nx1 (stepP p st x) N1 [] K (by omega) (hY.frame b5) (by omega) b1 b2 sN1 hPN1 hst1
   exact ⟨ob2,nx2,N2,X2,q1,q2,q3,q4,q5,q6,fun k hk hn=>by rw [q7 k hk hn,b3 k hk,if_neg hn],by omega,fun id hid=>(q9 id hid).trans (b5 id hid)⟩
  ·have q:(((x.ph:Nat):Int) !=((p:Nat):Int))=true:=by simp only [bne_iff_ne,ne_eq];omega
   have hst1:stepP p st x=st:=by unfold stepP;rw [if_neg he]
   rw [hst1]
   have hst0:evC (evF E n) n Fn.y1u ⟨env ((6,.one (.rsl b vb 17 0 l.length false))::(7,y7)::(8,y8)::(9,y9)::(13,.one (.box bb 0))::(14,.one (.int .i64 (p:Int)))::(15,.one (.bool st.isSome))::(16,.one (.int .i64 (i:Int)))::X),ob,fz,nx⟩=
     some (.nrm,⟨env [(6,.one (.rsl b vb 17 0 l.length false)),(7,y7),(8,y8),(9,y9),(13,.one (.box bb 0)),(14,.one (.int .i64 (p:Int))),(15,.one (.bool st.isSome)),(16,.one (.int .i64 ((i+1:Nat):Int)))],ob,fz,nx⟩):=by
    simp only [go_sem,Fn.y1u,h1,hib,hr0,gl,hx17,ht,ni,wp,q,add1,wk]
   rw [y08 hst0]
   exact ih (i+1) (by omega) hdr' ob fz nx st N [] K (by omega) hY hbx obb hN sN hPN hst
def raw3 (a b c:Option Rat):List AV:=rawQ a++rawQ b++rawQ c
def frz3 (a b c:Option Rat):List AV:=frzQ a++frzQ b++frzQ c
theorem y9l (o:Option Rat):∃a b c d a' b' c' d',rawQ o=[a,b,c,d]∧frzQ o=[a',b',c',d']∧(∀(ob:Nat→Option AObj) (fz:Nat→Nat),frz ob DEPTH fz a=some (fz,a'))∧(∀(ob:Nat→Option AObj) (fz:Nat→Nat),frz ob DEPTH fz b=some (fz,b'))∧(∀(ob:Nat→Option AObj) (fz:Nat→Nat),frz ob DEPTH fz c=some (fz,c'))∧∀(ob:Nat→Option AObj) (fz:Nat→Nat),frz ob DEPTH fz d=some (fz,d'):=by
 cases o with
 | none=>exact ⟨_,_,_,_,_,_,_,_,rfl,rfl,fun ob fz=>yau ob fz _,fun ob fz=>ya9 ob fz,fun ob fz=>yau ob fz _,fun ob fz=>ya9 ob fz⟩
 | some q=>
  obtain ⟨a,b,c,d,e,f1,f2,f3,f4⟩:=y83 q
  exact ⟨a,b,c,d,a,b,c,d,e,e,f1,f2,f3,f4⟩
theorem yo3 (a b c:Option Rat):FzS (.agg (raw3 a b c)) (.agg (frz3 a b c)):=fun ob fz=>by
 obtain ⟨x1,x2,x3,x4,y1,y2,y3,y4,e1,e2,f1,f2,f3,f4⟩:=y9l a
 obtain ⟨x5,x6,x7,x8,y5,y6,y7,y8,e3,e4,f5,f6,f7,f8⟩:=y9l b
 obtain ⟨x9,x10,x11,x12,y9,y10,y11,y12,e5,e6,f9,f10,f11,f12⟩:=y9l c
 unfold raw3 frz3
 rw [e1,e2,e3,e4,e5,e6]
 simp only [List.cons_append,List.nil_append,yg3,mapFz,f1,f2,f3,f4,f5,f6,f7,f8,f9,f10,f11,f12,yf3]
theorem yew:∃N,∀n,N≤n→∀(s:Samp) (a b c:Option Rat),SmSamp s→a.getD 0=s.load→b.getD 0=s.angle→c.getD 0=s.speed→∀(ob:Nat→Option AObj) (fz:Nat→Nat),callV (evF E n) Id.y0s [.agg s.c,.agg (raw3 a b c)] ob fz=some (.fzd fz (.one (.bool true))):=by
 obtain ⟨N,hN⟩:=ynl 256 (by decide)
 refine ⟨N+1,fun n hn s a b c hs ha hb hc ob fz=> ?_⟩
 obtain ⟨n,rfl⟩:∃k,n=k+1:=⟨n-1,by omega⟩
 have k1:=hN n (by omega) a (by rw [ha];exact hs.load)
 have k2:=hN n (by omega) b (by rw [hb];exact hs.angle)
 have k3:=hN n (by omega) c (by rw [hc];exact hs.speed)
 rw [ha] at k1
 rw [hb] at k2
 rw [hc] at k3
 refine yei (?_:evV E (n+1) Id.y0s [.agg s.c,.agg (frz3 a b c)]=some (.one (.bool true))) ((CanL.samp s).agg.fzs.two (yo3 a b c)) ob fz
 obtain ⟨x1,x2,x3,ex,-,-,-⟩:=y0n s.load
 obtain ⟨x4,x5,x6,ey,-,-,-⟩:=y0n s.angle
 obtain ⟨x7,x8,x9,ez,-,-,-⟩:=y0n s.speed
 obtain ⟨y1,y2,y3,y4,e1⟩:=frzQ4 a
 obtain ⟨y5,y6,y7,y8,e2⟩:=frzQ4 b
 obtain ⟨y9,y10,y11,y12,e3⟩:=frzQ4 c
 have es:=ybx s _ _ _ _ _ _ _ _ _ ex ey ez
 have ef:frz3 a b c=[y1,y2,y3,y4,y5,y6,y7,y8,y9,y10,y11,y12]:=by unfold frz3;rw [e1,e2,e3];rfl
 rw [ex,e1] at k1
 rw [ey,e2] at k2
 rw [ez,e3] at k3
 have u0:Ev.natOf 0=some 0:=rfl
 have u1:Ev.natOf 1=some 1:=rfl
 have u2:Ev.natOf 2=some 2:=rfl
 rw [y06 y8h,es,ef]
 simp only [go_sem,Fn.y0s,u0,u1,u2,k1,k2,k3]
def RelP (q:Bx×Bool) (st:Option Bx):Prop:=match st with | none=>q=bx0 | some b=>q=(b,true)
theorem RelP.known {q:Bx×Bool} {st:Option Bx} (h:RelP q st):q.2=st.isSome:=by
 cases st with
 | none=>unfold RelP at h;rw [h];rfl
 | some b=>unfold RelP at h;rw [h];rfl
theorem RelP.step {q:Bx×Bool} {st:Option Bx} (h:RelP q st) (x:Rcd):RelP (joinB (bxOf q x) x.s,true) (some (match st with | none=>⟨x.s,x.s⟩ | some b=>joinB b x.s)):=by
 cases st with
 | none=>
  unfold RelP at h
  subst h
  show (joinB (bxOf bx0 x) x.s,true)=((⟨x.s,x.s⟩:Bx),true)
  have e:bxOf bx0 x=⟨x.s,x.s⟩:=rfl
  rw [e]
  have m:∀a:Rat,minQ a a=a:=fun a=>by rw [yjd];split<;>rfl
  have m':∀a:Rat,maxQ a a=a:=fun a=>by rw [yjg];split<;>rfl
  unfold joinB
  simp only [m,m']
 | some b=>
  unfold RelP at h
  subst h
  rfl
theorem yc9 (p:Nat):∀(l:List Rcd) (S:List (Bx×Bool)) (st:Option Bx) (q:Bx×Bool),S.length=5→(∀x∈l,x.ph<5)→S[p]? =some q→RelP q st→∃q',(boxL S l)[p]? =some q'∧RelP q' (l.foldl (stepP p) st)
 | [],S,st,q,hS,hl,hq,hr=>⟨q,hq,hr⟩
 | x::r,S,st,q,hS,hl,hq,hr=>by
  unfold boxL
  rw [List.foldl_cons]
  have hx:=hl x (by simp)
  by_cases e:x.ph=p
  ·refine yc9 p r (boxS S x) (stepP p st x) (joinB (bxOf q x) x.s,true) (by rw [y9q];exact hS) (fun y hy=>hl y (by simp [hy])) ?_ ?_
   ·unfold boxS
    rw [e,hq,List.getElem?_set_self (by rw [hS];omega)];rfl
   ·unfold stepP
    rw [if_pos e]
    cases st with
    | none=>exact hr.step x
    | some b=>exact hr.step x
  ·refine yc9 p r (boxS S x) (stepP p st x) q (by rw [y9q];exact hS) (fun y hy=>hl y (by simp [hy])) ?_ ?_
   ·unfold boxS
    rw [List.getElem?_set_ne e];exact hq
   ·unfold stepP
    rw [if_neg e];exact hr
theorem ydr {N:List (Option Rat)} {k:Nat} {a b c:Option Rat} (h1:N[k]? =some a) (h2:N[k+1]? =some b) (h3:N[k+2]? =some c):((flatN N).drop (4*k)).take 12=raw3 a b c:=by
 have k1:=(List.getElem?_eq_some_iff.1 h1).1
 have k2:=(List.getElem?_eq_some_iff.1 h2).1
 have k3:=(List.getElem?_eq_some_iff.1 h3).1
 rw [List.getElem?_eq_getElem k1] at h1
 rw [List.getElem?_eq_getElem k2] at h2
 rw [List.getElem?_eq_getElem k3] at h3
 rw [y71,List.drop_eq_getElem_cons k1,List.drop_eq_getElem_cons k2,List.drop_eq_getElem_cons k3]
 simp only [flatN]
 cases h1;cases h2;cases h3
 unfold raw3
 rw [←List.append_assoc,←List.append_assoc,List.take_append,List.take_of_length_le (by simp only [List.length_append,y6t];omega)]
 simp only [List.length_append,y6t]
 simp
def stF (l:List Rcd) (p:Nat):Option Bx:=l.foldl (stepP p) none
theorem ys7 {l:List Rcd} (hs:∀x∈l,SmSamp x.s) (p:Nat):SmO (stF l p):=by
 have:∀(l:List Rcd) (st:Option Bx),SmO st→(∀x∈l,SmSamp x.s)→SmO (l.foldl (stepP p) st):=by
  intro l
  induction l with
  | nil=>intro st h _;exact h
  | cons x r ih=>intro st h hl;rw [List.foldl_cons];exact ih _ (yhb h (hl x (by simp))) fun y hy=>hl y (by simp [hy])
 exact this l none trivial hs
set_option maxRecDepth 100000 in
theorem yoy {base bb:Nat} (y9:SV) (l:List Rcd) (hl:l.length<2^20) (hs:∀x∈l,SmSamp x.s∧x.ph<5) (hbb:base≤bb) (y:AV) (S:List (Bx×Bool)) (hS:S.length=5) (hrel:∀p,p<5→∃q,S[p]? =some q∧RelP q (stF l p)):∃M,∀n,M≤n→∀(r p:Nat),p+r=5→∀(ob:Nat→Option AObj) (fz:Nat→Nat) (nx:Nat) (N:List (Option Rat)) (X:List (Nat×SV)) (K:Nat),r<K→YOk ob base y l→bb<nx→ob bb=some (.box (flatN N))→N.length=30→(∀o∈N,SmQ 256 (o.getD 0))→(∀p',p'<5→PN N p' (if p'<p then stF l p' else none))→
  ∃ob' nx' N' X',loopN (evC (evF E n) n Fn.y39) K ⟨env ((6,.one y)::(7,.one (.sl false (S.map fun q=>q.1.c)))::(8,.one (.sl false (S.map rawK)))::(9,y9)::(13,.one (.box bb 0))::(14,.one (.int .i64 (p:Int)))::X),ob,fz,nx⟩=
   some (.ext 4,⟨env ((6,.one y)::(7,.one (.sl false (S.map fun q=>q.1.c)))::(8,.one (.sl false (S.map rawK)))::(9,y9)::(13,.one (.box bb 0))::X'),ob',fz,nx'⟩)∧
   ob' bb=some (.box (flatN N'))∧N'.length=30∧(∀p',p'<5→PN N' p' (stF l p'))∧bb<nx'∧nx≤nx'∧YOk ob' base y l∧∀id,id<base→ob' id=ob id:=by
 obtain ⟨M0,hM0⟩:=y8c (p:=0) (.one (.sl false (S.map fun q=>q.1.c))) (.one (.sl false (S.map rawK))) y9 l hl hs hbb (by decide) y
 obtain ⟨M1,hM1⟩:=y8c (p:=1) (.one (.sl false (S.map fun q=>q.1.c))) (.one (.sl false (S.map rawK))) y9 l hl hs hbb (by decide) y
 obtain ⟨M2,hM2⟩:=y8c (p:=2) (.one (.sl false (S.map fun q=>q.1.c))) (.one (.sl false (S.map rawK))) y9 l hl hs hbb (by decide) y
 obtain ⟨M3,hM3⟩:=y8c (p:=3) (.one (.sl false (S.map fun q=>q.1.c))) (.one (.sl false (S.map rawK))) y9 l hl hs hbb (by decide) y
 obtain ⟨M4,hM4⟩:=y8c (p:=4) (.one (.sl false (S.map fun q=>q.1.c))) (.one (.sl false (S.map rawK))) y9 l hl hs hbb (by decide) y
 obtain ⟨Ms,hMs⟩:=yew
 refine ⟨M0+M1+M2+M3+M4+Ms+l.length+1,fun n hn r=> ?_⟩
 have hMs:=hMs n (by omega)
 induction r with
 | zero=>
  intro p hp ob fz nx N X K hK hY hbx obb hN sN hPN
  obtain ⟨K,rfl⟩:∃k,K=k+1:=⟨K-1,by omega⟩
  have h1:(((p:Nat):Int)<5)=False:=by simp;omega
  refine ⟨ob,nx,N,[(14,.one (.int .i64 (p:Int))),(101,.one (.bool false))],y09 ?_,obb,hN,fun p' hp'=> ?_,hbx,Nat.le_refl _,hY,fun _ _=>rfl⟩
  ·simp only [go_sem,Fn.y39,h1]
  ·have:=hPN p' hp'
   rw [if_pos (by omega)] at this
   exact this
 | succ r ih=>
  intro p hp ob fz nx N X K hK hY hbx obb hN sN hPN
  obtain ⟨K,rfl⟩:∃k,K=k+1:=⟨K-1,by omega⟩
  have hp5:p<5:=by omega
  have h1:(((p:Nat):Int)<5)=True:=by simp;omega
  have wk:IntKind.i64.wrap ((p+1:Nat):Int)=((p+1:Nat):Int):=wi64 (by omega)
  have hPp:=hPN p hp5
  rw [if_neg (by omega)] at hPp
  have hlo:∃ob' nx' N' X',loopN (evC (evF E n) n Fn.y1u) n ⟨env [(6,.one y),(7,.one (.sl false (S.map fun q=>q.1.c))),(8,.one (.sl false (S.map rawK))),(9,y9),(13,.one (.box bb 0)),(14,.one (.int .i64 (p:Int))),(15,.one (.bool false)),(16,.one (.int .i64 0))],ob,fz,nx⟩=
    some (.ext 6,⟨env ((6,.one y)::(7,.one (.sl false (S.map fun q=>q.1.c)))::(8,.one (.sl false (S.map rawK)))::(9,y9)::(13,.one (.box bb 0))::(14,.one (.int .i64 (p:Int)))::(15,.one (.bool (stF l p).isSome))::X'),ob',fz,nx'⟩)∧
    ob' bb=some (.box (flatN N'))∧N'.length=30∧(∀o∈N',SmQ 256 (o.getD 0))∧PN N' p (stF l p)∧SmO (stF l p)∧(∀k,k<30→¬(6*p≤k∧k<6*p+6)→N'[k]? =N[k]?)∧nx≤nx'∧∀id,id<base→ob' id=ob id:=by
   have hc:p=0∨p=1∨p=2∨p=3∨p=4:=by omega
   rcases hc with rfl | rfl | rfl | rfl | rfl
   ·exact hM0 n (by omega) l 0 (by omega) List.drop_zero ob fz nx none N [] n (by omega) hY hbx obb hN sN hPp trivial
   ·exact hM1 n (by omega) l 0 (by omega) List.drop_zero ob fz nx none N [] n (by omega) hY hbx obb hN sN hPp trivial
   ·exact hM2 n (by omega) l 0 (by omega) List.drop_zero ob fz nx none N [] n (by omega) hY hbx obb hN sN hPp trivial
   ·exact hM3 n (by omega) l 0 (by omega) List.drop_zero ob fz nx none N [] n (by omega) hY hbx obb hN sN hPp trivial
   ·exact hM4 n (by omega) l 0 (by omega) List.drop_zero ob fz nx none N [] n (by omega) hY hbx obb hN sN hPp trivial
  obtain ⟨ob1,nx1,N1,X1,hlo,b1,b2,b3,b4,b5,b6,b7,b8⟩:=hlo
  obtain ⟨q,gq,hq⟩:=hrel p hp5
  have hkn:=hq.known
  have gK:(S.map rawK)[p]? =some [.bool (stF l p).isSome]:=by rw [List.getElem?_map,gq,Option.map_some];unfold rawK;rw [hkn]
  have okK:okSz 1 (S.map rawK)=true:=y6e (f:=rawK) (k:=1) (fun _=>rfl) S
  have okB:okSz 18 (S.map fun q=>q.1.c)=true:=y6e (f:=fun q:Bx×Bool=>q.1.c) (k:=18) (fun _=>rfl) S
  have gB:(S.map fun q=>q.1.c)[p]? =some q.1.c:=by rw [List.getElem?_map,gq];rfl
  have l18:q.1.c.length=18:=rfl
  have t9:q.1.c.take 9=q.1.low.c:=rfl
  have d9:(q.1.c.drop 9).take 9=q.1.high.c:=rfl
  obtain ⟨n0,n1,n2,n3,n4,n5,hnum⟩:∃n0 n1 n2 n3 n4 n5,numsP (stF l p)=[n0,n1,n2,n3,n4,n5]:=by
   cases stF l p with
   | none=>exact ⟨_,_,_,_,_,_,rfl⟩
   | some b=>exact ⟨_,_,_,_,_,_,rfl⟩
  have hvals:SmSamp q.1.low∧SmSamp q.1.high∧n0.getD 0=q.1.low.load∧n1.getD 0=q.1.low.angle∧n2.getD 0=q.1.low.speed∧n3.getD 0=q.1.high.load∧n4.getD 0=q.1.high.angle∧n5.getD 0=q.1.high.speed:=by
   cases hst:stF l p with
   | none=>
    rw [hst] at hq hnum
    unfold RelP at hq
    subst hq
    unfold numsP at hnum
    simp only [List.replicate,List.cons.injEq,and_true] at hnum
    obtain ⟨rfl,rfl,rfl,rfl,rfl,rfl⟩:=hnum
    exact ⟨⟨sm0 255,sm0 255,sm0 255⟩,⟨sm0 255,sm0 255,sm0 255⟩,rfl,rfl,rfl,rfl,rfl,rfl⟩
   | some b=>
    rw [hst] at hq hnum b5
    unfold RelP at hq
    subst hq
    unfold numsP numsB at hnum
    simp only [List.cons.injEq,and_true] at hnum
    obtain ⟨rfl,rfl,rfl,rfl,rfl,rfl⟩:=hnum
    exact ⟨b5.low,b5.high,rfl,rfl,rfl,rfl,rfl,rfl⟩
  obtain ⟨v0,v1,v2,v3,v4,v5,v6,v7⟩:=hvals
  have P:=b4
  unfold PN at P
  rw [hnum] at P
  have P0:=P 0 (by decide)
  have P1:=P 1 (by decide)
  have P2:=P 2 (by decide)
  have P3:=P 3 (by decide)
  have P4:=P 4 (by decide)
  have P5:=P 5 (by decide)
  have g1:=ydr P0 P1 P2
  have g2:=ydr P3 P4 P5
  have hf1:(flatN N1).length=120:=by rw [y8k,b2]
  have eA:4*(6*p+0)=p*24:=by omega
  have eB:4*(6*p+3)=p*24+12:=by omega
  rw [eA] at g1
  rw [eB] at g2
  have cA:(p*24+12≤120)=True:=by simp;omega
  have cB:(p*24+12+12≤120)=True:=by simp;omega
  have s1:=hMs q.1.low n0 n1 n2 v0 v2 v3 v4
  have s2:=hMs q.1.high n3 n4 n5 v1 v5 v6 v7
  have np:Ev.natOf (p:Int)=some p:=y4q _
  have hpb:(p<5)=True:=eq_true hp5
  have lb:(bb<nx1)=True:=by simp;omega
  have bq:∀b:Bool,(b==b)=true:=fun b=>by cases b<;>rfl
  have hst0:evC (evF E n) n Fn.y39 ⟨env ((6,.one y)::(7,.one (.sl false (S.map fun q=>q.1.c)))::(8,.one (.sl false (S.map rawK)))::(9,y9)::(13,.one (.box bb 0))::(14,.one (.int .i64 (p:Int)))::X),ob,fz,nx⟩=
    some (.nrm,⟨env [(6,.one y),(7,.one (.sl false (S.map fun q=>q.1.c))),(8,.one (.sl false (S.map rawK))),(9,y9),(13,.one (.box bb 0)),(14,.one (.int .i64 ((p+1:Nat):Int)))],ob1,fz,nx1⟩):=by
   simp only [go_sem,Fn.y39,h1,hlo,gK,okK,okB,gB,l18,t9,d9,b1,hf1,cA,cB,g1,g2,s1,s2,np,hpb,lb,bq,add1,wk]
  rw [y08 hst0]
  obtain ⟨ob2,nx2,N2,X2,q1,q2,q3,q4,q5,q6,q7,q8⟩:=ih (p+1) (by omega) ob1 fz nx1 N1 [] K (by omega) (hY.frame b8) (by omega) b1 b2 b3 (fun p' hp'=>by
   by_cases e:p'=p
   ·subst e
    rw [if_pos (by omega)];exact b4
   ·have hold:=hPN p' hp'
    have e2:(if p'<p+1 then stF l p' else none)=if p'<p then stF l p' else none:=by
     by_cases h:p'<p
     ·rw [if_pos h,if_pos (by omega)]
     ·rw [if_neg h,if_neg (by omega)]
    rw [e2]
    intro j hj
    rw [b6 _ (by omega) (by omega)]
    exact hold j hj)
  exact ⟨ob2,nx2,N2,X2,q1,q2,q3,q4,q5,by omega,q7,fun id hid=>(q8 id hid).trans (b8 id hid)⟩
end Go.Ev
namespace Go.Ev
open Go.Dig
theorem ysw {N:List (Option Rat)} {p:Nat} {b:Bx} (h:PN N p (some b)) (hN:N.length=30) (hp:p<5):((flatN N).drop (p*24)).take 24=b.r:=by
 have e:(N.drop (6*p)).take 6=numsB b:=by
  apply List.ext_getElem?
  intro j
  by_cases hj:j<6
  ·rw [List.getElem?_take,if_pos hj,List.getElem?_drop]
   exact h j hj
  ·rw [List.getElem?_take,if_neg hj,List.getElem?_eq_none (show (numsB b).length≤j from by show 6≤j;omega)]
 rw [show p*24=4*(6*p) by omega,y71,show (24:Nat)=4*6 from rfl,y9p,e]
 unfold numsB Bx.r Samp.r
 simp only [flatN,rawQ,List.append_nil,List.append_assoc]
theorem yl6 (S:List (Bx×Bool)) (i:Nat) (x:Rcd) (p m:Nat):mixR S i x p (m+1)=(if mixP S x p=true then [(i,p)] else [])++mixR S i x (p+1) m:=by
 unfold mixR
 rw [List.range'_succ,List.filter_cons]
 split<;>rfl
set_option maxRecDepth 100000 in
theorem yok {base bb:Nat} (l:List Rcd) (hl:l.length<2^20) (hs:∀x∈l,SmSamp x.s∧x.ph<5) (hbb:base≤bb) (S:List (Bx×Bool)) (hS:S.length=5) (hrel:∀p,p<5→∃q,S[p]? =some q∧RelP q (stF l p)) (T:List (Nat×Nat)) (hT:T.length<2^30) (b vb:Nat) (hb:b<base) (N:List (Option Rat)) (hN:N.length=30) (hPN:∀p,p<5→PN N p (stF l p)) (i:Nat) (x:Rcd) (gx:l[i]? =some x):∃M,∀n,M≤n→∀(ob:Nat→Option AObj) (fz:Nat→Nat) (nx:Nat),bb<nx→ob b=some (.row 17 (l.map Rcd.r) vb)→ob bb=some (.box (flatN N))→∀(m p:Nat),p+m=5→∀(pre post:List (Nat×Nat)) (X:List (Nat×SV)) (K:Nat),m<K→T=pre++(mixR S i x p m++post)→
  ∃X',loopN (evC (evF E n) n Fn.y0y) K ⟨env ((6,.one (.rsl b vb 17 0 l.length false))::(8,.one (.sl false (S.map rawK)))::(9,.one (.sl false (T.map mixC)))::(13,.one (.box bb 0))::(19,.one (.int .i64 (pre.length:Int)))::(20,.one (.int .i64 (i:Int)))::(21,.one (.int .i64 (p:Int)))::X),ob,fz,nx⟩=
   some (.ext 12,⟨env ((6,.one (.rsl b vb 17 0 l.length false))::(8,.one (.sl false (S.map rawK)))::(9,.one (.sl false (T.map mixC)))::(13,.one (.box bb 0))::(19,.one (.int .i64 ((pre++mixR S i x p m).length:Int)))::(20,.one (.int .i64 (i:Int)))::X'),ob,fz,nx⟩):=by
 have hss:∀x∈l,SmSamp x.s:=fun x hx=>(hs x hx).1
 have hxm:=List.mem_of_getElem? gx
 obtain ⟨sx,hph⟩:=hs x hxm
 obtain ⟨M,hM⟩:∃M,∀n,M≤n→∀p∈[0,1,2,3,4],∀b,stF l p=some b→∀(ob:Nat→Option AObj) (fz:Nat→Nat),callV (evF E n) Id.y2b [.agg b.r,.agg x.s.r] ob fz=some (.fzd fz (.one (.bool (hasBx b x.s)))):=by
  refine yhg _ fun p _=> ?_
  cases h:stF l p with
  | none=>exact ⟨0,fun n _ b hb=>by cases hb⟩
  | some b=>
   have hsb:=ys7 hss p
   rw [h] at hsb
   obtain ⟨M,hM⟩:=yod b x.s hsb sx
   exact ⟨M,fun n hn b' hb'=>by cases hb';exact hM n hn⟩
 refine ⟨M,fun n hn ob fz nx hbx hrow obb m=> ?_⟩
 have hM:=hM n hn
 have hil:i<l.length:=(List.getElem?_eq_some_iff.1 gx).1
 have hib:(i<l.length)=True:=eq_true hil
 have wp:=u8i64 (k:=x.ph) (by omega)
 have hr0:rowAt ob b vb=some (17,l.map Rcd.r):=y25 hrow
 have gl:(l.map Rcd.r)[i]? =some x.r:=by rw [List.getElem?_map,gx];rfl
 have hx17:=y9w x
 have ht:x.r.take 1=[AV.int .u8 (x.ph:Int)]:=rfl
 have hts:(x.r.drop 1).take 12=x.s.r:=rfl
 have hf:(flatN N).length=120:=by rw [y8k,hN]
 have ni:Ev.natOf (i:Int)=some i:=y4q _
 have lb:(bb<nx)=True:=by simp;omega
 have lb2:(b<nx)=True:=by simp;omega
 have okK:okSz 1 (S.map rawK)=true:=y6e (f:=rawK) (k:=1) (fun _=>rfl) S
 have okT:okSz 2 (T.map mixC)=true:=y6e (f:=mixC) (k:=2) (fun _=>rfl) T
 induction m with
 | zero=>
  intro p hp pre post X K hK hT'
  obtain ⟨K,rfl⟩:∃k,K=k+1:=⟨K-1,by omega⟩
  have h1:(((p:Nat):Int)<5)=False:=by simp;omega
  have e:mixR S i x p 0=[]:=rfl
  rw [e,List.append_nil]
  refine ⟨[(21,.one (.int .i64 (p:Int))),(206,.one (.bool false))],y09 ?_⟩
  simp only [go_sem,Fn.y0y,h1]
 | succ m ih=>
  intro p hp pre post X K hK hT'
  obtain ⟨K,rfl⟩:∃k,K=k+1:=⟨K-1,by omega⟩
  have hp5:p<5:=by omega
  have h1:(((p:Nat):Int)<5)=True:=by simp;omega
  have wk:IntKind.i64.wrap ((p+1:Nat):Int)=((p+1:Nat):Int):=wi64 (by omega)
  have np:Ev.natOf (p:Int)=some p:=y4q _
  have hpb:(p<5)=True:=eq_true hp5
  obtain ⟨q,gq,hq⟩:=hrel p hp5
  have hkn:=hq.known
  have gK:(S.map rawK)[p]? =some [.bool q.2]:=by rw [List.getElem?_map,gq,Option.map_some];rfl
  have cA:(p*24+24≤120)=True:=by simp;omega
  have hmix:mixP S x p=(q.2&&(decide (p≠x.ph)&&hasBx q.1 x.s)):=by unfold mixP;rw [gq]
  rw [yl6] at hT' ⊢
  cases hk:q.2 with
  | false=>
   rw [hk] at hmix gK
   rw [hmix,Bool.false_and,if_neg (by simp),List.nil_append] at hT' ⊢
   have hst0:evC (evF E n) n Fn.y0y ⟨env ((6,.one (.rsl b vb 17 0 l.length false))::(8,.one (.sl false (S.map rawK)))::(9,.one (.sl false (T.map mixC)))::(13,.one (.box bb 0))::(19,.one (.int .i64 (pre.length:Int)))::(20,.one (.int .i64 (i:Int)))::(21,.one (.int .i64 (p:Int)))::X),ob,fz,nx⟩=
     some (.nrm,⟨env [(6,.one (.rsl b vb 17 0 l.length false)),(8,.one (.sl false (S.map rawK))),(9,.one (.sl false (T.map mixC))),(13,.one (.box bb 0)),(19,.one (.int .i64 (pre.length:Int))),(20,.one (.int .i64 (i:Int))),(21,.one (.int .i64 ((p+1:Nat):Int)))],ob,fz,nx⟩):=by
    simp only [go_sem,Fn.y0y,h1,gK,okK,np,add1,wk]
   rw [y08 hst0]
   exact ih (p+1) (by omega) pre post [] K (by omega) hT'
  | true=>
   rw [hk] at hmix gK hkn
   rw [Bool.true_and] at hmix
   obtain ⟨bx,hbx'⟩:∃bx,stF l p=some bx:=Option.isSome_iff_exists.1 hkn.symm
   have hq1:q.1=bx:=by
    rw [hbx'] at hq
    unfold RelP at hq
    rw [hq]
   have gN:((flatN N).drop (p*24)).take 24=bx.r:=ysw (by have:=hPN p hp5;rw [hbx'] at this;exact this) hN hp5
   have hin:=hM p (by
    have hc:p=0∨p=1∨p=2∨p=3∨p=4:=by omega
    rcases hc with rfl | rfl | rfl | rfl | rfl<;>simp) bx hbx'
   rw [hq1] at hmix
   by_cases e:p=x.ph
   ·rw [decide_eq_false (show ¬p≠x.ph from fun h=>h e),Bool.false_and] at hmix
    rw [hmix,if_neg (by simp),List.nil_append] at hT' ⊢
    have qe:(((p:Nat):Int) !=((x.ph:Nat):Int))=false:=by rw [e];simp
    have hst0:evC (evF E n) n Fn.y0y ⟨env ((6,.one (.rsl b vb 17 0 l.length false))::(8,.one (.sl false (S.map rawK)))::(9,.one (.sl false (T.map mixC)))::(13,.one (.box bb 0))::(19,.one (.int .i64 (pre.length:Int)))::(20,.one (.int .i64 (i:Int)))::(21,.one (.int .i64 (p:Int)))::X),ob,fz,nx⟩=
      some (.nrm,⟨env [(6,.one (.rsl b vb 17 0 l.length false)),(8,.one (.sl false (S.map rawK))),(9,.one (.sl false (T.map mixC))),(13,.one (.box bb 0)),(19,.one (.int .i64 (pre.length:Int))),(20,.one (.int .i64 (i:Int))),(21,.one (.int .i64 ((p+1:Nat):Int)))],ob,fz,nx⟩):=by
     simp only [go_sem,Fn.y0y,h1,gK,okK,np,ni,hib,hr0,gl,hx17,ht,wp,qe,lb2,add1,wk]
    rw [y08 hst0]
    exact ih (p+1) (by omega) pre post [] K (by omega) hT'
   ·rw [decide_eq_true (show p≠x.ph from e),Bool.true_and] at hmix
    have qe:(((p:Nat):Int) !=((x.ph:Nat):Int))=true:=by simp only [bne_iff_ne,ne_eq];omega
    cases hh:hasBx bx x.s with
    | false=>
     rw [hh] at hmix hin
     rw [hmix,if_neg (by simp),List.nil_append] at hT' ⊢
     have hst0:evC (evF E n) n Fn.y0y ⟨env ((6,.one (.rsl b vb 17 0 l.length false))::(8,.one (.sl false (S.map rawK)))::(9,.one (.sl false (T.map mixC)))::(13,.one (.box bb 0))::(19,.one (.int .i64 (pre.length:Int)))::(20,.one (.int .i64 (i:Int)))::(21,.one (.int .i64 (p:Int)))::X),ob,fz,nx⟩=
       some (.nrm,⟨env [(6,.one (.rsl b vb 17 0 l.length false)),(8,.one (.sl false (S.map rawK))),(9,.one (.sl false (T.map mixC))),(13,.one (.box bb 0)),(19,.one (.int .i64 (pre.length:Int))),(20,.one (.int .i64 (i:Int))),(21,.one (.int .i64 ((p+1:Nat):Int)))],ob,fz,nx⟩):=by
      simp only [go_sem,Fn.y0y,h1,gK,okK,np,ni,hib,hpb,hr0,gl,hx17,ht,hts,wp,qe,lb,lb2,obb,hf,cA,gN,hin,add1,wk]
     rw [y08 hst0]
     exact ih (p+1) (by omega) pre post [] K (by omega) hT'
    | true=>
     rw [hh] at hmix hin
     rw [hmix,if_pos rfl] at hT' ⊢
     have hTk:T[pre.length]? =some (i,p):=by
      rw [hT',List.getElem?_append_right (Nat.le_refl _),Nat.sub_self];rfl
     have hkl:pre.length<T.length:=(List.getElem?_eq_some_iff.1 hTk).1
     have gT:(T.map mixC)[pre.length]? =some [.int .i64 (i:Int),.int .i64 (p:Int)]:=by rw [List.getElem?_map,hTk];rfl
     have c1:(((pre.length:Nat):Int)≥((T.length:Nat):Int))=False:=by simp only [ge_iff_le,eq_iff_iff,iff_false];omega
     have wk2:IntKind.i64.wrap ((pre.length+1:Nat):Int)=((pre.length+1:Nat):Int):=wi64 (by omega)
     have nk:Ev.natOf (pre.length:Int)=some pre.length:=y4q _
     have ce:cellsEq [.int .i64,.int .i64] [AV.int .i64 (i:Int),.int .i64 (p:Int)] [AV.int .i64 (i:Int),.int .i64 (p:Int)]=some true:=by
      simp [cellsEq,keyIs,keyEq]
     have hst0:evC (evF E n) n Fn.y0y ⟨env ((6,.one (.rsl b vb 17 0 l.length false))::(8,.one (.sl false (S.map rawK)))::(9,.one (.sl false (T.map mixC)))::(13,.one (.box bb 0))::(19,.one (.int .i64 (pre.length:Int)))::(20,.one (.int .i64 (i:Int)))::(21,.one (.int .i64 (p:Int)))::X),ob,fz,nx⟩=
       some (.nrm,⟨env [(6,.one (.rsl b vb 17 0 l.length false)),(8,.one (.sl false (S.map rawK))),(9,.one (.sl false (T.map mixC))),(13,.one (.box bb 0)),(19,.one (.int .i64 ((pre.length+1:Nat):Int))),(20,.one (.int .i64 (i:Int))),(21,.one (.int .i64 ((p+1:Nat):Int)))],ob,fz,nx⟩):=by
      simp only [go_sem,Fn.y0y,h1,gK,okK,okT,np,ni,nk,hib,hpb,hr0,gl,hx17,ht,hts,wp,qe,lb,lb2,obb,hf,cA,gN,hin,List.length_map,c1,gT,ce,add1,wk,wk2]
     rw [y08 hst0]
     have:=ih (p+1) (by omega) (pre++[(i,p)]) post [] K (by omega) (by rw [hT',List.append_assoc,List.append_assoc])
     rw [List.append_assoc] at this
     rw [List.length_append] at this
     exact this
end Go.Ev
namespace Go.Ev
open Go.Dig
def OutS (sz base:Nat) (ob:Nat→Option AObj) (nx:Nat) (x:AV) (es:List (List AV)):Prop:=
 (es=[]∧x=.nils)∨∃id ver,x=.rsl id ver sz 0 es.length false∧ob id=some (.row sz es ver)∧id<nx∧base≤id
theorem OutS.frame {sz base nx nx':Nat} {ob ob':Nat→Option AObj} {x:AV} {es:List (List AV)} (h:OutS sz base ob nx x es) (hnx:nx≤nx') (hf:∀id,base≤id→id<nx→ob' id=ob id):OutS sz base ob' nx' x es:=by
 rcases h with h | ⟨id,ver,h1,h2,h3,h4⟩
 ·exact .inl h
 ·exact .inr ⟨id,ver,h1,by rw [hf id h4 h3];exact h2,by omega,h4⟩
theorem OutS.shut {sz base nx:Nat} {ob0 ob:Nat→Option AObj} {x:AV} {es:List (List AV)} (h:OutS sz base ob nx x es):OutS sz base (Ev.shut ob0 ob) nx x es:=by
 rcases h with h | ⟨id,ver,h1,h2,h3,h4⟩
 ·exact .inl h
 ·exact .inr ⟨id,ver,h1,yg5 h2,h3,h4⟩
theorem OutS.frzR {sz base nx:Nat} {ob:Nat→Option AObj} {x:AV} {es fs:List (List AV)} (h:OutS sz base ob nx x es) (hf:∀fz,mapFz (mapFz (Ev.frz ob 7)) fz es=some (fz,fs)) (hl:es=[]→fs=[]):∃g:(Nat→Nat)→(Nat→Nat),∀fz,frzS ob fz (.one x)=some (g fz,.one (.sl false fs)):=by
 rcases h with ⟨h1,rfl⟩ | ⟨id,ver,rfl,hid,_⟩
 ·exact ⟨fun fz=>fz,fun fz=>by rw [hl h1];rfl⟩
 ·refine ⟨fun fz=>raise fz id (0+es.length),fun fz=> ?_⟩
  have hb:Nat.ble (0+es.length) es.length=true:=by simp
  have h1:Ev.frz ob DEPTH fz (.rsl id ver sz 0 es.length false)=some (raise fz id (0+es.length),.sl false fs):=by
   rw [show DEPTH=7+1 from rfl,y76,y25 hid]
   simp only [hb,cond_true,List.drop_zero,List.take_length,hf]
  simp only [frzS,h1]
end Go.Ev
namespace Go.Ev
open Go.Dig
section
variable {fz:Nat→Nat}
end
def samp0:Samp:=⟨0,0,0⟩
theorem yqt:samp0.c=[.bool false,.sl false [],.sl false [],.bool false,.sl false [],.sl false [],.bool false,.sl false [],.sl false []]:=by
 unfold Samp.c samp0
 rw [y9c];rfl
theorem OutF.frzG {sz base:Nat} {ob:Nat→Option AObj} {nx:Nat} {x:AV} {es es':List (List AV)} (h:OutF sz base ob nx x es) (hc:∀fz,mapFz (mapFz (Ev.frz ob (6+1))) fz es=some (fz,es')):∃g:(Nat→Nat)→(Nat→Nat),∀fz,frzS ob fz (.one x)=some (g fz,.one (.sl false es')):=
 ⟨fun fz=>Classical.choose (h.frzTo hc fz),fun fz=>Classical.choose_spec (h.frzTo hc fz)⟩
end Go.Ev
namespace Go.Ev
open Go.Dig
theorem tmod10 (z:Int) (h:1024<z) (h2:z<9223372036854775808):z.tmod 10=((z.toNat%10:Nat):Int):=by
 obtain ⟨k,rfl⟩:∃k:Nat,z=(k:Int):=⟨z.toNat,by omega⟩
 rw [Int.toNat_natCast]
 rfl
end Go.Ev
namespace Go.Ev
open Go.Dig
section
variable {fz:Nat→Nat}
theorem yi5 {base n:Nat} {ob:Nat→Option AObj} {nx i:Nat} {x y:AV} {es fs:List (List AV)} (hbase:base≤nx) (l:List (List AV)) (s:Note) (gl:l[i]? =some s.c) (o6:okSz 13 l=true) (hl:l.length<2^20) (hi:i<l.length) (hc:∀ob fz,callV (evF E n) Id.y0r [.agg s.beat.c] ob fz=some (.fzd fz (.tup [.agg s.beat.s.c,.agg s.beat.s.r]))) (hc':∀ob fz,callV (evF E n) Id.y0j [.agg s.mom.c] ob fz=some (.fzd fz (.tup [.agg (qC s.mom.q),.agg (rC s.mom.q)]))) (h:TwoB base ob nx 13 17 i x y es fs) (X:List (Nat×SV)):
  ∃(ob':Nat→Option AObj) (nx':Nat) (x' y':AV),evC (evF E n) n Fn.y3k ⟨env ((0,.one (.sl false l))::(4,.one x)::(5,.one y)::(6,.one (.int .i64 (i:Int)))::X),ob,fz,nx⟩=
   some (.nrm,⟨env [(0,.one (.sl false l)),(4,.one x'),(5,.one y'),(6,.one (.int .i64 ((i+1:Nat):Int)))],ob',fz,nx'⟩)∧TwoB base ob' nx' 13 17 (i+1) x' y' (es++[s.q.c]) (fs++[s.q.r])∧base≤nx'∧∀id,id<base→ob' id=ob id:=by
 have h1:(((i:Nat):Int)<((l.length:Nat):Int))=True:=by simp;omega
 have wk:IntKind.i64.wrap ((i+1:Nat):Int)=((i+1:Nat):Int):=wi64 (by omega)
 obtain ⟨ca0,ca1,ca2,ca3,ca4,ca5,ca6,ca7,ca8,e5,-,-,-,-,-,-,-,-,-⟩:=y7y s.beat.s
 obtain ⟨cp0,cp1,cp2,cp3,cp4,cp5,cp6,cp7,cp8,cp9,cp10,cp11,e6,-,-,-,-,-,-,-,-,-,-,-,-⟩:=yiv s.beat.s
 obtain ⟨ci0,ci1,ci2,ci3,ci4,ci5,ci6,ci7,ci8,e7,-,-,-,-,-,-,-,-,-⟩:=ykz s.beat
 obtain ⟨q0,q1,q2,eq,-,-,-⟩:=y0n s.mom.q
 obtain ⟨r0,r1,r2,r3,er,-,-,-,-⟩:=y83 s.mom.q
 obtain ⟨m0,m1',m2',em⟩:∃a b c,s.mom.c=[a,b,c]:=⟨_,_,_,rfl⟩
 have ec:s.c=[.int .u8 (s.ph:Int),ci0,ci1,ci2,ci3,ci4,ci5,ci6,ci7,ci8,m0,m1',m2']:=by unfold Note.c;rw [e7,em];rfl
 have eqc:s.q.c=[.int .u8 (s.ph:Int),ca0,ca1,ca2,ca3,ca4,ca5,ca6,ca7,ca8,q0,q1,q2]:=by unfold Rcd.c Note.q;rw [e5,eq];rfl
 have eqr:s.q.r=[.int .u8 (s.ph:Int),cp0,cp1,cp2,cp3,cp4,cp5,cp6,cp7,cp8,cp9,cp10,cp11,r0,r1,r2,r3]:=by unfold Rcd.r Note.q;rw [e6,er];rfl
 rw [e5,e6,e7] at hc
 rw [eq,er,em] at hc'
 rw [ec] at gl
 rw [eqc,eqr]
 obtain ⟨l1,l2,h⟩:=h
 have nxa:∀a b:Nat,nx+a+b=nx+(a+b):=fun a b=>Nat.add_assoc nx a b
 obtain ⟨r,hr0⟩:∃r,evC (evF E n) n Fn.y3k ⟨env ((0,.one (.sl false l))::(4,.one x)::(5,.one y)::(6,.one (.int .i64 (i:Int)))::X),ob,fz,nx⟩=r:=⟨_,rfl⟩
 have hr:=hr0
 rcases h with ⟨rfl,rfl,rfl,rfl⟩ | ⟨a,va,b,vb,rfl,rfl,h3,h4,h5,h6,h7,h8,h9⟩
 ·simp only [go_sem,Fn.y3k,h1,gl,hc,hc',o6,okSz,ROOM,add1,wk,nxa] at hr
  rw [hr0,←hr]
  refine ⟨_,_,_,_,rfl,⟨by simp [←l1],by simp [←l1],.inr ⟨nx+36,0,nx+47,0, ?_, ?_, ?_,upd_same _ _ _,by omega,by omega,by omega,by omega,by omega⟩⟩,by omega,fun id hid=> ?_⟩
  ·rw [←l1];rfl
  ·rw [←l1];rfl
  ·rw [y00 (by omega),y00 (by omega)];exact upd_same _ _ _
  ·simp (discharger:=omega) only [y00]
 ·have k1:∀k ob y ver,rowAt (upd ob (nx+k) y) a ver=rowAt ob a ver:=fun k ob y ver=>y3z (by omega)
  have k2:∀k ob y ver,rowAt (upd ob (nx+k) y) b ver=rowAt ob b ver:=fun k ob y ver=>y3z (by omega)
  have k3:∀k j ob y ver,rowAt (upd ob (nx+k+j) y) a ver=rowAt ob a ver:=fun k j ob y ver=>y3z (by omega)
  have k4:∀k j ob y ver,rowAt (upd ob (nx+k+j) y) b ver=rowAt ob b ver:=fun k j ob y ver=>y3z (by omega)
  have k5:∀ob y ver,rowAt (upd ob a y) b ver=rowAt ob b ver:=fun ob y ver=>y3z h7.symm
  have m1:∀k ob y,upd ob a y (nx+k)=ob (nx+k):=fun k ob y=>y00 (by omega)
  have b1:(i==i)=true:=by simp
  have w1:(i+1)*232≤140737488355328:=by omega
  have w2:(i+1)*264≤140737488355328:=by omega
  have hra:rowAt ob a va=some (13,es):=y25 h3
  have hrb:rowAt ob b vb=some (17,fs):=y25 h4
  have k6:∀ob y,upd ob nx y=upd ob (nx+0) y:=fun ob y=>rfl
  have k7:∀ob y ver,rowAt (upd ob nx y) a ver=rowAt ob a ver:=fun ob y ver=>y3z (by omega)
  have k8:∀ob y ver,rowAt (upd ob nx y) b ver=rowAt ob b ver:=fun ob y ver=>y3z (by omega)
  simp only [go_sem,Fn.y3k,h1,gl,hc,hc',o6,okSz,ROOM,add1,wk,nxa,k1,k2,k3,k4,k5,k7,k8,hra,hrb,l1,l2,m1,b1,w1,w2] at hr
  rw [hr0,←hr]
  refine ⟨_,_,_,_,rfl,⟨by simp [l1],by simp [l2],.inr ⟨a,va+1,b,vb+1,rfl,rfl, ?_,upd_same _ _ _,by omega,by omega,h7,h8,h9⟩⟩,by omega,fun id hid=> ?_⟩
  ·rw [y00 h7,y00 (by omega)];exact upd_same _ _ _
  ·simp (discharger:=omega) only [y00]
theorem yc0 {base n:Nat} (l:List Note) (hl:l.length<2^20) (hc:∀s∈l,∀ob fz,callV (evF E n) Id.y0r [.agg s.beat.c] ob fz=some (.fzd fz (.tup [.agg s.beat.s.c,.agg s.beat.s.r]))) (hc':∀s∈l,∀ob fz,callV (evF E n) Id.y0j [.agg s.mom.c] ob fz=some (.fzd fz (.tup [.agg (qC s.mom.q),.agg (rC s.mom.q)]))):∀(m i:Nat),i+m=l.length→∀(ob:Nat→Option AObj) (nx:Nat) (x y:AV) (X:List (Nat×SV)),base≤nx→TwoB base ob nx 13 17 i x y ((l.take i).map fun s=>s.q.c) ((l.take i).map fun s=>s.q.r)→∀N,m<N→
  ∃(ob':Nat→Option AObj) (nx':Nat) (x' y':AV) (X':List (Nat×SV)),loopN (evC (evF E n) n Fn.y3k) N ⟨env ((0,.one (.sl false (l.map Note.c)))::(4,.one x)::(5,.one y)::(6,.one (.int .i64 (i:Int)))::X),ob,fz,nx⟩=
   some (.ext 0,⟨env ((0,.one (.sl false (l.map Note.c)))::(4,.one x')::(5,.one y')::X'),ob',fz,nx'⟩)∧TwoB base ob' nx' 13 17 l.length x' y' (l.map fun s=>s.q.c) (l.map fun s=>s.q.r)∧base≤nx'∧∀id,id<base→ob' id=ob id
 | 0,i,hi,ob,nx,x,y,X,hb,h,N+1,hN=>by
  have hi':i=l.length:=by omega
  subst hi'
  rw [List.take_length] at h
  refine ⟨ob,nx,x,y,[(6,.one (.int .i64 (l.length:Int))),(14,.one (.bool false))],y09 ?_,h,hb,fun _ _=>rfl⟩
  have h1:(((l.length:Nat):Int)<((l.length:Nat):Int))=False:=by simp
  simp only [go_sem,Fn.y3k,List.length_map,h1]
 | m+1,i,hi,ob,nx,x,y,X,hb,h,N+1,hN=>by
  have hil:i<l.length:=by omega
  have gd:l[i]? =some l[i]:=by simp
  obtain ⟨ob',nx',x',y',hst,h',hb',hf⟩:=yi5 (fz:=fz) (n:=n) hb (l.map Note.c) l[i] (by rw [List.getElem?_map,gd];rfl) (y6e (f:=Note.c) (k:=13) (fun _=>rfl) l) (by simpa using hl) (by simpa using hil) (hc _ (by simp)) (hc' _ (by simp)) h X
  rw [y08 hst]
  have td:l.take (i+1)=l.take i++[l[i]]:=by rw [List.take_add_one,gd];rfl
  obtain ⟨ob2,nx2,x2,y2,X2,q1,q2,q3,q4⟩:=yc0 l hl hc hc' m (i+1) (by omega) ob' nx' x' y' [] hb' (by rw [td,List.map_append,List.map_append];exact h') N (by omega)
  exact ⟨ob2,nx2,x2,y2,X2,q1,q2,q3,fun id hid=>(q4 id hid).trans (hf id hid)⟩
theorem yns (l:List Note) (hl:l.length<2^20):∃N,∀n,N≤n→∀(ob:Nat→Option AObj) (nx:Nat),∃(ob':Nat→Option AObj) (nx':Nat) (x y:AV),evF E n (.fn Id.y21) [.one (.sl false (l.map Note.c))] ⟨ob,fz,nx⟩=some (.tup [.one x,.one y],⟨ob',fz,nx'⟩)∧TwoB nx ob' nx' 13 17 l.length x y (l.map fun s=>s.q.c) (l.map fun s=>s.q.r)∧nx≤nx'∧∀id,id<nx→ob' id=ob id:=by
 obtain ⟨N,hN⟩:=y7g (fun s:Note=>yl2 s.beat) l
 obtain ⟨M,hM⟩:=y7g (fun s:Note=>y8j s.mom) l
 refine ⟨N+M+l.length+2,fun n hn ob nx=> ?_⟩
 obtain ⟨n,rfl⟩:∃k,n=k+1:=⟨n-1,by omega⟩
 rw [y88 yax]
 obtain ⟨ob',nx',x',y',X',hlo,h2,h3,h4⟩:=yc0 (base:=nx) (fz:=fz) (n:=n) l hl (hN n (by omega)) (hM n (by omega)) l.length 0 (by omega) ob nx .nils .nils [] (Nat.le_refl _) ⟨rfl,rfl,.inl ⟨rfl,rfl,rfl,rfl⟩⟩ n (by omega)
 rw [show ((0:Nat):Int)=0 from rfl] at hlo
 refine ⟨shut ob ob',nx',x',y', ?_, ?_,h3,fun id hid=>yph (h4 id hid)⟩
 ·simp only [go_sem,Fn.y21,hlo]
 ·obtain ⟨q1,q2,q | ⟨a,va,b,vb,q3,q4,q5,q6,q7⟩⟩:=h2
  ·exact ⟨q1,q2,.inl q⟩
  ·exact ⟨q1,q2,.inr ⟨a,va,b,vb,q3,q4,yfp q5,yfp q6,q7⟩⟩
end
def rawX:Option Rcd→List AV
 | some s=>s.c
 | none=>[.int .u8 0,.bool false,.nils,.nils,.bool false,.nils,.nils,.bool false,.nils,.nils,.bool false,.nils,.nils]
def rcd0:Rcd:=⟨0,samp0,0⟩
theorem ysh:rcd0.c=[.int .u8 ((0:Nat):Int),.bool false,.sl false [],.sl false [],.bool false,.sl false [],.sl false [],.bool false,.sl false [],.sl false [],.bool false,.sl false [],.sl false []]:=by
 unfold Rcd.c rcd0
 dsimp only
 rw [yqt,y9c];rfl
theorem yow (o:Option Rcd) (ob:Nat→Option AObj) (k:Nat) (fz:Nat→Nat):mapFz (Ev.frz ob (k+1)) fz (rawX o)=some (fz,(o.getD rcd0).c):=by
 cases o with
 | none=>rw [Option.getD_none,ysh];rfl
 | some s=>exact y66 _ fun x hx=>(CanL.rcd s x hx).frz ob k fz
theorem y8t (ob:Nat→Option AObj) (k:Nat) (fz:Nat→Nat):∀l:List (Option Rcd),mapFz (mapFz (Ev.frz ob (k+1))) fz (l.map rawX)=some (fz,(l.map fun o=>o.getD rcd0).map Rcd.c)
 | []=>rfl
 | o::r=>by
  rw [List.map_cons,mapFz,yow o ob k fz]
  simp only
  rw [y8t ob k fz r]
  rfl
theorem yen {n base:Nat} {fz:Nat→Nat} (many:Int) (v6:SV) (M j:Nat) (hM:M<2^20) (ht:many.tmod 10=(j:Int)) (hj:IntKind.i64.wrap (1025+(j:Int))=(M:Int)):∀(r:Nat) (l:List (Option Rcd)),l.length+r=M→∀(ob:Nat→Option AObj) (nx:Nat) (x:AV) (X:List (Nat×SV)),base≤nx→OutF 13 base ob nx x (l.map rawX)→∀N,r<N→
  ∃ob' nx' x' X',loopN (evC (evF E n) n Fn.y2c) N ⟨env ((1,.one (.int .i64 many))::(5,.one x)::(6,v6)::X),ob,fz,nx⟩=
   some (.ext 0,⟨env ((1,.one (.int .i64 many))::(5,.one x')::(6,v6)::X'),ob',fz,nx'⟩)∧OutF 13 base ob' nx' x' ((l++List.replicate r none).map rawX)∧base≤nx'∧∀id,id<nx→¬(∃ver,x=.rsl id ver 13 0 l.length false)→ob' id=ob id
 | 0,l,hl,ob,nx,x,X,hb,h,N,hN=>by
  obtain ⟨N,rfl⟩:∃k,N=k+1:=⟨N-1,by omega⟩
  have hz:((10:Int)=0)=False:=by simp
  refine ⟨ob,nx,x,[(38,.one (.bool false))],y09 ?_,by rw [List.replicate_zero,List.append_nil];exact h,hb,fun _ _ _=>rfl⟩
  rcases h with ⟨he,rfl⟩ | ⟨a,va,rfl,h4,h5,h6⟩
  ·have hl0:l.length=0:=by have:=congrArg List.length he;simpa using this
   have h1:(((0:Nat):Int)<((M:Nat):Int))=False:=by simp;omega
   simp only [go_sem,Fn.y2c,ht,hj,hz,h1]
  ·have h1:(((l.length:Nat):Int)<((M:Nat):Int))=False:=by simp;omega
   simp only [go_sem,Fn.y2c,List.length_map,ht,hj,hz,h1]
 | r+1,l,hl,ob,nx,x,X,hb,h,N,hN=>by
  obtain ⟨N,rfl⟩:∃k,N=k+1:=⟨N-1,by omega⟩
  have hz:((10:Int)=0)=False:=by simp
  have step:∃ob1 x1,evC (evF E n) n Fn.y2c ⟨env ((1,.one (.int .i64 many))::(5,.one x)::(6,v6)::X),ob,fz,nx⟩=
    some (.nrm,⟨env [(1,.one (.int .i64 many)),(5,.one x1),(6,v6)],ob1,fz,nx+5⟩)∧OutF 13 base ob1 (nx+5) x1 ((l++[none]).map rawX)∧(∀id,id<nx→¬(∃ver,x=.rsl id ver 13 0 l.length false)→ob1 id=ob id)∧∀id,id<nx→(∃ver,x1=.rsl id ver 13 0 (l.length+1) false)→∃ver,x=.rsl id ver 13 0 l.length false:=by
   obtain ⟨res,hr0⟩:∃res,evC (evF E n) n Fn.y2c ⟨env ((1,.one (.int .i64 many))::(5,.one x)::(6,v6)::X),ob,fz,nx⟩=res:=⟨_,rfl⟩
   have hr:=hr0
   rcases h with ⟨he,rfl⟩ | ⟨a,va,rfl,h4,h5,h6⟩
   ·have hl0:l=[]:=by simpa using he
    subst hl0
    have h1:(((0:Nat):Int)<((M:Nat):Int))=True:=by simp at hl ⊢;omega
    simp only [go_sem,Fn.y2c,ht,hj,hz,h1,okSz,ROOM] at hr
    rw [hr0,←hr]
    refine ⟨_,_,rfl,.inr ⟨nx+3,0,rfl,upd_same _ _ _,by omega,by omega⟩,fun id hid _=> ?_,fun id hid h=> ?_⟩
    ·simp (discharger:=omega) only [y00]
    ·obtain ⟨ver,hv⟩:=h
     simp only [AV.rsl.injEq] at hv
     omega
   ·rw [List.length_map] at*
    have h1:(((l.length:Nat):Int)<((M:Nat):Int))=True:=by simp;omega
    have w1:(l.length+1)*232≤140737488355328:=by omega
    have b1:(l.length==l.length)=true:=by simp
    have k1:∀k ob y ver,rowAt (upd ob (nx+k) y) a ver=rowAt ob a ver:=fun k ob y ver=>y3z (by omega)
    have hra:rowAt ob a va=some (13,l.map rawX):=y25 h4
    simp only [go_sem,Fn.y2c,List.length_map,ht,hj,hz,h1,okSz,ROOM,w1,b1,k1,hra] at hr
    rw [hr0,←hr]
    refine ⟨_,_,rfl,.inr ⟨a,va+1, ?_, ?_,h5,by omega⟩,fun id hid hne=> ?_,fun id hid h=> ?_⟩
    ·rw [List.length_map,List.length_append];rfl
    ·rw [upd_same,List.map_append];rfl
    ·have:id≠a:=fun e=>hne ⟨va,by rw [e]⟩
     simp (discharger:=omega) only [y00]
    ·obtain ⟨ver,hv⟩:=h
     simp only [AV.rsl.injEq] at hv
     exact ⟨va,by rw [hv.1]⟩
  obtain ⟨ob1,x1,hst,h1,hf,hx1⟩:=step
  rw [y08 hst]
  obtain ⟨ob2,nx2,x2,X2,q1,q2,q3,q4⟩:=yen many v6 M j hM ht hj r (l++[none]) (by rw [List.length_append];simp;omega) ob1 (nx+5) x1 [] (by omega) h1 N (by omega)
  refine ⟨ob2,nx2,x2,X2,q1, ?_,q3,fun id hid hne=>(q4 id (by omega) (fun h=>hne (hx1 id hid (by rw [List.length_append] at h;exact h)))).trans (hf id hid hne)⟩
  rw [List.append_assoc] at q2
  exact q2
end Go.Ev
namespace Go.Ev
open Go.Dig
theorem yps {base bb:Nat} (l:List Rcd) (hl:l.length<2^20) (hs:∀x∈l,SmSamp x.s∧x.ph<5) (hbb:base≤bb) (S:List (Bx×Bool)) (hS:S.length=5) (hrel:∀p,p<5→∃q,S[p]? =some q∧RelP q (stF l p)) (T:List (Nat×Nat)) (hT:T.length<2^30) (y:AV):∀(N:List (Option Rat)),N.length=30→(∀p,p<5→PN N p (stF l p))→∃M,∀n,M≤n→∀(ob:Nat→Option AObj) (fz:Nat→Nat) (nx:Nat),bb<nx→YOk ob base y l→ob bb=some (.box (flatN N))→∀(r:List Rcd) (i:Nat),i+r.length=l.length→l.drop i=r→∀(pre:List (Nat×Nat)) (X:List (Nat×SV)) (K:Nat),r.length<K→T=pre++mixL S i r→
  ∃X',loopN (evC (evF E n) n Fn.y3a) K ⟨env ((6,.one y)::(8,.one (.sl false (S.map rawK)))::(9,.one (.sl false (T.map mixC)))::(13,.one (.box bb 0))::(19,.one (.int .i64 (pre.length:Int)))::(20,.one (.int .i64 (i:Int)))::X),ob,fz,nx⟩=
   some (.ext 10,⟨env ((6,.one y)::(8,.one (.sl false (S.map rawK)))::(9,.one (.sl false (T.map mixC)))::(13,.one (.box bb 0))::(19,.one (.int .i64 (T.length:Int)))::X'),ob,fz,nx⟩):=by
 intro N hN hPN
 by_cases hy:∃b vb,y=.rsl b vb 17 0 l.length false∧b<base
 case neg=>
  refine ⟨0,fun n hn ob fz nx hbx hY obb r i hi hdr pre X K hK hT'=> ?_⟩
  obtain ⟨K,rfl⟩:∃k,K=k+1:=⟨K-1,by omega⟩
  rcases hY with ⟨rfl,rfl⟩ | ⟨b,vb,h1,h2,h3⟩
  ·have hr0:r=[]:=by rw [←hdr];simp
   have hi0:i=0:=by simp at hi;omega
   subst hr0;subst hi0
   have e:mixL S 0 []=[]:=rfl
   rw [e,List.append_nil] at hT'
   subst hT'
   have h1:(((0:Nat):Int)<((0:Nat):Int))=False:=by simp
   refine ⟨[(20,.one (.int .i64 ((0:Nat):Int))),(202,.one (.bool false))],y09 ?_⟩
   simp only [go_sem,Fn.y3a,h1]
  ·exact absurd ⟨b,vb,h1,h3⟩ hy
 obtain ⟨b,vb,rfl,hb⟩:=hy
 obtain ⟨M,hM⟩:=yhg (P:=fun i n=>∀x,l[i]? =some x→∀(ob:Nat→Option AObj) (fz:Nat→Nat) (nx:Nat),bb<nx→ob b=some (.row 17 (l.map Rcd.r) vb)→ob bb=some (.box (flatN N))→∀(m p:Nat),p+m=5→∀(pre post:List (Nat×Nat)) (X:List (Nat×SV)) (K:Nat),m<K→T=pre++(mixR S i x p m++post)→
  ∃X',loopN (evC (evF E n) n Fn.y0y) K ⟨env ((6,.one (.rsl b vb 17 0 l.length false))::(8,.one (.sl false (S.map rawK)))::(9,.one (.sl false (T.map mixC)))::(13,.one (.box bb 0))::(19,.one (.int .i64 (pre.length:Int)))::(20,.one (.int .i64 (i:Int)))::(21,.one (.int .i64 (p:Int)))::X),ob,fz,nx⟩=
   some (.ext 12,⟨env ((6,.one (.rsl b vb 17 0 l.length false))::(8,.one (.sl false (S.map rawK)))::(9,.one (.sl false (T.map mixC)))::(13,.one (.box bb 0))::(19,.one (.int .i64 ((pre++mixR S i x p m).length:Int)))::(20,.one (.int .i64 (i:Int)))::X'),ob,fz,nx⟩)) (List.range l.length) (fun i hi=>by
  rw [List.mem_range] at hi
  obtain ⟨M,hM⟩:=yok l hl hs hbb S hS hrel T hT b vb hb N hN hPN i l[i] (by simp)
  refine ⟨M,fun n hn x hx=> ?_⟩
  rw [List.getElem?_eq_getElem hi] at hx
  cases hx
  exact hM n hn)
 refine ⟨M+6,fun n hn ob fz nx hbx hY obb r=> ?_⟩
 have hM:=hM n (by omega)
 have hYr:l=[]∨ob b=some (.row 17 (l.map Rcd.r) vb):=by
  rcases hY with ⟨h,_⟩ | ⟨b',vb',h1,h2,h3⟩
  ·exact .inl h
  ·cases h1;exact .inr h2
 have hrow:∀(x:Rcd) (i:Nat),l[i]? =some x→ob b=some (.row 17 (l.map Rcd.r) vb):=fun x i gx=>hYr.resolve_left (fun e=>by rw [e] at gx;simp at gx)
 induction r with
 | nil=>
  intro i hi hdr pre X K hK hT'
  obtain ⟨K,rfl⟩:∃k,K=k+1:=⟨K-1,by omega⟩
  have h1:(((i:Nat):Int)<((l.length:Nat):Int))=False:=by simp at hi ⊢;omega
  have e:mixL S i []=[]:=rfl
  rw [e,List.append_nil] at hT'
  subst hT'
  refine ⟨[(20,.one (.int .i64 (i:Int))),(202,.one (.bool false))],y09 ?_⟩
  simp only [go_sem,Fn.y3a,h1]
 | cons x r ih=>
  intro i hi hdr pre X K hK hT'
  obtain ⟨K,rfl⟩:∃k,K=k+1:=⟨K-1,by omega⟩
  simp only [List.length_cons] at hi hK
  obtain ⟨gx,hdr',hxm⟩:=y92 hdr
  have h1:(((i:Nat):Int)<((l.length:Nat):Int))=True:=by simp;omega
  have wk:IntKind.i64.wrap ((i+1:Nat):Int)=((i+1:Nat):Int):=wi64 (by omega)
  have e:mixL S i (x::r)=mixR S i x 0 5++mixL S (i+1) r:=rfl
  rw [e] at hT'
  obtain ⟨X',hlo⟩:=hM i (by rw [List.mem_range];omega) x gx ob fz nx hbx (hrow x i gx) obb 5 0 rfl pre _ [] n (by omega) hT'
  rw [show ((0:Nat):Int)=0 from rfl] at hlo
  have hst:evC (evF E n) n Fn.y3a ⟨env ((6,.one (.rsl b vb 17 0 l.length false))::(8,.one (.sl false (S.map rawK)))::(9,.one (.sl false (T.map mixC)))::(13,.one (.box bb 0))::(19,.one (.int .i64 (pre.length:Int)))::(20,.one (.int .i64 (i:Int)))::X),ob,fz,nx⟩=
    some (.nrm,⟨env [(6,.one (.rsl b vb 17 0 l.length false)),(8,.one (.sl false (S.map rawK))),(9,.one (.sl false (T.map mixC))),(13,.one (.box bb 0)),(19,.one (.int .i64 ((pre++mixR S i x 0 5).length:Int))),(20,.one (.int .i64 ((i+1:Nat):Int)))],ob,fz,nx⟩):=by
   simp only [go_sem,Fn.y3a,h1,hlo,add1,wk]
  rw [y08 hst]
  exact ih (i+1) (by omega) hdr' (pre++mixR S i x 0 5) [] K (by omega) (by rw [hT',List.append_assoc])
theorem y98 {n base:Nat} {ob:Nat→Option AObj} {fz:Nat→Nat} {nx:Nat} (v5 v7 v8 v9 v10:SV) (l:List Rcd) (hl:l.length<2^20) (y:AV) (hY:YOk ob base y l):∀(r:List Rcd) (i:Nat),i+r.length=l.length→l.drop i=r→∀(w:Int) (X:List (Nat×SV)) (K:Nat),r.length<K→
  ∃X',loopN (evC (evF E n) n Fn.y2r) K ⟨env ((5,v5)::(6,.one y)::(7,v7)::(8,v8)::(9,v9)::(10,v10)::(11,.one (.int .i64 w))::(12,.one (.int .i64 (i:Int)))::X),ob,fz,nx⟩=
   some (.ext 2,⟨env ((5,v5)::(6,.one y)::(7,v7)::(8,v8)::(9,v9)::(10,v10)::(11,.one (.int .i64 (if r.any badR=true then 2 else w)))::X'),ob,fz,nx⟩)
 | [],i,hi,hdr,w,X,K,hK=>by
  obtain ⟨K,rfl⟩:∃k,K=k+1:=⟨K-1,by omega⟩
  refine ⟨[(12,.one (.int .i64 (i:Int))),(53,.one (.bool false))],y09 ?_⟩
  rw [List.any_nil,if_neg (by simp)]
  rcases hY with ⟨rfl,rfl⟩ | ⟨b,vb,rfl,h2,h3⟩
  ·have h1:(((i:Nat):Int)<((0:Nat):Int))=False:=by simp
   simp only [go_sem,Fn.y2r,h1]
  ·have h1:(((i:Nat):Int)<((l.length:Nat):Int))=False:=by simp at hi ⊢;omega
   simp only [go_sem,Fn.y2r,h1]
 | x::r,i,hi,hdr,w,X,K,hK=>by
  obtain ⟨K,rfl⟩:∃k,K=k+1:=⟨K-1,by omega⟩
  simp only [List.length_cons] at hi hK
  obtain ⟨gx,hdr',hxm⟩:=y92 hdr
  obtain ⟨b,vb,rfl,h2,h3⟩:∃b vb,y=.rsl b vb 17 0 l.length false∧ob b=some (.row 17 (l.map Rcd.r) vb)∧b<base:=by
   rcases hY with ⟨rfl,-⟩ | h
   ·simp at gx
   ·exact h
  have h1:(((i:Nat):Int)<((l.length:Nat):Int))=True:=by simp;omega
  have hib:(i<l.length)=True:=by simp;omega
  have wk:IntKind.i64.wrap ((i+1:Nat):Int)=((i+1:Nat):Int):=wi64 (by omega)
  have hr0:rowAt ob b vb=some (17,l.map Rcd.r):=y25 h2
  have gl:(l.map Rcd.r)[i]? =some x.r:=by rw [List.getElem?_map,gx];rfl
  have hx17:=y9w x
  have ht:x.r.take 1=[AV.int .u8 (x.ph:Int)]:=rfl
  have ni:Ev.natOf (i:Int)=some i:=y4q _
  have hq:(((x.ph:Nat):Int)>4)=(5≤x.ph):=by rw [eq_iff_iff];omega
  have hst:evC (evF E n) n Fn.y2r ⟨env ((5,v5)::(6,.one (.rsl b vb 17 0 l.length false))::(7,v7)::(8,v8)::(9,v9)::(10,v10)::(11,.one (.int .i64 w))::(12,.one (.int .i64 (i:Int)))::X),ob,fz,nx⟩=
    some (.nrm,⟨env [(5,v5),(6,.one (.rsl b vb 17 0 l.length false)),(7,v7),(8,v8),(9,v9),(10,v10),(11,.one (.int .i64 (if badR x=true then 2 else w))),(12,.one (.int .i64 ((i+1:Nat):Int)))],ob,fz,nx⟩):=by
   unfold badR
   by_cases hb:5≤x.ph
   ·rw [if_pos (by simpa using hb)]
    simp only [go_sem,Fn.y2r,h1,hib,hr0,gl,hx17,ht,ni,hq,hb,add1,wk]
   ·rw [if_neg (by simpa using hb)]
    simp only [go_sem,Fn.y2r,h1,hib,hr0,gl,hx17,ht,ni,hq,hb,add1,wk]
  rw [y08 hst]
  obtain ⟨X',hX⟩:=y98 v5 v7 v8 v9 v10 l hl _ hY r (i+1) (by omega) hdr' (if badR x=true then 2 else w) [] K (by omega)
  refine ⟨X', ?_⟩
  rw [hX,List.any_cons]
  cases badR x<;>cases r.any badR<;>rfl
theorem yik (S:List (Bx×Bool)):∀(l:List Rcd) (i:Nat),(mixL S i l).length≤5*l.length
 | [],i=>Nat.le_refl _
 | x::r,i=>by
  unfold mixL
  rw [List.length_append,List.length_cons]
  have h1:=ygt S i x 0 5
  have h2:=yik S r (i+1)
  omega
theorem yrx (p:Nat) (hp:p<5):PN (List.replicate 30 none) p none:=fun j hj=>by
 rw [List.getElem?_replicate,if_pos (by omega)]
 show _=(List.replicate 6 none)[j]?
 rw [List.getElem?_replicate,if_pos hj]
set_option maxRecDepth 100000 in
theorem flat30:flatN (List.replicate 30 none)=[.bool false,.nils,.bool false,.nils,.bool false,.nils,.bool false,.nils,.bool false,.nils,.bool false,.nils,.bool false,.nils,.bool false,.nils,.bool false,.nils,.bool false,.nils,.bool false,.nils,.bool false,.nils,.bool false,.nils,.bool false,.nils,.bool false,.nils,.bool false,.nils,.bool false,.nils,.bool false,.nils,.bool false,.nils,.bool false,.nils,.bool false,.nils,.bool false,.nils,.bool false,.nils,.bool false,.nils,.bool false,.nils,.bool false,.nils,.bool false,.nils,.bool false,.nils,.bool false,.nils,.bool false,.nils,.bool false,.nils,.bool false,.nils,.bool false,.nils,.bool false,.nils,.bool false,.nils,.bool false,.nils,.bool false,.nils,.bool false,.nils,.bool false,.nils,.bool false,.nils,.bool false,.nils,.bool false,.nils,.bool false,.nils,.bool false,.nils,.bool false,.nils,.bool false,.nils,.bool false,.nils,.bool false,.nils,.bool false,.nils,.bool false,.nils,.bool false,.nils,.bool false,.nils,.bool false,.nils,.bool false,.nils,.bool false,.nils,.bool false,.nils,.bool false,.nils,.bool false,.nils,.bool false,.nils,.bool false,.nils]:=rfl
theorem ylr {n n' k k':Nat} (a:ACode) (h:n≤n') (hk:k≤k') {st:St} {r:Ex×St} (e:loopN (evC (evF E n) n a) k st=some r):loopN (evC (evF E n') n' a) k' st=some r:=
 y9k (fun st r h'=>y6h (ycn E h) h a h') hk e
theorem yls (l:List Rcd) (k:Nat) (hk:l.length+k>1024):boxesE (l++List.replicate k rcd0)=if l.any badR=true then 2 else 5:=by
 have h1:(l++List.replicate k rcd0).any badR=l.any badR:=by
  rw [List.any_append]
  have:(List.replicate k rcd0).any badR=false:=by
   rw [List.any_eq_false]
   intro x hx
   rw [List.eq_of_mem_replicate hx]
   decide
  rw [this,Bool.or_false]
 unfold boxesE
 rw [h1,List.length_append,List.length_replicate]
 by_cases h:l.any badR=true
 ·rw [if_pos h,if_pos h]
 ·rw [if_neg h,if_neg h,if_pos (by omega)]
set_option maxRecDepth 100000 in
set_option maxHeartbeats 4000000 in
theorem yj4 (l:List Note) (hl:l.length<2^20) (many:Int) (hm1:-9223372036854775808≤many) (hm2:many<9223372036854775808):Ends Id.y0l [.one (.sl false (l.map Note.c)),.one (.int .i64 many)] (.one (.bool true)):=by
 obtain ⟨N4,k4⟩:=ykb
 obtain ⟨N5,k5⟩:=yns (fz:=fz0) l hl
 have g20:(2:Nat)^20=1048576:=by decide
 have g30:(2:Nat)^30=1073741824:=by decide
 have q40:(((l.length:Nat):Int)>40)=(40<l.length):=by rw [eq_iff_iff];omega
 by_cases p2:40<l.length
 ·refine .of N4 fun {n} hn=> ?_
  have k4:=k4 n (by omega)
  rw [y06 y4o]
  simp only [go_sem,Fn.y0l,k4,List.length_map,q40,p2]
 obtain ⟨R,hR⟩:∃R,R=l.map Note.q:=⟨_,rfl⟩
 have lenR:R.length=l.length:=by rw [hR,List.length_map]
 have hsR:∀x∈R,SmSamp x.s:=fun x hx=>by rw [hR] at hx;obtain ⟨b,_,rfl⟩:=List.mem_map.1 hx;exact Beat.sm b.beat
 have eX:(l.map fun s=>s.q.c)=(R.map some).map rawX:=by rw [hR,List.map_map,List.map_map];rfl
 have eY:(l.map fun s=>s.q.r)=R.map Rcd.r:=by rw [hR,List.map_map];rfl
 have eG:(R.map some).map (fun o=>o.getD rcd0)=R:=by
  rw [List.map_map]
  exact List.map_id R
 have outT:∀{ob1:Nat→Option AObj} {nx1:Nat} {x y:AV},TwoB 0 ob1 nx1 13 17 l.length x y (l.map fun s=>s.q.c) (l.map fun s=>s.q.r)→OutF 13 0 ob1 nx1 x ((R.map some).map rawX)∧YOk ob1 nx1 y R∧((x=.nils∧R.length=0)∨∃a va,x=.rsl a va 13 0 R.length false)∧∀(ob2:Nat→Option AObj),(∀id,id<nx1→¬(∃ver,x=.rsl id ver 13 0 (R.map some).length false)→ob2 id=ob1 id)→YOk ob2 nx1 y R:=fun {ob1 nx1 x y} T=>by
  rw [eX,eY] at T
  rw [←lenR] at T
  obtain ⟨t1,t2,⟨t3,t4,rfl,rfl⟩ | ⟨a,va,b,vb,rfl,rfl,t5,t6,t7,t8,t9,t10,t11⟩⟩:=T
  ·have hR0:R=[]:=by simpa using t4
   exact ⟨.inl ⟨t3,rfl⟩,.inl ⟨hR0,rfl⟩,.inl ⟨rfl,by rw [hR0];rfl⟩,fun _ _=>.inl ⟨hR0,rfl⟩⟩
  ·refine ⟨.inr ⟨a,va,by rw [t1],t5,t10,t7⟩,.inr ⟨b,vb,rfl,t6,t8⟩,.inr ⟨a,va,rfl⟩,fun ob2 h=>.inr ⟨b,vb,rfl, ?_,t8⟩⟩
   rw [h b t8 (fun ⟨ver,hv⟩=>by simp only [AV.rsl.injEq] at hv;exact t9 hv.1)]
   exact t6
 have e20:((2:Int) !=0)=true:=rfl
 have e50:((5:Int) !=0)=true:=rfl
 have e00:((0:Int) !=0)=false:=rfl
 have t22:((2:Int)==2)=true:=rfl
 have t55:((5:Int)==5)=true:=rfl
 have t00:((0:Int)==0)=true:=rfl
 have t20:((2:Int)==0)=false:=rfl
 have w00:IntKind.i64.wrap (0+0)=0:=rfl
 have c0:((0:Nat):Int)=0:=rfl
 by_cases hbig:many>1024
 ·obtain ⟨j,hj⟩:∃j:Nat,j=many.toNat%10:=⟨_,rfl⟩
  have ht:=tmod10 many hbig hm2
  rw [←hj] at ht
  obtain ⟨M,hM⟩:∃M:Nat,M=1025+j:=⟨_,rfl⟩
  have hw:IntKind.i64.wrap (1025+(j:Int))=(M:Int):=by rw [wrap_i64 (by omega)];omega
  have hbig':(many>1024)=True:=eq_true hbig
  obtain ⟨L',hL'⟩:∃L',L'=R.map some++List.replicate (M-R.length) none:=⟨_,rfl⟩
  have lenL:L'.length=M:=by rw [hL'];simp;omega
  have eL:(L'.map fun o=>o.getD rcd0)=R++List.replicate (M-R.length) rcd0:=by rw [hL',List.map_append,eG,List.map_replicate];rfl
  have hs':∀x∈R++List.replicate (M-R.length) rcd0,SmSamp x.s:=fun x hx=>by
   rcases List.mem_append.1 hx with h | h
   ·exact hsR x h
   ·rw [List.eq_of_mem_replicate h];exact ⟨sm0 255,sm0 255,sm0 255⟩
  obtain ⟨N6,k6⟩:=ye1 (R++List.replicate (M-R.length) rcd0) (by rw [←eL,List.length_map];omega) hs'
  have e6:=yls R (M-R.length) (by omega)
  unfold boxesA at k6
  rw [e6,←eL] at k6
  refine .of (N4+N5+N6+M+l.length+1) fun {n} hn=> ?_
  have k4:=k4 n (by omega)
  have k6:=k6 n (by omega)
  obtain ⟨ob1,nx1,x,y,kb,T,hnx,hf⟩:=k5 n (by omega) ob0 0
  obtain ⟨hx0,-,-,hy2⟩:=outT T
  obtain ⟨ob2,nx2,x2,X2,klo,hx2,hnx2,hf2⟩:=yen (n:=n) (base:=0) (fz:=fz0) many (.one y) M j (by omega) ht hw (M-R.length) (R.map some) (by rw [List.length_map];omega) ob1 nx1 x [(32,.one (.bool true))] (Nat.zero_le _) hx0 n (by omega)
  rw [←hL'] at hx2
  have hY:=hy2 ob2 hf2
  obtain ⟨gx,hgx⟩:=hx2.frzG (fun fz=>y8t ob2 6 fz L')
  obtain ⟨a,va,rfl⟩:∃a va,x2=.rsl a va 13 0 M false:=by
   rcases hx2 with ⟨he,-⟩ | ⟨a,va,rfl,-⟩
   ·have h0:L'=[]:=by simpa using he
    rw [h0] at lenL;simp at lenL;omega
   ·exact ⟨a,va,by rw [List.length_map,lenL]⟩
  have hg1:∀fz,mapFz (frzS ob2) fz [.one (.rsl a va 13 0 M false)]=some (gx fz,[.one (.sl false ((L'.map fun o=>o.getD rcd0).map Rcd.c))]):=fun fz=>by simp only [mapFz,hgx]
  have q1:(((M:Nat):Int)>1024)=True:=by simp;omega
  rw [y06 y4o]
  cases hbad:R.any badR with
  | true=>
   rw [hbad,if_pos rfl,if_neg (by decide)] at k6
   have kB:=fun fz=>y9v k6 (hg1 fz)
   obtain ⟨X3,hlo1⟩:=y98 (n:=n) (fz:=gx fz0) (nx:=nx2) (.one (.rsl a va 13 0 M false)) (.one (.sl false [])) (.one (.sl false [])) (.one (.sl false [])) (.one (.int .i64 2)) R (by omega) y hY R 0 (by omega) List.drop_zero 0 [] n (by omega)
   rw [hbad,if_pos rfl,c0] at hlo1
   simp only [go_sem,Fn.y0l,k4,kb,klo,List.length_map,q40,p2,hbig',kB,hlo1,q1,e20,t22,t20,t00,w00,c0]
  | false=>
   rw [hbad,if_neg (by simp),if_neg (by decide)] at k6
   have kB:=fun fz=>y9v k6 (hg1 fz)
   obtain ⟨X3,hlo1⟩:=y98 (n:=n) (fz:=gx fz0) (nx:=nx2) (.one (.rsl a va 13 0 M false)) (.one (.sl false [])) (.one (.sl false [])) (.one (.sl false [])) (.one (.int .i64 5)) R (by omega) y hY R 0 (by omega) List.drop_zero 0 [] n (by omega)
   rw [hbad,if_neg (by simp),c0] at hlo1
   simp only [go_sem,Fn.y0l,k4,kb,klo,List.length_map,q40,p2,hbig',kB,hlo1,q1,e50,t55,t00,w00,c0]
 ·have hbig':(many>1024)=False:=eq_false hbig
  obtain ⟨N6,k6⟩:=ye1 R (by omega) hsR
  unfold boxesA at k6
  cases hbad:R.any badR with
  | true=>
   have e6:boxesE R=2:=by unfold boxesE;rw [if_pos hbad]
   rw [e6,if_neg (by decide)] at k6
   refine .of (N4+N5+N6+l.length+1) fun {n} hn=> ?_
   have k4:=k4 n (by omega)
   have k6:=k6 n (by omega)
   obtain ⟨ob1,nx1,x,y,kb,T,hnx,hf⟩:=k5 n (by omega) ob0 0
   obtain ⟨hx0,hY,-,-⟩:=outT T
   obtain ⟨gx,hgx⟩:=hx0.frzG (fun fz=>y8t ob1 6 fz _)
   rw [eG] at hgx
   have hg1:∀fz,mapFz (frzS ob1) fz [.one x]=some (gx fz,[.one (.sl false (R.map Rcd.c))]):=fun fz=>by simp only [mapFz,hgx]
   have kB:=fun fz=>y9v k6 (hg1 fz)
   obtain ⟨X3,hlo1⟩:=y98 (n:=n) (fz:=gx fz0) (nx:=nx1) (.one x) (.one (.sl false [])) (.one (.sl false [])) (.one (.sl false [])) (.one (.int .i64 2)) R (by omega) y hY R 0 (by omega) List.drop_zero 0 [] n (by omega)
   rw [hbad,if_pos rfl,c0] at hlo1
   rw [y06 y4o]
   simp only [go_sem,Fn.y0l,k4,kb,List.length_map,q40,p2,hbig',kB,hlo1,e20,t22,t20,t00,w00,c0]
  | false=>
   have e6:boxesE R=0:=by unfold boxesE;rw [hbad,if_neg (by simp),if_neg (by omega)]
   obtain ⟨hph,-⟩:=yfc e6
   rw [if_pos e6] at k6
   have hs2:∀x∈R,SmSamp x.s∧x.ph<5:=fun x hx=>⟨hsR x hx,hph x hx⟩
   have hF:(boxesF R).length=5:=by unfold boxesF;rw [yck];rfl
   have hrel:∀p,p<5→∃q,(boxesF R)[p]? =some q∧RelP q (stF R p):=fun p hp=>yc9 p R boxes0 none bx0 rfl hph (by unfold boxes0;rw [List.getElem?_replicate,if_pos hp]) rfl
   have hTl:=yik (boxesF R) R 0
   have hTl2:(mixL (boxesF R) 0 R).length<2^30:=by omega
   generalize boxesF R=S at*
   obtain ⟨T,hT⟩:∃T,T=mixL S 0 R:=⟨_,rfl⟩
   rw [←hT] at k6 hTl2
   obtain ⟨ob1,nx1,x,y,kb,Tw,hnx,hf⟩:=k5 N5 (Nat.le_refl _) ob0 0
   have kb:∀n,N5≤n→evF E n (.fn Id.y21) [.one (.sl false (l.map Note.c))] ⟨ob0,fz0,0⟩=some (.tup [.one x,.one y],⟨ob1,fz0,nx1⟩):=fun n hn=>ycn E hn _ _ _ _ kb
   obtain ⟨hx0,hY,hxl,-⟩:=outT Tw
   obtain ⟨gx,hgx⟩:=hx0.frzG (fun fz=>y8t ob1 6 fz _)
   rw [eG] at hgx
   have hg1:∀fz,mapFz (frzS ob1) fz [.one x]=some (gx fz,[.one (.sl false (R.map Rcd.c))]):=fun fz=>by simp only [mapFz,hgx]
   obtain ⟨M4,hM4⟩:=yoy (base:=nx1) (bb:=nx1) (.one (.sl false (T.map mixC))) R (by omega) hs2 (Nat.le_refl _) y S hF hrel
   obtain ⟨ob3,nx3,N3,X3,hlo4,b1,b2,b3,b4,b5,b6,b7⟩:=hM4 (M4+6) (by omega) 5 0 rfl (upd ob1 nx1 (.box (flatN (List.replicate 30 none)))) (gx fz0) (nx1+1) (List.replicate 30 none) [] (M4+6) (by omega) (hY.frame fun id hid=>y00 (by omega)) (by omega) (upd_same _ _ _) (by simp) (fun o ho=>by rw [List.eq_of_mem_replicate ho];exact sm0 255) (fun p hp=>by rw [if_neg (by omega)];exact yrx p hp)
   obtain ⟨M6,hM6⟩:=yps (base:=nx1) (bb:=nx1) R (by omega) hs2 (Nat.le_refl _) S hF hrel T hTl2 y N3 b2 b3
   refine .of (N4+N5+N6+M4+M6+l.length+7) fun {n} hn=> ?_
   have k4:=k4 n (by omega)
   have k6:=k6 n (by omega)
   have kb:=kb n (by omega)
   have kB:=fun fz=>y9v k6 (hg1 fz)
   have hlo4:=ylr Fn.y39 (n':=n) (k':=n) (by omega) (by omega) hlo4
   obtain ⟨X6,hlo6⟩:=hM6 n (by omega) ob3 (gx fz0) nx3 b4 b6 b1 R 0 (by omega) List.drop_zero [] [] n (by omega) (by rw [List.nil_append];exact hT)
   obtain ⟨X1,hlo1⟩:=y98 (n:=n) (fz:=gx fz0) (nx:=nx1) (.one x) (.one (.sl false (S.map fun q=>q.1.c))) (.one (.sl false (S.map rawK))) (.one (.sl false (T.map mixC))) (.one (.int .i64 0)) R (by omega) y hY R 0 (by omega) List.drop_zero 0 [] n (by omega)
   rw [hbad,if_neg (by simp),c0] at hlo1
   rw [List.length_nil,c0] at hlo6
   rw [flat30,c0] at hlo4
   have q5:((5:Int) !=5)=false:=rfl
   have s5:((S.length:Nat):Int)=5:=by rw [hF];rfl
   have qT:(((T.length:Nat):Int)==((T.length:Nat):Int))=true:=by simp
   rw [y06 y4o]
   rcases hxl with ⟨rfl,hl0⟩ | ⟨a,va,rfl⟩
   ·have q0:((0:Int)>1024)=False:=by simp
    simp only [go_sem,Fn.y0l,k4,kb,List.length_map,q40,p2,hbig',kB,hlo1,e00,t00,c0,q0,s5,q5,hlo4,hlo6,qT]
   ·have q0:(((R.length:Nat):Int)>1024)=False:=by simp;omega
    simp only [go_sem,Fn.y0l,k4,kb,List.length_map,q40,p2,hbig',kB,hlo1,e00,t00,c0,q0,s5,q5,hlo4,hlo6,qT]
end Go.Ev
