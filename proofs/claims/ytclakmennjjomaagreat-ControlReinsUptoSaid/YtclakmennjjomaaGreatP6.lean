import Derived.Test.YtclakmennjjomaaGreatP5
set_option linter.all false
namespace Go.Ev
open Go.Dig
section
variable {n:Nat} {ob:Nat→Option AObj} {fz:Nat→Nat} {nx:Nat} {L:List (Nat×SV)} {x y:AV} {j:Jt} {at_ lng:Int} {q r:Nat}
set_option maxHeartbeats 4000000 in
theorem y13n {er:Int} (hL:RnF L x y q false er r er [] er) (B:RnB ob j at_ lng) (hr:ob r=some (.box (qC 0))) (he:er=errR j.low.q j.high.q j.most.q j.step.q j.d) (hne:er≠0)
  (k1:∀ob fz,callV (evF E n) Id.y0b [.agg (rC j.low.q),.agg (rC j.high.q)] ob fz=some (.fzd fz (.one (.int .i64 (cmpQ j.low.q j.high.q))))) (k2:∀ob fz,callV (evF E n) Id.y0f [.agg (rC j.most.q)] ob fz=some (.fzd fz (.one (.int .i64 (signI j.most.q.num))))) (k3:∀ob fz,callV (evF E n) Id.y0f [.agg (rC j.step.q)] ob fz=some (.fzd fz (.one (.int .i64 (signI j.step.q.num)))))
  (k4:∀ob fz,callV (evF E n) Id.y0m [] ob fz=some (.fzd fz (.one (.bool true)))) (k5:∀ob fz,callV (evF E n) Id.y0c [.agg (qC 0)] ob fz=some (.fzd fz (.one (.int .i64 (signI (0:Rat).num))))):
  finV [.tmp 8] (evC (evF E n) n (tailAt 10 rnC) ⟨env L,ob,fz,nx⟩)=some (.one (.bool true)):=by
 obtain ⟨e4,e6,e12,e13,e14,e15,e16,e18,e19,e20,e21,e22,e23,e24⟩:=hL
 obtain ⟨o0,o1,o12,o13,o14,o15,o16,o17⟩:=B
 have s0:(signI (0:Rat).num==0)=true:=rfl
 have b22:((2:Int)==2)=true:=rfl
 have b33:((3:Int)==3)=true:=rfl
 have n2:((2:Int) !=0)=true:=rfl
 have n3:((3:Int) !=0)=true:=rfl
 have z0:(((0:Nat):Int)==0)=true:=rfl
 unfold errR at he
 by_cases c1:cmpQ j.low.q j.high.q>0
 ·have f1:(cmpQ j.low.q j.high.q>0)=True:=by simp only [eq_iff_iff,iff_true];exact c1
  rw [if_pos (.inl c1)] at he
  subst he
  unfold rnC Fn.y04
  simp only [tailAt,go_sem,e4,e6,e12,e13,e14,e15,e16,e18,e19,e20,e21,e22,e23,e24,o0,o1,o15,o16,o17,hr,k1,k2,k3,k4,k5,s0,b22,n2,z0,f1]
 have f1:(cmpQ j.low.q j.high.q>0)=False:=by simp only [eq_iff_iff,iff_false];exact c1
 by_cases c2:j.most.q.num≤0
 ·have f2:(signI j.most.q.num≤0)=True:=by rw [y6p,eq_iff_iff,iff_true];exact c2
  rw [if_pos (.inr (.inl c2))] at he
  subst he
  unfold rnC Fn.y04
  simp only [tailAt,go_sem,e4,e6,e12,e13,e14,e15,e16,e18,e19,e20,e21,e22,e23,e24,o0,o1,o15,o16,o17,hr,k1,k2,k3,k4,k5,s0,b22,n2,z0,f1,f2]
 have f2:(signI j.most.q.num≤0)=False:=by rw [y6p,eq_iff_iff,iff_false];exact c2
 by_cases c3:j.step.q.num≤0
 ·have f3:(signI j.step.q.num≤0)=True:=by rw [y6p,eq_iff_iff,iff_true];exact c3
  rw [if_pos (.inr (.inr c3))] at he
  subst he
  unfold rnC Fn.y04
  simp only [tailAt,go_sem,e4,e6,e12,e13,e14,e15,e16,e18,e19,e20,e21,e22,e23,e24,o0,o1,o15,o16,o17,hr,k1,k2,k3,k4,k5,s0,b22,n2,z0,f1,f2,f3]
 have f3:(signI j.step.q.num≤0)=False:=by rw [y6p,eq_iff_iff,iff_false];exact c3
 rw [if_neg (by omega)] at he
 by_cases c4:j.d<0
 ·have f4:(j.d<0)=True:=by simp only [eq_iff_iff,iff_true];exact c4
  rw [if_pos (.inl c4)] at he
  subst he
  unfold rnC Fn.y04
  simp only [tailAt,go_sem,e4,e6,e12,e13,e14,e15,e16,e18,e19,e20,e21,e22,e23,e24,o0,o1,o15,o16,o17,hr,k1,k2,k3,k4,k5,s0,b33,n3,z0,f1,f2,f3,f4]
 have f4:(j.d<0)=False:=by simp only [eq_iff_iff,iff_false];exact c4
 by_cases c5:j.d>16
 ·have f5:(j.d>16)=True:=by simp only [eq_iff_iff,iff_true];exact c5
  rw [if_pos (.inr c5)] at he
  subst he
  unfold rnC Fn.y04
  simp only [tailAt,go_sem,e4,e6,e12,e13,e14,e15,e16,e18,e19,e20,e21,e22,e23,e24,o0,o1,o15,o16,o17,hr,k1,k2,k3,k4,k5,s0,b33,n3,z0,f1,f2,f3,f4,f5]
 rw [if_neg (by omega)] at he
 exact absurd he hne
structure RnOk (j:Jt):Prop where
 c1:¬cmpQ j.low.q j.high.q>0
 c2:0<j.most.q.num
 c3:0<j.step.q.num
 d0:0≤j.d
 d1:j.d≤16
theorem yxi (hL:RnF L x y q false 0 r 13 [] 13) (B:RnB ob j at_ lng) (hr:ob r=some (.box (qC 0))) (ok:RnOk j)
  (k1:∀ob fz,callV (evF E n) Id.y0b [.agg (rC j.low.q),.agg (rC j.high.q)] ob fz=some (.fzd fz (.one (.int .i64 (cmpQ j.low.q j.high.q))))) (k2:∀ob fz,callV (evF E n) Id.y0f [.agg (rC j.most.q)] ob fz=some (.fzd fz (.one (.int .i64 (signI j.most.q.num))))) (k3:∀ob fz,callV (evF E n) Id.y0f [.agg (rC j.step.q)] ob fz=some (.fzd fz (.one (.int .i64 (signI j.step.q.num)))))
  (k4:∀ob fz,callV (evF E n) Id.y0m [] ob fz=some (.fzd fz (.one (.bool true)))) (k5:∀ob fz,callV (evF E n) Id.y0c [.agg (qC 0)] ob fz=some (.fzd fz (.one (.int .i64 (signI (0:Rat).num)))))
  (k6:∀ob fz,callV (evF E n) Id.y19 [.agg (rC j.low.q++(rC j.high.q++(rC j.most.q++rC j.step.q))),.agg (rC j.place.q),.agg (rC j.speed.q),.one (.int .i64 j.d)] ob fz=some (.fzd fz (.one (.bool false)))):
  finV [.tmp 8] (evC (evF E n) n (tailAt 10 rnC) ⟨env L,ob,fz,nx⟩)=some (.one (.bool true)):=by
 obtain ⟨e4,e6,e12,e13,e14,e15,e16,e18,e19,e20,e21,e22,e23,e24⟩:=hL
 obtain ⟨o0,o1,o12,o13,o14,o15,o16,o17⟩:=B
 obtain ⟨c1,c2,c3,d0,d1⟩:=ok
 have s0:(signI (0:Rat).num==0)=true:=rfl
 have b00:((0:Int) !=0)=false:=rfl
 have b13:((13:Int)==13)=true:=rfl
 have z0:(((0:Nat):Int)==0)=true:=rfl
 have f1:(cmpQ j.low.q j.high.q>0)=False:=by simp only [eq_iff_iff,iff_false];exact c1
 have f2:(signI j.most.q.num≤0)=False:=by rw [y6p,eq_iff_iff,iff_false];omega
 have f3:(signI j.step.q.num≤0)=False:=by rw [y6p,eq_iff_iff,iff_false];omega
 have f4:(j.d<0)=False:=by simp only [eq_iff_iff,iff_false];omega
 have f5:(j.d>16)=False:=by simp only [eq_iff_iff,iff_false];omega
 have bff:(!(false==false))=false:=rfl
 unfold rnC Fn.y04
 simp only [tailAt,go_sem,e4,e6,e12,e13,e14,e15,e16,e18,e19,e20,e21,e22,e23,e24,o0,o1,o15,o16,o17,hr,k1,k2,k3,k4,k5,k6,s0,b00,b13,z0,f1,f2,f3,f4,f5,bff]
set_option maxHeartbeats 4000000 in
theorem y106 {h:Int} {v w0:Rat} {qc:List AV} {es fs:List (List AV)} (hL:RnF L x y q true 0 r 0 [] h) (B:RnB ob j at_ lng) (P:PairIs 24 ob nx x y es fs) (hr:ob r=some (.box (qC v))) (hq:ob q=some (.box qc)) (hrw:RW w0 qc) (hrn:r<nx) (hqn:q<nx) (hnx:24≤nx) (ok:RnOk j) (hlen:es.length<2^20)
  (hh:(h=5∧es.length>256)∨(h=2∧es.length≤256∧(at_<0∨lng<0∨lng>j.d)))
  (k1:∀ob fz,callV (evF E n) Id.y0b [.agg (rC j.low.q),.agg (rC j.high.q)] ob fz=some (.fzd fz (.one (.int .i64 (cmpQ j.low.q j.high.q))))) (k2:∀ob fz,callV (evF E n) Id.y0f [.agg (rC j.most.q)] ob fz=some (.fzd fz (.one (.int .i64 (signI j.most.q.num))))) (k3:∀ob fz,callV (evF E n) Id.y0f [.agg (rC j.step.q)] ob fz=some (.fzd fz (.one (.int .i64 (signI j.step.q.num)))))
  (k4:∀ob fz,callV (evF E n) Id.y0m [] ob fz=some (.fzd fz (.one (.bool true))))
  (k6:∀ob fz,callV (evF E n) Id.y19 [.agg (rC j.low.q++(rC j.high.q++(rC j.most.q++rC j.step.q))),.agg (rC j.place.q),.agg (rC j.speed.q),.one (.int .i64 j.d)] ob fz=some (.fzd fz (.one (.bool true))))
  (k7:∀ob fz,callV (evF E n) Id.y1i [.agg (rC j.low.q++(rC j.high.q++(rC j.most.q++rC j.step.q))),.agg (rC j.place.q),.agg (rC j.speed.q),.agg qc,.one (.int .i64 j.d)] ob fz=some (.fzd fz (.agg (rC v))))
  (k8:∀ob fz,callV (evF E n) Id.y1v [.agg (qC v),.agg (rC v)] ob fz=some (.fzd fz (.one (.bool true)))):
  finV [.tmp 8] (evC (evF E n) n (tailAt 10 rnC) ⟨env L,ob,fz,nx⟩)=some (.one (.bool true)):=by
 obtain ⟨e4,e6,e12,e13,e14,e15,e16,e18,e19,e20,e21,e22,e23,e24⟩:=hL
 obtain ⟨o0,o1,o12,o13,o14,o15,o16,o17⟩:=B
 obtain ⟨c1,c2,c3,d0,d1⟩:=ok
 have b00:((0:Int) !=0)=false:=rfl
 have b55:((5:Int)==5)=true:=rfl
 have b22:((2:Int)==2)=true:=rfl
 have z0:(((0:Nat):Int)==0)=true:=rfl
 have f1:(cmpQ j.low.q j.high.q>0)=False:=by simp only [eq_iff_iff,iff_false];exact c1
 have f2:(signI j.most.q.num≤0)=False:=by rw [y6p,eq_iff_iff,iff_false];omega
 have f3:(signI j.step.q.num≤0)=False:=by rw [y6p,eq_iff_iff,iff_false];omega
 have f4:(j.d<0)=False:=by simp only [eq_iff_iff,iff_false];omega
 have f5:(j.d>16)=False:=by simp only [eq_iff_iff,iff_false];omega
 have btt:(!(true==true))=false:=rfl
 have lt0:(0<nx)=True:=by simp only [eq_iff_iff,iff_true];omega
 have lt15:(15<nx)=True:=by simp only [eq_iff_iff,iff_true];omega
 have lt16:(16<nx)=True:=by simp only [eq_iff_iff,iff_true];omega
 have lt17:(17<nx)=True:=by simp only [eq_iff_iff,iff_true];omega
 have ltr:(r<nx)=True:=by simp only [eq_iff_iff,iff_true];omega
 have ltq:(q<nx)=True:=by simp only [eq_iff_iff,iff_true];omega
 have ls:=hrw.sub4
 rcases hh with ⟨rfl,h256⟩ | ⟨rfl,h256,hk⟩
 ·have f6:(((es.length:Nat):Int)>256)=True:=by simp only [eq_iff_iff,iff_true];omega
  rcases P.fst with ⟨rfl,rfl⟩ | ⟨a,va,rfl,-⟩
  ·simp at h256
  ·unfold rnC Fn.y04
   simp only [tailAt,go_sem,e4,e6,e12,e13,e14,e15,e16,e18,e19,e20,e21,e22,e23,e24,o0,o1,o15,o16,o17,hr,hq,↓ls,k1,k2,k3,k4,k6,k7,k8,b00,b55,z0,f1,f2,f3,f4,f5,f6,btt,lt0,lt15,lt16,lt17,ltr,ltq]
 ·have f6:(((es.length:Nat):Int)>256)=False:=by simp only [eq_iff_iff,iff_false];omega
  have f60:(((0:Nat):Int)>256)=False:=by simp
  have fin:∀x',env L 15=.one x'→(x'=.nils∨∃a va,x'=.rsl a va 3 0 es.length false)→finV [.tmp 8] (evC (evF E n) n (tailAt 10 rnC) ⟨env L,ob,fz,nx⟩)=some (.one (.bool true)):=by
   intro x' e15 hx
   by_cases a1:at_<0
   ·have g1:(at_<0)=True:=by simp only [eq_iff_iff,iff_true];exact a1
    rcases hx with rfl | ⟨a,va,rfl⟩
    ·unfold rnC Fn.y04
     simp only [tailAt,go_sem,e4,e6,e12,e13,e14,e15,e16,e18,e19,e20,e21,e22,e23,e24,o0,o1,o15,o16,o17,hr,hq,↓ls,k1,k2,k3,k4,k6,k7,k8,b00,b22,z0,f1,f2,f3,f4,f5,f60,btt,lt0,lt15,lt16,lt17,ltr,ltq,g1]
    ·unfold rnC Fn.y04
     simp only [tailAt,go_sem,e4,e6,e12,e13,e14,e15,e16,e18,e19,e20,e21,e22,e23,e24,o0,o1,o15,o16,o17,hr,hq,↓ls,k1,k2,k3,k4,k6,k7,k8,b00,b22,z0,f1,f2,f3,f4,f5,f6,btt,lt0,lt15,lt16,lt17,ltr,ltq,g1]
   have g1:(at_<0)=False:=by simp only [eq_iff_iff,iff_false];exact a1
   by_cases a2:lng<0
   ·have g2:(lng<0)=True:=by simp only [eq_iff_iff,iff_true];exact a2
    rcases hx with rfl | ⟨a,va,rfl⟩
    ·unfold rnC Fn.y04
     simp only [tailAt,go_sem,e4,e6,e12,e13,e14,e15,e16,e18,e19,e20,e21,e22,e23,e24,o0,o1,o15,o16,o17,hr,hq,↓ls,k1,k2,k3,k4,k6,k7,k8,b00,b22,z0,f1,f2,f3,f4,f5,f60,btt,lt0,lt15,lt16,lt17,ltr,ltq,g1,g2]
    ·unfold rnC Fn.y04
     simp only [tailAt,go_sem,e4,e6,e12,e13,e14,e15,e16,e18,e19,e20,e21,e22,e23,e24,o0,o1,o15,o16,o17,hr,hq,↓ls,k1,k2,k3,k4,k6,k7,k8,b00,b22,z0,f1,f2,f3,f4,f5,f6,btt,lt0,lt15,lt16,lt17,ltr,ltq,g1,g2]
   have g2:(lng<0)=False:=by simp only [eq_iff_iff,iff_false];exact a2
   have g3:(lng>j.d)=True:=by simp only [eq_iff_iff,iff_true];omega
   rcases hx with rfl | ⟨a,va,rfl⟩
   ·unfold rnC Fn.y04
    simp only [tailAt,go_sem,e4,e6,e12,e13,e14,e15,e16,e18,e19,e20,e21,e22,e23,e24,o0,o1,o15,o16,o17,hr,hq,↓ls,k1,k2,k3,k4,k6,k7,k8,b00,b22,z0,f1,f2,f3,f4,f5,f60,btt,lt0,lt15,lt16,lt17,ltr,ltq,g1,g2,g3]
   ·unfold rnC Fn.y04
    simp only [tailAt,go_sem,e4,e6,e12,e13,e14,e15,e16,e18,e19,e20,e21,e22,e23,e24,o0,o1,o15,o16,o17,hr,hq,↓ls,k1,k2,k3,k4,k6,k7,k8,b00,b22,z0,f1,f2,f3,f4,f5,f6,btt,lt0,lt15,lt16,lt17,ltr,ltq,g1,g2,g3]
  rcases P.fst with ⟨_,h⟩ | ⟨a,va,h,-⟩
  ·exact fin x e15 (.inl h)
  ·exact fin x e15 (.inr ⟨a,va,h⟩)
end
theorem MoQ.len {o:Mo} {e:List AV} (h:MoQ o e):e.length=12:=by
 obtain ⟨tc,h1,rfl⟩:=h
 rw [List.length_append,h1.len4,List.length_append,y5j,y5j]
theorem MoQs.okSz:∀{ms:List Mo} {es:List (List AV)},MoQs ms es→Ev.okSz 12 es=true
 | [],[],_=>rfl
 | _::r,_::s,h=>by simp [Ev.okSz,h.1.len]
def rlsS (X:List (Nat×SV)) (os es:List (List AV)) (i:Nat):List (Nat×SV):=(23,.one (.sl false os))::(27,.one (.sl false es))::(28,.one (.int .i64 (i:Int)))::X
theorem yoz (os es:List (List AV)) (oz:okSz 9 os=true) (ez:okSz 12 es=true) (hl:es.length=os.length) (hlen:os.length<2^20) {n:Nat} (hn:4*6300000+112≤n) {ob:Nat→Option AObj} {fz:Nat→Nat} {nx:Nat}:
  ∀(r:List Mo) (s:List (List AV)) (i:Nat),os.drop i=r.map Mo.c→es.drop i=s→MoQs r s→(∀o∈r,SmQ 6300000 o.a∧SmQ 200000 o.v∧SmQ 200000 o.p)→i+r.length=os.length→∀(X:List (Nat×SV)) (Q:Nat),r.length<Q→
   ∃X',loopN (evC (evF E n) n Fn.y4m) Q ⟨env (rlsS X os es i),ob,fz,nx⟩=some (.ext 2,⟨env (rlsS X' os es os.length),ob,fz,nx⟩)
 | [],s,i,hd,he,hq,hr,hi,X,Q,hQ=>by
  rw [List.length_nil,Nat.add_zero] at hi
  obtain ⟨Q,rfl⟩:∃q,Q=q+1:=⟨Q-1,by omega⟩
  subst hi
  have lt:(((os.length:Nat):Int)<((os.length:Nat):Int))=False:=by simp
  refine ⟨[(275,.one (.bool false))],y06 ?_⟩
  unfold rlsS
  simp only [go_sem,Fn.y4m,lt]
 | o::r,[],i,hd,he,hq,hr,hi,X,Q,hQ=>hq.elim
 | o::r,e::s,i,hd,he,hq,hr,hi,X,Q,hQ=>by
  rw [List.length_cons] at hi hQ
  obtain ⟨Q,rfl⟩:∃q,Q=q+1:=⟨Q-1,by omega⟩
  have go:os[i]? =some o.c:=by
   have:=congrArg (fun l=>l[0]?) hd
   simpa using this
  have hd':os.drop (i+1)=r.map Mo.c:=by
   have:=congrArg (fun l=>l.drop 1) hd
   simpa using this
  have ge:es[i]? =some e:=by
   have:=congrArg (fun l=>l[0]?) he
   simpa using this
  have he':es.drop (i+1)=s:=by
   have:=congrArg (fun l=>l.drop 1) he
   simpa using this
  obtain ⟨sa,sv,sp⟩:=hr o (by simp)
  obtain ⟨⟨tc,htc,rfl⟩,hq⟩:=hq
  have k1:=cSame htc sa (by decide) n hn
  have k2:=cSame (RQ.self o.v) (sv.mono (show 200000≤6300000 by decide)) (by decide) n hn
  have k3:=cSame (RQ.self o.p) (sp.mono (show 200000≤6300000 by decide)) (by decide) n hn
  obtain ⟨X',f1⟩:=yoz os es oz ez hl hlen hn r s (i+1) hd' he' hq (fun x hx=>hr x (by simp [hx])) (by omega) [] Q (by omega)
  refine ⟨X', ?_⟩
  rw [←f1]
  refine y07 ?_
  have lt:(((i:Nat):Int)<((os.length:Nat):Int))=True:=by simp;omega
  have li:(i<os.length)=True:=by simp only [eq_iff_iff,iff_true];omega
  have le:(i<es.length)=True:=by simp only [eq_iff_iff,iff_true];omega
  have wk:IntKind.i64.wrap ((i+1:Nat):Int)=((i+1:Nat):Int):=wi64 (by omega)
  have s0:sub (tc++(rC o.v++rC o.p)) 0 4=some tc:=y75 htc.len4
  have s4:sub (tc++(rC o.v++rC o.p)) 4 4=some (rC o.v):=by rw [y8g htc.len4 0 4];exact ytn _ _
  have s8:sub (tc++(rC o.v++rC o.p)) 8 4=some (rC o.p):=by rw [y8g htc.len4 4 4,ywe];exact yuw _
  have l12:(tc++(rC o.v++rC o.p)).length=12:=by rw [List.length_append,htc.len4,List.length_append,y5j,y5j]
  unfold rlsS
  simp only [go_sem,Fn.y4m,lt,li,le,go,ge,oz,ez,↓s0,↓s4,↓s8,↓l12,k1,k2,k3,add1,wk]
section
variable {n:Nat} {ob:Nat→Option AObj} {fz:Nat→Nat} {nx:Nat} {L:List (Nat×SV)} {x y:AV} {j:Jt} {at_ lng:Int} {q r:Nat}
set_option maxHeartbeats 4000000 in
theorem y10k {v w0:Rat} {qc:List AV} {es fs:List (List AV)} {os:List Mo} {es2:List (List AV)} {fz':Nat→Nat} (hL:RnF L x y q true 0 r 0 (os.map Mo.c) 0) (B:RnB ob j at_ lng) (P:PairIs 24 ob nx x y es fs) (hr:ob r=some (.box (qC v))) (hq:ob q=some (.box qc)) (hrw:RW w0 qc) (hrn:r<nx) (hqn:q<nx) (hnx:24≤nx) (ok:RnOk j) (h256:es.length≤256)
  (ha:0≤at_) (g0:0≤lng) (g1':lng≤j.d) (hos:os.length<2^20) (hmq:MoQs os es2) (hsz:∀o∈os,SmQ 6300000 o.a∧SmQ 200000 o.v∧SmQ 200000 o.p) (hn:4*6300000+112≤n) (hn2:os.length<n)
  (k1:∀ob fz,callV (evF E n) Id.y0b [.agg (rC j.low.q),.agg (rC j.high.q)] ob fz=some (.fzd fz (.one (.int .i64 (cmpQ j.low.q j.high.q))))) (k2:∀ob fz,callV (evF E n) Id.y0f [.agg (rC j.most.q)] ob fz=some (.fzd fz (.one (.int .i64 (signI j.most.q.num))))) (k3:∀ob fz,callV (evF E n) Id.y0f [.agg (rC j.step.q)] ob fz=some (.fzd fz (.one (.int .i64 (signI j.step.q.num)))))
  (k4:∀ob fz,callV (evF E n) Id.y0m [] ob fz=some (.fzd fz (.one (.bool true))))
  (k6:∀ob fz,callV (evF E n) Id.y19 [.agg (rC j.low.q++(rC j.high.q++(rC j.most.q++rC j.step.q))),.agg (rC j.place.q),.agg (rC j.speed.q),.one (.int .i64 j.d)] ob fz=some (.fzd fz (.one (.bool true))))
  (k7:∀ob fz,callV (evF E n) Id.y1i [.agg (rC j.low.q++(rC j.high.q++(rC j.most.q++rC j.step.q))),.agg (rC j.place.q),.agg (rC j.speed.q),.agg qc,.one (.int .i64 j.d)] ob fz=some (.fzd fz (.agg (rC v))))
  (k8:∀ob fz,callV (evF E n) Id.y1v [.agg (qC v),.agg (rC v)] ob fz=some (.fzd fz (.one (.bool true))))
  (k9:callV (evF E n) Id.y11 [.agg (rC j.low.q++(rC j.high.q++(rC j.most.q++rC j.step.q))),.agg (rC j.place.q),.agg (rC j.speed.q),.one y,.one (.int .i64 j.d),.one (.int .i64 at_),.one (.int .i64 lng)] ob fz=some (.fzd fz' (.one (.sl false es2)))):
  finV [.tmp 8] (evC (evF E n) n (tailAt 10 rnC) ⟨env L,ob,fz,nx⟩)=some (.one (.bool true)):=by
 obtain ⟨e4,e6,e12,e13,e14,e15,e16,e18,e19,e20,e21,e22,e23,e24⟩:=hL
 obtain ⟨o0,o1,o12,o13,o14,o15,o16,o17⟩:=B
 obtain ⟨c1,c2,c3,d0,d1⟩:=ok
 have b00:((0:Int) !=0)=false:=rfl
 have f1:(cmpQ j.low.q j.high.q>0)=False:=by simp only [eq_iff_iff,iff_false];exact c1
 have f2:(signI j.most.q.num≤0)=False:=by rw [y6p,eq_iff_iff,iff_false];omega
 have f3:(signI j.step.q.num≤0)=False:=by rw [y6p,eq_iff_iff,iff_false];omega
 have f4:(j.d<0)=False:=by simp only [eq_iff_iff,iff_false];omega
 have f5:(j.d>16)=False:=by simp only [eq_iff_iff,iff_false];omega
 have g1:(at_<0)=False:=by simp only [eq_iff_iff,iff_false];omega
 have g2:(lng<0)=False:=by simp only [eq_iff_iff,iff_false];omega
 have g3:(lng>j.d)=False:=by simp only [eq_iff_iff,iff_false];omega
 have btt:(!(true==true))=false:=rfl
 have lt0:(0<nx)=True:=by simp only [eq_iff_iff,iff_true];omega
 have lt15:(15<nx)=True:=by simp only [eq_iff_iff,iff_true];omega
 have lt16:(16<nx)=True:=by simp only [eq_iff_iff,iff_true];omega
 have lt17:(17<nx)=True:=by simp only [eq_iff_iff,iff_true];omega
 have ltr:(r<nx)=True:=by simp only [eq_iff_iff,iff_true];omega
 have ltq:(q<nx)=True:=by simp only [eq_iff_iff,iff_true];omega
 have ls:=hrw.sub4
 have f6:(((es.length:Nat):Int)>256)=False:=by simp only [eq_iff_iff,iff_false];omega
 have f60:(((0:Nat):Int)>256)=False:=by simp
 have hl2:=hmq.len
 have beq:(((os.length:Nat):Int) !=((es2.length:Nat):Int))=false:=by rw [hl2];simp
 have hml:(os.map Mo.c).length=os.length:=List.length_map _
 obtain ⟨X',f⟩:=yoz (os.map Mo.c) es2 (y9r Mo.len os) hmq.okSz (by rw [hl2,hml]) (by rw [hml];exact hos) hn (ob:=ob) (fz:=fz') (nx:=nx) os es2 0 rfl rfl hmq hsz (by simp) [] n hn2
 have key:finV [.tmp 8] (thenC (evF E n) n (tailAt 22 rnC) (blkC 2 (loopN (evC (evF E n) n Fn.y4m) n ⟨env (rlsS [] (os.map Mo.c) es2 0),ob,fz',nx⟩)))=some (.one (.bool true)):=by
  rw [f,y7c,if_pos rfl,y4u]
  unfold rlsS rnC
  simp only [go_sem,tailAt,Fn.y04,k4]
 have fin:∀x',env L 15=.one x'→(x'=.nils∨∃a va,x'=.rsl a va 3 0 es.length false)→finV [.tmp 8] (evC (evF E n) n (tailAt 10 rnC) ⟨env L,ob,fz,nx⟩)=some (.one (.bool true)):=by
  intro x' e15 hx
  rw [show tailAt 10 rnC=cutAt 12 (tailAt 10 rnC) (tailAt 22 rnC) from rfl]
  generalize tailAt 22 rnC=T' at key ⊢
  unfold rlsS at key
  rcases hx with rfl | ⟨a,va,rfl⟩
  ·unfold rnC Fn.y04
   simp only [tailAt,cutAt,go_sem,e4,e6,e12,e13,e14,e15,e16,e18,e19,e20,e21,e22,e23,e24,o0,o1,o15,o16,o17,hr,hq,↓ls,k1,k2,k3,k4,k6,k7,k8,k9,b00,f1,f2,f3,f4,f5,f60,g1,g2,g3,btt,lt0,lt15,lt16,lt17,ltr,ltq,hml,beq]
   exact key
  ·unfold rnC Fn.y04
   simp only [tailAt,cutAt,go_sem,e4,e6,e12,e13,e14,e15,e16,e18,e19,e20,e21,e22,e23,e24,o0,o1,o15,o16,o17,hr,hq,↓ls,k1,k2,k3,k4,k6,k7,k8,k9,b00,f1,f2,f3,f4,f5,f6,g1,g2,g3,btt,lt0,lt15,lt16,lt17,ltr,ltq,hml,beq]
   exact key
 rcases P.fst with ⟨_,h⟩ | ⟨a,va,h,-⟩
 ·exact fin x e15 (.inl h)
 ·exact fin x e15 (.inr ⟨a,va,h⟩)
end
end Go.Ev
namespace Go.Ev
open Go.Dig
theorem yn5 (j:Jt):∀v∈[SV.agg (qC j.low.q++(qC j.high.q++(qC j.most.q++qC j.step.q))),.agg (qC j.place.q),.agg (qC j.speed.q)],CanS v:=fun x hx=>by
 simp only [List.mem_cons,List.not_mem_nil,or_false] at hx
 rcases hx with rfl | rfl | rfl
 ·exact y8r _ _ _ _
 ·exact y22 _
 ·exact y22 _
theorem yvv (j:Jt):∀v∈[SV.agg (rC j.low.q++(rC j.high.q++(rC j.most.q++rC j.step.q))),.agg (rC j.place.q),.agg (rC j.speed.q)],CanS v:=fun x hx=>by
 simp only [List.mem_cons,List.not_mem_nil,or_false] at hx
 rcases hx with rfl | rfl | rfl
 ·exact y7x _ _ _ _
 ·exact y7l _
 ·exact y7l _
theorem ytd {l h m s p v:Rat} (hm:0<m) (hs:0<s) (hb:briefB l h m s p v=true):absQ v≤((200:Nat):Rat)*(s*m)∧h-l≤((200:Nat):Rat)*(s*m)*s:=by
 unfold briefB at hb
 rw [if_neg (Rat.not_le.2 hm),if_neg (Rat.not_le.2 hs)] at hb
 simp only [Bool.and_eq_true,decide_eq_true_eq] at hb
 exact ⟨hb.1,hb.2.1⟩
set_option maxRecDepth 100000 in
set_option maxHeartbeats 4000000 in
theorem y118 (j:Jt) (l:List Num) (hl:l.length≤12) (at_ lng:Int) (ha':at_<9223372036854775808) (mn:Int) (hbr:briefB j.low.q j.high.q j.most.q j.step.q j.place.q j.speed.q=true):
  ∃N,∀n,N≤n→∀(ob:Nat→Option AObj) (L:List (Nat×SV)),RnB ob j at_ lng→env L 1=.one (.sl false (l.map Num.c))→env L 3=.one (.int .i64 mn)→env L 4=.one (.box 0 0)→env L 6=.one (.box 1 0)→env L 9=.one (.box 12 0)→env L 10=.one (.box 13 0)→env L 11=.one (.box 14 0)→env L 12=.one (.box 15 0)→env L 13=.one (.box 16 0)→env L 14=.one (.box 17 0)→
   finV [.tmp 8] (evC (evF E n) n (tailAt 3 rnC) ⟨env L,ob,fz0,24⟩)=some (.one (.bool true)):=by
 obtain ⟨ws,hws⟩:∃ws:List Rat,ws=l.map Num.q:=⟨_,rfl⟩
 have hmq:(l.map fun s=>qC s.q)=ws.map qC:=by rw [hws,List.map_map];rfl
 have hmr:(l.map fun s=>rC s.q)=ws.map rC:=by rw [hws,List.map_map];rfl
 have hlw:ws.length=l.length:=by rw [hws,List.length_map]
 have hsw:∀w∈ws,SmQ 256 w:=fun w hw=>by rw [hws] at hw;obtain ⟨x,-,rfl⟩:=List.mem_map.1 hw;exact x.qS
 have sw0:SmQ 256 (ws.headD 0):=by
  cases ws with
  | nil=>exact zS (by decide)
  | cons w r=>exact hsw w (by simp)
 obtain ⟨k,hk⟩:∃k,k=if mn>256 then 257+(mn%10).toNat-ws.length else 0:=⟨_,rfl⟩
 obtain ⟨ws',hws'⟩:∃ws',ws'=ws++List.replicate k (0:Rat):=⟨_,rfl⟩
 have hlen':ws'.length=ws.length+k:=by rw [hws',List.length_append,List.length_replicate]
 have hsw':∀w∈ws',SmQ 256 w:=fun w hw=>by
  rw [hws'] at hw
  rcases List.mem_append.1 hw with hw | hw
  ·exact hsw w hw
  ·rw [List.eq_of_mem_replicate hw];exact zS (by decide)
 have hj2:mn>256→ws'.length>256∧ws'.length<300:=fun c=>by
  rw [if_pos c] at hk
  have:=Int.emod_nonneg mn (show (10:Int)≠0 by decide)
  have:=Int.emod_lt_of_pos mn (show (0:Int)<10 by decide)
  omega
 have hj3:¬mn>256→ws'=ws:=fun c=>by
  rw [if_neg c] at hk
  rw [hws',hk];simp
 have hle:ws'.length≤256→ws'.length≤40:=fun h=>by
  by_cases c:mn>256
  ·have:=(hj2 c).1;omega
  ·rw [hj3 c];omega
 have hlt:ws'.length<300:=by
  by_cases c:mn>256
  ·exact (hj2 c).2
  ·rw [hj3 c];omega
 obtain ⟨N1,h1⟩:=yxs l (by omega)
 obtain ⟨N2,h2⟩:=(yw8 j.low.q j.high.q j.most.q j.step.q j.place.q j.speed.q j.d j.low.qS j.high.qS j.most.qS j.step.qS j.place.qS j.speed.qS (by decide)).call (ydf _ _ _ _ _ _ _)
 obtain ⟨N3,h3⟩:=yti j.low.q j.high.q j.most.q j.step.q j.place.q j.speed.q (ws.headD 0) j.d (by decide) j.low.qS j.high.qS j.most.qS j.step.qS j.place.qS j.speed.qS sw0 (by decide)
 obtain ⟨hsz,N4,h4⟩:=yss j.low.q j.high.q j.most.q j.step.q j.place.q j.speed.q j.d at_ lng ws' j.low.qS j.high.qS j.most.qS j.step.qS j.place.qS j.speed.qS hsw' hle (by omega) ha'
 obtain ⟨N5,h5⟩:=y6f (RW.self j.low.q) (RW.self j.high.q) j.low.qS j.high.qS (by decide)
 obtain ⟨N6,h6⟩:=y6y (RW.self j.most.q) j.most.qS (by decide)
 obtain ⟨N7,h7⟩:=y6y (RW.self j.step.q) j.step.qS (by decide)
 obtain ⟨N8,h8⟩:=yip
 obtain ⟨N9,h9⟩:=cSign 0
 have common:∀n,N1+N2+N3+N4+300≤n→∀(ob:Nat→Option AObj) (L:List (Nat×SV)),RnB ob j at_ lng→env L 1=.one (.sl false (l.map Num.c))→env L 3=.one (.int .i64 mn)→env L 4=.one (.box 0 0)→env L 6=.one (.box 1 0)→env L 9=.one (.box 12 0)→env L 10=.one (.box 13 0)→env L 11=.one (.box 14 0)→env L 12=.one (.box 15 0)→env L 13=.one (.box 16 0)→env L 14=.one (.box 17 0)→
   ∃L' ob' fz' nx' x y q r qc es,evC (evF E n) n (tailAt 3 rnC) ⟨env L,ob,fz0,24⟩=evC (evF E n) n (tailAt 10 rnC) ⟨env L',ob',fz',nx'⟩∧24<nx'∧q<nx'∧r<nx'∧
    RnF L' x y q (decide (errR j.low.q j.high.q j.most.q j.step.q j.d=0)&&safeQ j.low.q j.high.q j.most.q j.step.q j.place.q j.speed.q j.d) (errR j.low.q j.high.q j.most.q j.step.q j.d) r (HoldE j.low.q j.high.q j.most.q j.step.q j.place.q j.speed.q j.d) ((driveR j.low.q j.high.q j.most.q j.step.q j.place.q j.speed.q j.d at_ lng ws').map Mo.c) (DriveE j.low.q j.high.q j.most.q j.step.q j.place.q j.speed.q j.d at_ lng ws'.length)∧
    RnB ob' j at_ lng∧PairIs 24 ob' nx' x y es (ws.map rC)∧es.length=ws'.length∧ob' r=some (.box (qC (HoldV j.low.q j.high.q j.most.q j.step.q j.place.q j.speed.q (ws.headD 0) j.d)))∧ob' q=some (.box qc)∧RW (ws.headD 0) qc:=by
  intro n hn ob L B e1 e3 e4 e6 e9 e10 e11 e12 e13 e14
  obtain ⟨ob1,nx1,x,y,s1,P1,n1,old1⟩:=h1 n (by omega) ob fz0 24
  rw [hmq,hmr] at P1
  obtain ⟨L2,ob2,s2,E2,l3,hp2,hq2,old2⟩:=rn34 e1 e3 e4 e6 e9 e10 e11 e12 e13 e14 s1
  have B2:=(B.old old1).old fun id hid=>old2 id (by omega)
  have P2:=P1.old old2 (nx':=nx1+6) (by omega)
  have hxr:∀a va k,x=.rsl a va 3 0 k false→a<nx1∧24≤a:=by
   intro a va k e
   rcases P1.fst with ⟨_,h⟩ | ⟨a',va',h,_,h2,h3,_⟩
   ·rw [h] at e;cases e
   ·rw [h] at e;injection e with e;omega
  have hyr:∀a va k,y=.rsl a va 4 0 k false→a<nx1∧24≤a:=by
   intro a va k e
   rcases P1.snd with ⟨_,h⟩ | ⟨a',va',h,_,h2,h3⟩
   ·rw [h] at e;cases e
   ·rw [h] at e;injection e with e;omega
  obtain ⟨L3,ob3,pc,qc,s3,E3,l3,hp3,lq3,hq3,rw3,old3⟩:=rn5 (n:=n) (fz:=fz0) E2 l3 P2 hp2 hq2 (by omega) (by omega) (by omega) (fun a va k e=>by have:=hxr a va k e;omega) (fun a va k e=>by have:=hyr a va k e;omega)
  have old3':∀id,id<nx1→ob3 id=ob2 id:=fun id hid=>old3 id (by omega) (by omega)
  have B3:=B2.old fun id hid=>old3' id (by omega)
  have P3:PairIs 24 ob3 (nx1+6) x y (ws.map qC) (ws.map rC):=(P1.old (fun id hid=>(old3' id hid).trans (old2 id hid)) (nx':=nx1+6) (by omega))
  obtain ⟨L4,ob4,nx4,x4,s4,n4,E4,P4,old4⟩:=rn6 (fz:=fz0) (n:=n) (by omega) E3 l3 P3 (by omega) (y9r yj4 ws) (by rw [List.length_map];omega) (by omega) (by omega) (fun a va k e=>by have:=hxr a va k e;omega)
  have B4:=B3.old fun id hid=>old4 id (.inl hid)
  have hes:(if mn>256 then ws.map qC++List.replicate (257+(mn%10).toNat-(ws.map qC).length) rawZ else ws.map qC)=ws.map qC++List.replicate k rawZ:=by
   rw [hk,List.length_map]
   by_cases c:mn>256
   ·rw [if_pos c,if_pos c]
   ·rw [if_neg c,if_neg c];simp
  rw [hes] at P4
  have hp4:=old4 (nx1+2) (.inr (.inl rfl))
  have hq4:=old4 (nx1+3) (.inr (.inr rfl))
  rw [hp3] at hp4
  rw [hq3] at hq4
  obtain ⟨fz',hfx⟩:=P4.frzx (ydi ob4 6 k ws) fz0
  rw [←hws'] at hfx
  have hfx2:∀ob2:Nat→Option AObj,(∀id,id<nx4→ob2 id=ob4 id)→frzS ob2 fz0 (.one x4)=some (fz',.one (.sl false (ws'.map qC))):=by
   intro ob2 hold
   have P5:=P4.old hold (Nat.le_refl _)
   obtain ⟨fz2,hf2⟩:=P5.frzx (ydi ob2 6 k ws) fz0
   rw [←hws'] at hf2
   rcases P4.fst with ⟨_,hx⟩ | ⟨a,va,hx,hrow,h24,hlt,_⟩
   ·rw [hx] at hfx ⊢
    exact hfx
   ·have e1:rowAt ob2 a va=rowAt ob4 a va:=by unfold rowAt;rw [hold a hlt]
    rw [hf2]
    rw [hx] at hfx hf2
    have g1:∀{ob:Nat→Option AObj} {g:Nat→Nat},frzS ob fz0 (.one (.rsl a va 3 0 (ws.map qC++List.replicate k rawZ).length false))=some (g,.one (.sl false (ws'.map qC)))→ob a=some (.row 3 (ws.map qC++List.replicate k rawZ) va)→g=raise fz0 a (0+(ws.map qC++List.replicate k rawZ).length):=by
     intro ob g hg hr
     have hb:Nat.ble (0+(ws.map qC++List.replicate k rawZ).length) (ws.map qC++List.replicate k rawZ).length=true:=by simp
     have h1:Ev.frz ob DEPTH fz0 (.rsl a va 3 0 (ws.map qC++List.replicate k rawZ).length false)=some (raise fz0 a (0+(ws.map qC++List.replicate k rawZ).length),.sl false (ws'.map qC)):=by
      rw [show DEPTH=6+1+1 from rfl,y9c,y4d hr]
      simp only [hb,cond_true,List.drop_zero,List.take_length]
      rw [ydi,←hws']
     simp only [frzS,h1,Option.some.injEq,Prod.mk.injEq] at hg
     exact hg.1.symm
    rw [g1 hfx hrow,g1 hf2 (by rw [hold a hlt];exact hrow)]
  have kD:∀ob2:Nat→Option AObj,(∀id,id<nx4→ob2 id=ob4 id)→callV (evF E n) Id.y0u [.agg (qC j.low.q++(qC j.high.q++(qC j.most.q++qC j.step.q))),.agg (qC j.place.q),.agg (qC j.speed.q),.one x4,.one (.int .i64 j.d),.agg [.int .i64 at_,.int .i64 lng]] ob2 fz0=some (.fzd fz' (.tup [.one (.sl false ((driveR j.low.q j.high.q j.most.q j.step.q j.place.q j.speed.q j.d at_ lng ws').map Mo.c)),.one (.int .i64 (DriveE j.low.q j.high.q j.most.q j.step.q j.place.q j.speed.q j.d at_ lng ws'.length))])):=fun ob2 hold=>
   yhq (h4 n (by omega)) (yc3 (ob:=ob2) (fun v hv=>by
    simp only [List.mem_cons,List.not_mem_nil,or_false] at hv
    rcases hv with rfl | rfl
    ·exact .one _ (.int _ _)
    ·exact .agg _ (CanL.cons (.int _ _) (CanL.cons (.int _ _) CanL.nil))) (hfx2 ob2 hold) (yn5 j))
  have kHo:∀ob fz,callV (evF E n) Id.y2k [.agg (qC j.low.q++(qC j.high.q++(qC j.most.q++qC j.step.q))),.agg (qC j.place.q),.agg (qC j.speed.q),.agg pc,.one (.int .i64 j.d)] ob fz=some (.fzd fz (.tup [.agg (qC (HoldV j.low.q j.high.q j.most.q j.step.q j.place.q j.speed.q (ws.headD 0) j.d)),.one (.int .i64 (HoldE j.low.q j.high.q j.most.q j.step.q j.place.q j.speed.q j.d))])):=fun ob fz=>
   yhq (h3 n (by omega)) (yc3 (ob:=ob) (fun v hv=>by
    simp only [List.mem_cons,List.not_mem_nil,or_false] at hv
    subst hv
    exact .one _ (.int _ _)) (lq3.frz ob fz) (yn5 j))
  obtain ⟨L5,ob5,s5,E5,hr5,old5⟩:=rn789 (n:=n) (fz:=fz0) (fz':=fz') E4 B4 (by omega) (by omega) hp4 lq3 (h2 n (by omega)) kHo kD
  have B5:=B4.old fun id hid=>old5 id (by omega)
  have P5:=P4.old old5 (nx':=nx4+13) (by omega)
  refine ⟨L5,ob5,fz',nx4+13,x4,y,nx1+3,nx4+10,qc,_, ?_,by omega,by omega,by omega,E5,B5,P5,by rw [hlen',List.length_append,List.length_map,List.length_replicate],hr5,by rw [old5 _ (by omega)];exact hq4,rw3⟩
  rw [show tailAt 3 rnC=.seq (nthC 3 rnC) (.seq (nthC 4 rnC) (.seq (nthC 5 rnC) (.seq (nthC 6 rnC) (.seq (nthC 7 rnC) (.seq (nthC 8 rnC) (.seq (nthC 9 rnC) (tailAt 10 rnC))))))) from rfl]
  rw [s2,x_seq,s3,y4u,x_seq,s4,y4u,s5]
 by_cases ce:errR j.low.q j.high.q j.most.q j.step.q j.d=0
 ·obtain ⟨c1,c2,c3,d0,d1⟩:=y9a ce
  have ok:RnOk j:=⟨c1,c2,c3,d0,d1⟩
  have m0:=y8q c2
  have s0:=y8q c3
  obtain ⟨dn,hdn⟩:∃q:Nat,j.d=(q:Int):=⟨j.d.toNat,by omega⟩
  obtain ⟨b1,b2⟩:=ytd m0 s0 hbr
  have b9:absQ j.speed.q≤((900:Nat):Rat)*(j.step.q*j.most.q):=by
   have e2:(((200:Nat)):Rat)=200:=rfl
   have e9:(((900:Nat)):Rat)=900:=rfl
   rw [e2] at b1
   rw [e9]
   have:=Rat.mul_pos s0 m0
   grind
  obtain ⟨N10,h10⟩:=cRSafe j.low.q j.high.q j.most.q j.step.q j.place.q j.speed.q dn (by omega) (by decide) j.low.qS j.high.qS j.most.qS j.step.qS j.place.qS j.speed.qS (by decide) s0 m0 b9
  rw [←hdn] at h10
  have hdt:decide (errR j.low.q j.high.q j.most.q j.step.q j.d=0)=true:=decide_eq_true ce
  by_cases cs:safeQ j.low.q j.high.q j.most.q j.step.q j.place.q j.speed.q j.d=true
  ·have hHE:HoldE j.low.q j.high.q j.most.q j.step.q j.place.q j.speed.q j.d=0:=by unfold HoldE;rw [if_pos ce,if_pos cs]
   have hHV:HoldV j.low.q j.high.q j.most.q j.step.q j.place.q j.speed.q (ws.headD 0) j.d=heldQ j.low.q j.high.q j.most.q j.step.q j.place.q j.speed.q (ws.headD 0) j.d:=if_pos hHE
   rw [hdt,cs,ce,hHE,hHV] at common
   rw [cs] at h10
   have hle2:=yay s0 m0 d0 cs
   have hroom:=yrc s0 m0 hle2.1 hle2.2 b2
   have tf:=(y7r j.low.q j.high.q j.most.q j.step.q j.place.q j.d (by decide) j.low.qS j.high.qS j.most.qS j.step.qS j.place.qS s0 m0 d0 d1 (by decide)).2
   have tg:=(y7r (-j.high.q) (-j.low.q) j.most.q j.step.q (-j.place.q) j.d (by decide) j.high.qS.neg j.low.qS.neg j.most.qS j.step.qS j.place.qS.neg s0 m0 d0 d1 (by decide)).2
   have sv:=(yak j.low.q j.high.q j.most.q j.step.q j.place.q j.speed.q (ws.headD 0) j.d (by decide) j.low.qS j.high.qS j.most.qS j.step.qS j.place.qS j.speed.qS sw0 s0 m0 d0 d1 (by decide)).2
   have cs':=cs
   rw [hdn] at tf tg cs'
   obtain ⟨N11,h11⟩:=yjr (q:=ws.headD 0) (f:=Id.y1i) (A:=fun c=>[.agg (rC j.low.q++(rC j.high.q++(rC j.most.q++rC j.step.q))),.agg (rC j.place.q),.agg (rC j.speed.q),.agg c,.one (.int .i64 (dn:Int))]) fun c hc=>
    cRHold j.low.q j.high.q j.most.q j.step.q j.place.q j.speed.q (ws.headD 0) dn (by omega) j.low.qS j.high.qS j.most.qS j.step.qS j.place.qS j.speed.qS sw0 (by decide) s0 m0 hroom.1 hroom.2 tf tg (by decide) cs' hc
   rw [←hdn] at h11
   have h12:=cSame (RQ.self (heldQ j.low.q j.high.q j.most.q j.step.q j.place.q j.speed.q (ws.headD 0) j.d)) (sv.mono (show 31*256+200≤64000 by decide)) (by decide)
   generalize heldQ j.low.q j.high.q j.most.q j.step.q j.place.q j.speed.q (ws.headD 0) j.d=hv at*
   by_cases cd:DriveE j.low.q j.high.q j.most.q j.step.q j.place.q j.speed.q j.d at_ lng ws'.length=0
   ·obtain ⟨-,-,q1,q2,q3,q4⟩:=yq4 cd
    have hw:ws'=ws:=hj3 fun c=>by have:=(hj2 c).1;omega
    have eR:driveR j.low.q j.high.q j.most.q j.step.q j.place.q j.speed.q j.d at_ lng ws'=driveQ j.low.q j.high.q j.most.q j.step.q j.d at_ lng 0 j.place.q j.speed.q ws:=by
     unfold driveR
     rw [if_pos cd,hw]
    rw [eR] at hsz
    rw [eR,cd] at common
    obtain ⟨es2,hmq2,N13,h13⟩:=yq2 j.low.q j.high.q j.most.q j.step.q j.place.q j.speed.q dn at_ lng j.low.qS j.high.qS j.most.qS j.step.qS j.place.qS j.speed.qS s0 m0 (by omega) q2 ha' q3 (by omega) b2 ws (by omega) hsw cs'
    rw [←hdn] at h13 hmq2
    have hol:=ylo j.low.q j.high.q j.most.q j.step.q j.d at_ lng ws 0 j.place.q j.speed.q
    generalize driveQ j.low.q j.high.q j.most.q j.step.q j.d at_ lng 0 j.place.q j.speed.q ws=os at*
    refine ⟨N1+N2+N3+N4+N5+N6+N7+N8+N10+N11+N13+26000000,fun n hn ob L B e1 e3 e4 e6 e9 e10 e11 e12 e13 e14=> ?_⟩
    obtain ⟨L',ob',fz',nx',x,y,q,r,qc,es,s,n24,hqn,hrn,E',B',P',hel,hr,hq,hrw⟩:=common n (by omega) ob L B e1 e3 e4 e6 e9 e10 e11 e12 e13 e14
    obtain ⟨fz2,hfy⟩:=P'.frzy (fun fz=>y5s _ fun c hc=>(by
     obtain ⟨w,-,rfl⟩:=List.mem_map.1 hc
     exact y5s _ fun x hx=>(CanL.r w x hx).frz ob' 6 fz)) fz'
    have k9:=yhq (h13 n (by omega)) (yc3 (ob:=ob') (fun v hv=>by
     simp only [List.mem_cons,List.not_mem_nil,or_false] at hv
     rcases hv with rfl | rfl | rfl
     ·exact .one _ (.int _ _)
     ·exact .one _ (.int _ _)
     ·exact .one _ (.int _ _)) hfy (yvv j))
    rw [s]
    exact y10k E' B' P' hr hq hrw hrn hqn (by omega) ok (by omega) q2 q3 q4 (by omega) hmq2 hsz (by omega) (by omega) (h5 n (by omega)) (h6 n (by omega)) (h7 n (by omega)) (h8 n (by omega)) (h10 n (by omega)) (h11 qc hrw n (by omega)) (h12 n (by omega)) k9
   ·have eR:driveR j.low.q j.high.q j.most.q j.step.q j.place.q j.speed.q j.d at_ lng ws'=[]:=if_neg cd
    rw [eR] at common
    have hei:(DriveE j.low.q j.high.q j.most.q j.step.q j.place.q j.speed.q j.d at_ lng ws'.length=5∧ws'.length>256)∨(DriveE j.low.q j.high.q j.most.q j.step.q j.place.q j.speed.q j.d at_ lng ws'.length=2∧ws'.length≤256∧(at_<0∨lng<0∨lng>j.d)):=by
     unfold DriveE at cd ⊢
     rw [if_pos ce,if_pos cs] at cd ⊢
     by_cases c2:ws'.length>256
     ·rw [if_pos c2];exact .inl ⟨rfl,c2⟩
     ·rw [if_neg c2] at cd ⊢
      by_cases c3:at_<0∨lng<0∨lng>j.d
      ·rw [if_pos c3];exact .inr ⟨rfl,by omega,c3⟩
      ·rw [if_neg c3] at cd;exact absurd rfl cd
    refine ⟨N1+N2+N3+N4+N5+N6+N7+N8+N10+N11+26000000,fun n hn ob L B e1 e3 e4 e6 e9 e10 e11 e12 e13 e14=> ?_⟩
    obtain ⟨L',ob',fz',nx',x,y,q,r,qc,es,s,n24,hqn,hrn,E',B',P',hel,hr,hq,hrw⟩:=common n (by omega) ob L B e1 e3 e4 e6 e9 e10 e11 e12 e13 e14
    rw [s]
    exact y106 E' B' P' hr hq hrw hrn hqn (by omega) ok (by omega) (by rw [hel];exact hei) (h5 n (by omega)) (h6 n (by omega)) (h7 n (by omega)) (h8 n (by omega)) (h10 n (by omega)) (h11 qc hrw n (by omega)) (h12 n (by omega))
  ·have hHE:HoldE j.low.q j.high.q j.most.q j.step.q j.place.q j.speed.q j.d=13:=by unfold HoldE;rw [if_pos ce,if_neg cs]
   have hHV:HoldV j.low.q j.high.q j.most.q j.step.q j.place.q j.speed.q (ws.headD 0) j.d=0:=if_neg (by rw [hHE];decide)
   have hDE:DriveE j.low.q j.high.q j.most.q j.step.q j.place.q j.speed.q j.d at_ lng ws'.length=13:=by unfold DriveE;rw [if_pos ce,if_neg cs]
   have eR:driveR j.low.q j.high.q j.most.q j.step.q j.place.q j.speed.q j.d at_ lng ws'=[]:=if_neg (by rw [hDE];decide)
   have csf:safeQ j.low.q j.high.q j.most.q j.step.q j.place.q j.speed.q j.d=false:=by simpa using cs
   rw [hdt,csf,ce,hHE,hHV,hDE,eR] at common
   rw [csf] at h10
   refine ⟨N1+N2+N3+N4+N5+N6+N7+N8+N9+N10+300,fun n hn ob L B e1 e3 e4 e6 e9 e10 e11 e12 e13 e14=> ?_⟩
   obtain ⟨L',ob',fz',nx',x,y,q,r,qc,es,s,n24,hqn,hrn,E',B',P',hel,hr,hq,hrw⟩:=common n (by omega) ob L B e1 e3 e4 e6 e9 e10 e11 e12 e13 e14
   rw [s]
   exact yxi E' B' hr ok (h5 n (by omega)) (h6 n (by omega)) (h7 n (by omega)) (h8 n (by omega)) (h9 n (by omega)) (h10 n (by omega))
 ·have hHE:HoldE j.low.q j.high.q j.most.q j.step.q j.place.q j.speed.q j.d=errR j.low.q j.high.q j.most.q j.step.q j.d:=by unfold HoldE;rw [if_neg ce]
  have hHV:HoldV j.low.q j.high.q j.most.q j.step.q j.place.q j.speed.q (ws.headD 0) j.d=0:=if_neg (by rw [hHE];exact ce)
  have hDE:DriveE j.low.q j.high.q j.most.q j.step.q j.place.q j.speed.q j.d at_ lng ws'.length=errR j.low.q j.high.q j.most.q j.step.q j.d:=by unfold DriveE;rw [if_neg ce]
  have eR:driveR j.low.q j.high.q j.most.q j.step.q j.place.q j.speed.q j.d at_ lng ws'=[]:=if_neg (by rw [hDE];exact ce)
  have hdf:decide (errR j.low.q j.high.q j.most.q j.step.q j.d=0)=false:=decide_eq_false ce
  rw [hdf,Bool.false_and,hHE,hHV,hDE,eR] at common
  refine ⟨N1+N2+N3+N4+N5+N6+N7+N8+N9+300,fun n hn ob L B e1 e3 e4 e6 e9 e10 e11 e12 e13 e14=> ?_⟩
  obtain ⟨L',ob',fz',nx',x,y,q,r,qc,es,s,n24,hqn,hrn,E',B',P',hel,hr,hq,hrw⟩:=common n (by omega) ob L B e1 e3 e4 e6 e9 e10 e11 e12 e13 e14
  rw [s]
  exact y13n E' B' hr rfl ce (h5 n (by omega)) (h6 n (by omega)) (h7 n (by omega)) (h8 n (by omega)) (h9 n (by omega))
end Go.Ev
namespace Go.Ev
open Go.Dig
theorem rn1 {n:Nat} {ob:Nat→Option AObj} {j:Jt} {at_ lng:Int} {ls:List (List AV)} {mn:Int} {L:List (Nat×SV)} (o0:ob 0=some (.box j.c)) (o1:ob 1=some (.box [.int .i64 at_,.int .i64 lng])) (e1:env L 1=.one (.sl false ls)) (e3:env L 3=.one (.int .i64 mn)) (e4:env L 4=.one (.box 0 0)) (e6:env L 6=.one (.box 1 0))
  (h1:∀ob fz,callV (evF E n) Id.y1a [.agg j.c] ob fz=some (.fzd fz (.tup [.agg (qC j.low.q++(qC j.high.q++(qC j.most.q++qC j.step.q))),.agg (qC j.place.q),.agg (qC j.speed.q),.agg (rC j.low.q++(rC j.high.q++(rC j.most.q++rC j.step.q))),.agg (rC j.place.q),.agg (rC j.speed.q)]))):
  ∃L' ob',evC (evF E n) n (nthC 1 rnC) ⟨env L,ob,fz0,3⟩=some (.nrm,⟨env L',ob',fz0,24⟩)∧RnB ob' j at_ lng∧env L' 1=.one (.sl false ls)∧env L' 3=.one (.int .i64 mn)∧env L' 4=.one (.box 0 0)∧env L' 6=.one (.box 1 0)∧env L' 9=.one (.box 12 0)∧env L' 10=.one (.box 13 0)∧env L' 11=.one (.box 14 0)∧env L' 12=.one (.box 15 0)∧env L' 13=.one (.box 16 0)∧env L' 14=.one (.box 17 0):=by
 have s19:sub j.c 0 19=some j.c:=by have:=y75 (l:=[]) j.len;rwa [List.append_nil] at this
 have fj:∀ob fz,frzS ob fz (.agg j.c)=some (fz,.agg j.c):=fun ob fz=>(CanS.agg _ (yr9 j)).frz ob fz
 have pm:∀z0 z1 z2 z3 z4 z5 z6 z7 z8 z9 z10 z11:AV,put [z0,z1,z2,z3,z4,z5,z6,z7,z8,z9,z10,z11] 0 (qC j.low.q++(qC j.high.q++(qC j.most.q++qC j.step.q)))=some (qC j.low.q++(qC j.high.q++(qC j.most.q++qC j.step.q))):=fun _ _ _ _ _ _ _ _ _ _ _ _=>y73 rfl
 have pq:∀(a b c:AV) (q:Rat),put [a,b,c] 0 (qC q)=some (qC q):=fun _ _ _ _=>y73 rfl
 have l12:(qC j.low.q++(qC j.high.q++(qC j.most.q++qC j.step.q))).length=12:=rfl
 obtain ⟨r,hr0⟩:∃r,evC (evF E n) n (nthC 1 rnC) ⟨env L,ob,fz0,3⟩=r:=⟨_,rfl⟩
 have hr:=hr0
 unfold rnC Fn.y04 at hr
 simp only [nthC,go_sem,e1,e3,e4,e6,o0,h1,↓pm,↓pq,↓s19,↓l12] at hr
 refine ⟨_,_,hr0.trans hr.symm,⟨?_, ?_, ?_, ?_, ?_, ?_, ?_, ?_⟩,rfl,rfl,rfl,rfl,rfl,rfl,rfl,rfl,rfl,rfl⟩
 ·repeat rw [y00 (by decide)]
  exact o0
 ·repeat rw [y00 (by decide)]
  exact o1
 ·repeat first | rw [upd_same] | rw [y00 (by decide)]
 ·repeat first | rw [upd_same] | rw [y00 (by decide)]
 ·repeat first | rw [upd_same] | rw [y00 (by decide)]
 ·repeat first | rw [upd_same] | rw [y00 (by decide)]
 ·repeat first | rw [upd_same] | rw [y00 (by decide)]
 ·repeat first | rw [upd_same] | rw [y00 (by decide)]
def rnBig (n:Nat) (br:Bool):Bool:=decide (n>12) || !br
theorem rn2 {n:Nat} {ob:Nat→Option AObj} {fz:Nat→Nat} {nx:Nat} {j:Jt} {at_ lng:Int} {ls:List (List AV)} {mn:Int} {L:List (Nat×SV)} {br:Bool} (B:RnB ob j at_ lng) (e1:env L 1=.one (.sl false ls)) (e3:env L 3=.one (.int .i64 mn)) (e4:env L 4=.one (.box 0 0)) (e6:env L 6=.one (.box 1 0)) (e9:env L 9=.one (.box 12 0)) (e10:env L 10=.one (.box 13 0)) (e11:env L 11=.one (.box 14 0)) (e12:env L 12=.one (.box 15 0)) (e13:env L 13=.one (.box 16 0)) (e14:env L 14=.one (.box 17 0))
  (k1:∀ob fz,callV (evF E n) Id.y14 [.agg (rC j.low.q++(rC j.high.q++(rC j.most.q++rC j.step.q))),.agg (rC j.place.q),.agg (rC j.speed.q)] ob fz=some (.fzd fz (.one (.bool br)))) (k2:∀ob fz,callV (evF E n) Id.y0m [] ob fz=some (.fzd fz (.one (.bool true)))):
  (rnBig ls.length br=false→∃L',evC (evF E n) n (nthC 2 rnC) ⟨env L,ob,fz,nx⟩=some (.nrm,⟨env L',ob,fz,nx⟩)∧env L' 1=.one (.sl false ls)∧env L' 3=.one (.int .i64 mn)∧env L' 4=.one (.box 0 0)∧env L' 6=.one (.box 1 0)∧env L' 9=.one (.box 12 0)∧env L' 10=.one (.box 13 0)∧env L' 11=.one (.box 14 0)∧env L' 12=.one (.box 15 0)∧env L' 13=.one (.box 16 0)∧env L' 14=.one (.box 17 0))∧
  (rnBig ls.length br=true→∃L',evC (evF E n) n (nthC 2 rnC) ⟨env L,ob,fz,nx⟩=some (.ret,⟨env L',ob,fz,nx⟩)∧env L' 8=.one (.bool true)):=by
 obtain ⟨o0,o1,o12,o13,o14,o15,o16,o17⟩:=B
 unfold rnBig
 by_cases c0:ls.length>12
 ·have f0:(((ls.length:Nat):Int)>12)=True:=by simp only [eq_iff_iff,iff_true];omega
  refine ⟨fun h=>by simp [c0] at h,fun _=> ?_⟩
  unfold rnC Fn.y04
  simp only [nthC,go_sem,e1,e3,e4,e6,e9,e10,e11,e12,e13,e14,o15,o16,o17,f0,k1,k2]
  exact ⟨_,rfl,rfl⟩
 have f0:(((ls.length:Nat):Int)>12)=False:=by simp only [eq_iff_iff,iff_false];omega
 rw [decide_eq_false c0,Bool.false_or]
 cases br with
 | false=>
  refine ⟨fun h=>(by cases h),fun _=> ?_⟩
  unfold rnC Fn.y04
  simp only [nthC,go_sem,e1,e3,e4,e6,e9,e10,e11,e12,e13,e14,o15,o16,o17,f0,k1,k2]
  exact ⟨_,rfl,rfl⟩
 | true=>
  refine ⟨fun _=> ?_,fun h=>by cases h⟩
  unfold rnC Fn.y04
  simp only [nthC,go_sem,e1,e3,e4,e6,e9,e10,e11,e12,e13,e14,o15,o16,o17,f0,k1,k2]
  exact ⟨_,rfl,rfl,rfl,rfl,rfl,rfl,rfl,rfl,rfl,rfl,rfl⟩
theorem ysl (j:Jt) (l:List Num) (hl:l.length<2^20) (at_ lng:Int) (ha':at_<9223372036854775808) (mn:Int):Ends Id.y04 [.agg j.c,.one (.sl false (l.map Num.c)),.agg [.int .i64 at_,.int .i64 lng],.one (.int .i64 mn)] (.one (.bool true)):=by
 obtain ⟨N2,h2⟩:=yip
 obtain ⟨N1,h1⟩:=cJoint j
 obtain ⟨N4,h4⟩:=cBrief j.low.q j.high.q j.most.q j.step.q j.place.q j.speed.q (by decide) j.low.qS j.high.qS j.most.qS j.step.qS j.place.qS j.speed.qS (by decide)
 have code:Fn.y04.code=.seq (nthC 0 rnC) (.seq (nthC 1 rnC) (.seq (nthC 2 rnC) (tailAt 3 rnC))):=rfl
 have start:∀(n:Nat) (T:ACode),evC (evF E n) n (.seq (nthC 0 rnC) T) ⟨env [(0,.agg j.c),(1,.one (.sl false (l.map Num.c))),(2,.agg [.int .i64 at_,.int .i64 lng]),(3,.one (.int .i64 mn))],ob0,fz0,0⟩=evC (evF E n) n T ⟨env [(1,.one (.sl false (l.map Num.c))),(3,.one (.int .i64 mn)),(4,.one (.box 0 0)),(6,.one (.box 1 0))],upd (upd ob0 0 (.box j.c)) 1 (.box [.int .i64 at_,.int .i64 lng]),fz0,3⟩:=by
  intro n T
  unfold rnC Fn.y04
  simp only [nthC,go_sem]
 have hll:(l.map Num.c).length=l.length:=List.length_map _
 have go1:∀n,N1+N2+N4≤n→∃L' ob',(∀T,evC (evF E n) n (.seq (nthC 0 rnC) (.seq (nthC 1 rnC) T)) ⟨env [(0,.agg j.c),(1,.one (.sl false (l.map Num.c))),(2,.agg [.int .i64 at_,.int .i64 lng]),(3,.one (.int .i64 mn))],ob0,fz0,0⟩=evC (evF E n) n T ⟨env L',ob',fz0,24⟩)∧RnB ob' j at_ lng∧env L' 1=.one (.sl false (l.map Num.c))∧env L' 3=.one (.int .i64 mn)∧env L' 4=.one (.box 0 0)∧env L' 6=.one (.box 1 0)∧env L' 9=.one (.box 12 0)∧env L' 10=.one (.box 13 0)∧env L' 11=.one (.box 14 0)∧env L' 12=.one (.box 15 0)∧env L' 13=.one (.box 16 0)∧env L' 14=.one (.box 17 0):=by
  intro n hn
  obtain ⟨L2,ob2,s2,rest⟩:=rn1 (n:=n) (ob:=upd (upd ob0 0 (.box j.c)) 1 (.box [.int .i64 at_,.int .i64 lng])) (j:=j) (at_:=at_) (lng:=lng) (ls:=l.map Num.c) (mn:=mn) (L:=[(1,.one (.sl false (l.map Num.c))),(3,.one (.int .i64 mn)),(4,.one (.box 0 0)),(6,.one (.box 1 0))]) rfl rfl rfl rfl rfl rfl (h1 n (by omega))
  refine ⟨L2,ob2,fun T=> ?_,rest⟩
  rw [start,x_seq,s2,y4u]
 cases hb:rnBig l.length (briefB j.low.q j.high.q j.most.q j.step.q j.place.q j.speed.q) with
 | true=>
  refine .of (N1+N2+N4) fun {n} hn=> ?_
  obtain ⟨L1,ob1,s1,B1,e1,e3,e4,e6,e9,e10,e11,e12,e13,e14⟩:=go1 n (by omega)
  obtain ⟨L',s,e8⟩:=(rn2 (n:=n) (fz:=fz0) (nx:=24) B1 e1 e3 e4 e6 e9 e10 e11 e12 e13 e14 (h4 n (by omega)) (h2 n (by omega))).2 (by rw [hll];exact hb)
  rw [y03 y8a,code]
  simp only [ofArgs]
  rw [s1,x_seq,s,ykm]
  simp only [go_sem,Fn.y04,e8]
 | false=>
  have hbb:l.length≤12∧briefB j.low.q j.high.q j.most.q j.step.q j.place.q j.speed.q=true:=by
   unfold rnBig at hb
   simp only [Bool.or_eq_false_iff,decide_eq_false_iff_not,Bool.not_eq_false'] at hb
   exact ⟨by omega,hb.2⟩
  obtain ⟨N3,h3⟩:=y118 j l hbb.1 at_ lng ha' mn hbb.2
  refine .of (N1+N2+N3+N4) fun {n} hn=> ?_
  obtain ⟨L1,ob1,s1,B1,e1,e3,e4,e6,e9,e10,e11,e12,e13,e14⟩:=go1 n (by omega)
  obtain ⟨L',s,e1,e3,e4,e6,e9,e10,e11,e12,e13,e14⟩:=(rn2 (n:=n) (fz:=fz0) (nx:=24) B1 e1 e3 e4 e6 e9 e10 e11 e12 e13 e14 (h4 n (by omega)) (h2 n (by omega))).1 (by rw [hll];exact hb)
  rw [y03 y8a,code]
  simp only [ofArgs]
  rw [s1,x_seq,s,y4u]
  exact h3 n (by omega) ob1 L' B1 e1 e3 e4 e6 e9 e10 e11 e12 e13 e14
end Go.Ev
