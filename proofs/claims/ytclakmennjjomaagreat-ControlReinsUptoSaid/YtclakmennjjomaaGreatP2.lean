import Derived.Test.YtclakmennjjomaaGreatP1
import Derived.Laws.BytesString
import Derived.OrdersIn
import Derived.LoopNIn
import Derived.RangeFuncCalls
import Derived.RangeFuncRecord
import Derived.RangeFuncLeaves
import Derived.JoinedCond
import Derived.Carry
import Derived.OpenShut
import Derived.ChangeSame
import Derived.RowKit
import Derived.WideShapes
set_option linter.all false
namespace Go.Ev
open Go.RowKit
variable [Cd]
section
variable {P:Program} {br:FuncId→Bool} {F:Caller} {draw:Bool} {rb id:Nat} {st:St} {B:Nat} {w:World} {ok:Nat→Nat→Prop} {G:Nat→GB} {a:Act} {o:Oper}
theorem yei {c:Call} {x y:Operand} {t t2:TypeId} (ho:o.op=.call c) (hc:c.callee=.builtin .copy) (ha:c.args.toList=[x,y]) (ht:c.argTypes.toList=[t,t2]) {v:Value} {w':World}
  (h:(Builtin.copy_ #[t,t2] o.type #[a.eval x,a.eval y]).run P w=.ok v w'):(execOp a.eval o).run P w=.ok (.value v) w':=by
 have h1:c.argTypes=#[t,t2]:=by apply Array.ext';simpa using ht
 simp [execOp,ho,resolve,hc,y90 ha,h1,invoke,builtin,h]
theorem y131 {ob:Nat→Option AObj} {id:Nat} {o:AObj} (h:ob id=some o):upd ob id o=ob:=by
 funext k
 by_cases e:k=id
 ·subst e;simp [h]
 ·rw [y00 e]
theorem ydn:∀(es:List (List AV)) (l:List Int),bytesOf es=some l→es.flatten=l.map (AV.int .u8)
 | [],l,h=>by simp only [bytesOf,Option.some.injEq] at h;subst h;rfl
 | e::r,l,h=>by
  unfold bytesOf at h
  split at h
  ·rename_i n l' h1 h2
   cases h
   unfold byteOf at h1
   split at h1
   ·cases h1
    rw [List.flatten_cons,ydn r l' h2];rfl
   ·cases h1
  ·cases h
theorem yu9 {es:List (List AV)} {l:List Int} {news:List Value} (h:bytesOf es=some l) (hr:RelL w ok st.ob G es.flatten news):news=l.map (Value.int .u8):=by
 rw [ydn es l h] at hr
 obtain ⟨hl,hp⟩:=hr
 rw [List.length_map] at hl
 apply List.ext_getElem?
 intro k
 by_cases hk:k<l.length
 ·have h1:(l.map (AV.int .u8))[k]? =some (.int .u8 l[k]):=by simp [hk]
  have h2:news[k]? =some news[k]:=by simp
  have h3:=hp k _ _ h1 h2
  have h4:(l.map (Value.int .u8))[k]? =some (.int .u8 l[k]):=by simp [hk]
  rw [h2,h4]
  generalize news[k]=u at h3
  cases h3
  rfl
 ·rw [List.getElem?_eq_none (by omega),List.getElem?_eq_none (by rw [List.length_map];omega)]
theorem ywy (hi:Inv B w ok st.sto G) (hT:RelT w ok st.ob G st.sl a.tmps) {s d e:TypeId} {x:Operand} {x':Opd} (ho:o.op=.convert s d x) (hs:P.underlying s=some (.slice e)) (hu:P.underlying e=some (.int .u8)) (hd:P.underlying d=some .string) (hx:cOpd x=some x') {eff:Eff} (he:evOp F draw rb id st (.b2s x')=some eff):
  ∃y,eff=.val y∧Pure1 P w ok st.ob G a o y:=by
 have hX:=y0a hT hx
 simp only [evOp] at he
 split at he
 ·rename_i es hes
  split at he
  ·rename_i l hl
   cases he
   obtain ⟨ao,cap,news,hv,hel,hnr,hnc⟩:=ya7 hi hX hes
   have hn:=yu9 hl hnr
   subst hn
   have hlen:es.length=l.length:=by
    have h1:=ydn es l hl
    have h2:=y6r hel
    rw [h1,List.length_map] at h2
    omega
   have hrun:(Conv.bytesToString (.slice ao es.length cap)).run P w=.ok (.string (byteStr l)) w:=by
    rcases hnc with he0 | ⟨b,off,rfl,hc⟩
    ·subst he0
     have hl0:l=[]:=List.eq_nil_of_length_eq_zero (by rw [←hlen];rfl)
     subst hl0
     cases ao with
     | none=>simp [Conv.bytesToString,byteStr,Sem.run_pure]
     | some ad=>exact run_bytesToString w ad 0 cap [] (run_loadCells_list (P:=P) w ad [] (fun j u hu=>by simp at hu))
    ·have:=run_loadCells_list (P:=P) w ⟨b,off,none⟩ (l.map (Value.int .u8)) (fun j u hu=>by rw [add_mid];exact hc j u hu)
     rw [List.length_map,←hlen] at this
     exact run_bytesToString w ⟨b,off,none⟩ es.length cap l this
   refine ⟨_,rfl,.string (byteStr l), ?_,.one _ _ (.str _)⟩
   simp only [execOp,ho,hv,Sem.run_bind,run_convert_bytes_string w s d e ao es.length cap hs hu hd,hrun,Result.andThen_ok,Sem.run_pure]
  ·cases he
 ·cases he
theorem y10x (hi:Inv B w ok st.sto G) (hB:B≤w.heap.size) (hT:RelT w ok st.ob G st.sl a.tmps) {c:Call} {x y:Operand} {x' y':Opd} {t t2 e:TypeId} (ho:o.op=.call c) (hc:c.callee=.builtin .copy) (ha:c.args.toList=[x,y]) (ht:c.argTypes.toList=[t,t2])
  (hu:P.underlying t=some (.slice e)) {n:Nat} (hn:tSize P e=some n) (hx:cOpd x=some x') (hy:cOpd y=some y')
  {eff:Eff} (he:evOp F draw rb id st (.cpy n x' y')=some eff) {s':Sto} {r:SV} (hs:eff.sto st.sto id=(s',r)):Eff1 P B w ok st.sto G a o s' r:=by
 have hX:=y0a hT hx
 have hY:=y0a hT hy
 simp only [evOp] at he
 split at he
 ·rename_i ys hys
  obtain ⟨ao,cap,news,hyv,hyl,hnr,hnc⟩:=ya7 hi hY hys
  have hnl:news.length=ys.length*n:=by rw [←hnr.1,y6r hyl]
  have hread:∀m,m≤ys.length→(Builtin.firstCells n m (a.eval y)).run P w=.ok (news.take (m*n)).toArray w:=by
   intro m hm
   rw [hyv]
   have hml:m*n≤news.length:=by rw [hnl];exact Nat.mul_le_mul_right _ hm
   rcases hnc with rfl | ⟨b,off,rfl,hcell⟩
   ·have:m=0:=by simpa using hm
    subst this
    cases ao with
    | none=>simpa using run_firstCells_none (P:=P) w n 0 _ cap
    | some ad=>simpa using run_firstCells_some (P:=P) w n 0 ad _ cap [] (by simp) (fun j v h=>by simp at h)
   ·exact run_firstCells_some w n m _ _ cap _ (by rw [List.length_take];omega) (fun j u hu=>by
     rw [add_mid]
     refine hcell j u ?_
     rw [List.getElem?_take] at hu
     split at hu
     ·exact hu
     ·cases hu)
  have hlen:(Builtin.lenOf (a.eval y)).run P w=.ok ys.length w:=by rw [hyv];rfl
  split at he
  ·rename_i hxe
   rw [hxe] at hX
   generalize hv:a.eval x=u at hX
   cases hX with | one _ _ hX=>cases hX with | nils=>
   cases he
   simp only [Eff.sto,Prod.mk.injEq] at hs
   obtain ⟨rfl,rfl⟩:=hs
   have h0:=hread 0 (Nat.zero_le _)
   refine ⟨_,_,.inl (yei (P:=P) (w:=w) (v:=.int .i64 0) (w':=w) ho hc ha ht ?_),Post.pure hi (.one _ _ (.int _ _))⟩
   rw [hv]
   simp [Builtin.copy_,run_underlying hu,hlen,y4x hn,h0,goInt]
  ·rename_i rr ver zz lo len full hxe
   rw [hxe] at hX
   generalize hv:a.eval x=u at hX
   cases hX with | one _ _ hX=>
   split at he
   ·rename_i z2 es hrow
    have hob:=y6w hrow
    obtain ⟨hzz,hle,ad,cp,rfl,c1,c2,c3,c4⟩:=yhi hX hob
    obtain ⟨hb,he⟩:=y05 he
    simp only [Bool.and_eq_true] at hb
    have hz2:z2=n:=Nat.eq_of_beq_eq_true hb.1.1
    subst hz2
    subst hzz
    have hfr:=y4g hb.2
    cases he
    simp only [Eff.sto,Prod.mk.injEq] at hs
    obtain ⟨rfl,rfl⟩:=hs
    generalize hm:Nat.min ys.length len=m
    have hm1:m≤ys.length:=by rw [←hm];exact Nat.min_le_left _ _
    have hm2:m≤len:=by rw [←hm];exact Nat.min_le_right _ _
    have htk:ys.take len=ys.take m:=by
     have hm':min ys.length len=m:=hm
     rw [←hm']
     by_cases h:ys.length≤len
     ·rw [Nat.min_eq_left h,List.take_of_length_le h,List.take_of_length_le (Nat.le_refl _)]
     ·rw [Nat.min_eq_right (by omega)]
    rw [htk]
    have hcells:=hread m hm1
    by_cases h0:m=0
    ·subst h0
     have hes:es.take lo++ys.take 0++es.drop (lo+0)=es:=by simp
     rw [hes,y131 (ob:=st.sto.ob) hob]
     refine ⟨_,_,.inl (yei (P:=P) (w:=w) (v:=.int .i64 0) (w':=w) ho hc ha ht ?_),Post.pure hi (.one _ _ (.int _ _))⟩
     rw [hv]
     simp only [Nat.zero_mul,List.take_zero] at hcells
     simp [Builtin.copy_,run_underlying hu,hlen,hm,y4x hn,hcells,goInt,storeCells]
    ·obtain ⟨hes,hcap,hmax,hfz,vs,et,hblk,hvs,hrl⟩:=hi.rows rr zz es ver hob
     have hadr:ad=⟨(G rr).blk,lo*zz,none⟩:=c3 (by omega)
     subst hadr
     have hfl:=y6r hes
     have hez:es.length*zz≤vs.size:=by rw [hvs];exact Nat.mul_le_mul_right _ hcap
     have hin:(lo+m)*zz≤es.length*zz:=Nat.mul_le_mul_right _ (by omega)
     rw [Nat.add_mul] at hin
     have hnewl:(news.take (m*zz)).length=m*zz:=by
      have:=Nat.mul_le_mul_right zz hm1
      rw [List.length_take];omega
     have hone:∀v∈news.take (m*zz),v.oneCell'=true:=fun v hv=>hnr.one v (List.mem_of_mem_take hv)
     have hst:=run_storeCells_at P (G rr).blk (lo*zz) et (news.take (m*zz)) 0 vs w hblk (by rw [hnewl];omega) hone
     simp only [Nat.add_zero,hnewl] at hst
     have hlen1:(es.take lo++ys.take m++es.drop (lo+m)).length=es.length:=by
      simp only [List.length_append,List.length_take,List.length_drop];omega
     have hall:∀e∈es.take lo++ys.take m++es.drop (lo+m),e.length=zz:=by
      intro e he
      rcases List.mem_append.1 he with he | he
      ·rcases List.mem_append.1 he with he | he
       ·exact hes e (List.mem_of_mem_take he)
       ·exact hyl e (List.mem_of_mem_take he)
      ·exact hes e (List.mem_of_mem_drop he)
     have hflat:(es.take lo++ys.take m++es.drop (lo+m)).flatten=es.flatten.take (lo*zz)++ys.flatten.take (m*zz)++es.flatten.drop (lo*zz+m*zz):=by
      rw [List.flatten_append,List.flatten_append,ybz hes,ybz hyl,yef hes,Nat.add_mul]
     have hrel:RelL w ok st.ob G (es.take lo++ys.take m++es.drop (lo+m)).flatten ((vs.toList.take (lo*zz)++news.take (m*zz)++vs.toList.drop (lo*zz+m*zz)).toArray.toList.take ((es.take lo++ys.take m++es.drop (lo+m)).length*zz)):=by
      rw [hflat,hlen1]
      have e1:(vs.toList.take (lo*zz)++news.take (m*zz)++vs.toList.drop (lo*zz+m*zz)).toArray.toList.take (es.length*zz)=
        (vs.toList.take (es.length*zz)).take (lo*zz)++news.take (m*zz)++(vs.toList.take (es.length*zz)).drop (lo*zz+m*zz):=by
       apply List.ext_getElem?
       intro i
       simp only [List.toList_toArray,List.getElem?_take,List.getElem?_append,List.length_append,Array.length_toList,List.getElem?_drop,List.take_take,hnewl]
       simp only [List.length_take,Array.length_toList]
       have m1:min (lo*zz) vs.size=lo*zz:=by omega
       have m2:min (lo*zz) (min (es.length*zz) vs.size)=lo*zz:=by omega
       have m3:min (lo*zz) (es.length*zz)=lo*zz:=by omega
       have m4:min (m*zz) news.length=m*zz:=by rw [List.length_take] at hnewl;exact hnewl
       simp only [m1,m2,m3,m4]
       by_cases d1:i<lo*zz
       ·simp [d1,show i<es.length*zz by omega,show i<lo*zz+m*zz by omega]
       ·by_cases d2:i<lo*zz+m*zz
        ·simp [d1,d2,show i<es.length*zz by omega]
        ·by_cases d3:i<es.length*zz
         ·simp [d1,d2,d3,show lo*zz+m*zz+(i-(lo*zz+m*zz))<es.length*zz by omega]
         ·simp [d1,d2,d3,show ¬lo*zz+m*zz+(i-(lo*zz+m*zz))<es.length*zz by omega]
      rw [e1]
      exact ((hrl.take _).append (hnr.take _)).append (hrl.drop _)
     obtain ⟨i1,i2,i3⟩:=hi.setRowObj (es':=es.take lo++ys.take m++es.drop (lo+m)) (ver':=ver) hob hblk (Nat.le_refl _) (fun _=>hlen1) (by omega) hall (by omega)
      (vs':=(vs.toList.take (lo*zz)++news.take (m*zz)++vs.toList.drop (lo*zz+m*zz)).toArray) (by
       simp only [List.size_toArray,List.length_append,hnewl]
       simp only [List.length_take,List.length_drop,Array.length_toList]
       omega) (by
       intro i hi'
       have:i<lo*zz:=by
        have:=Nat.mul_le_mul_right zz hfr
        have h2:st.sto.fz rr*zz=st.fz rr*zz:=rfl
        omega
       simp only [List.getElem?_toArray,List.append_assoc]
       rw [List.getElem?_append_left (by simp only [List.length_take,Array.length_toList];omega),List.getElem?_take,if_pos this]
       simp) hrel
     refine ⟨.int .i64 m,_,.inl (yei (P:=P) ho hc ha ht ?_),ok,G,i1,i2,i3,OkLe.refl _ _,y9k (hi.base rr _ hob) _,.one _ _ (.int _ _)⟩
     rw [hv]
     simp [Builtin.copy_,run_underlying hu,hlen,hm,y4x hn,hcells,goInt,hst]
   ·cases he
  ·cases he
 ·cases he
def AOp.isCall:AOp→Bool
 | .call .. | .callv ..=>true
 | _=>false
theorem y122 (hi:Inv B w ok st.sto G) (hB:B≤w.heap.size) (hT:RelT w ok st.ob G st.sl a.tmps) {ao:AOp} (hid:ao.allocs=true→st.sto.ob id=none) (hc:cOp P br o.op=some ao) (hn:ao.isCall=false) {eff:Eff} (he:evOp F draw rb id st ao=some eff) {s':Sto} {r:SV} (hs:eff.sto st.sto id=(s',r)):
  Eff1 P B w ok st.sto G a o s' r:=by
 have pure_:∀{y:SV},eff=.val y→Pure1 P w ok st.ob G a o y→Eff1 P B w ok st.sto G a o s' r:=by
  intro y e hp
  subst e
  simp only [Eff.sto,Prod.mk.injEq] at hs
  obtain ⟨rfl,rfl⟩:=hs
  exact hp.eff hi
 have pure2:(∃y,eff=.val y∧Pure1 P w ok st.ob G a o y)→Eff1 P B w ok st.sto G a o s' r:=fun ⟨y,e,hp⟩=>pure_ e hp
 cases hop:o.op with
 | move x=>
  simp only [hop,cOp,Option.bind_eq_bind,Option.bind_eq_some_iff,Option.some.injEq] at hc
  obtain ⟨y,hy,rfl⟩:=hc
  simp only [evOp,Option.some.injEq] at he
  exact pure_ he.symm (ynq hT (.inl hop) hy)
 | assign x=>
  simp only [hop,cOp,Option.bind_eq_bind,Option.bind_eq_some_iff,Option.some.injEq] at hc
  obtain ⟨y,hy,rfl⟩:=hc
  simp only [evOp,Option.some.injEq] at he
  exact pure_ he.symm (ynq hT (.inr hop) hy)
 | pick c x y=>
  simp only [hop,cOp,Option.bind_eq_bind,Option.bind_eq_some_iff,Option.some.injEq] at hc
  obtain ⟨c',hc',x',hx',y',hy',rfl⟩:=hc
  simp only [evOp] at he
  split at he
  ·rename_i b hb
   cases he
   exact pure_ rfl (yvq hT hop hc' hx' hy' hb)
  ·cases he
 | alloc e=>
  simp only [hop,cOp,Option.bind_eq_bind,Option.bind_eq_some_iff,Option.some.injEq] at hc
  obtain ⟨z,hz,rfl⟩:=hc
  exact yui hi (hid rfl) hB hop hz he hs
 | box e x=>
  simp only [hop,cOp,Option.bind_eq_bind,Option.bind_eq_some_iff,Option.some.injEq] at hc
  obtain ⟨z,hz,rfl⟩:=hc
  exact y10v hi (hid rfl) hB hT hop hz he hs
 | build t ps=>
  simp only [hop,cOp] at hc
  split at hc
  ·rename_i fs hu
   simp only [Option.bind_eq_bind,Option.bind_eq_some_iff,Option.some.injEq] at hc
   obtain ⟨pl,hpl,z,hz,qs,hq,rfl⟩:=hc
   exact pure2 (yje hT hop hz hq (.inl ⟨fs,pl,hu,hpl,rfl⟩) he)
  ·rename_i len e hu
   simp only [Option.bind_eq_bind,Option.bind_eq_some_iff,Option.some.injEq] at hc
   obtain ⟨n,hn',z,hz,qs,hq,rfl⟩:=hc
   exact pure2 (yje hT hop hz hq (.inr ⟨len,e,n,hu,hn',rfl⟩) he)
  ·cases hc
 | buildSlice t len ps=>
  simp only [hop,cOp,Option.bind_eq_bind,Option.bind_eq_some_iff] at hc
  obtain ⟨e,hte,n,hn',z,hz,qs,hq,hc⟩:=hc
  split at hc
  ·rename_i hcond
   cases hc
   obtain ⟨h1,h2,h3⟩:=hcond
   have hu:P.underlying t=some (.slice e):=by
    unfold tSlice at hte
    split at hte
    ·rename_i e' hu;cases hte;exact hu
    ·cases hte
   exact ys0 hi (hid rfl) hB hT hop hu hn' hz h1 h2 h3 hq he hs
  ·cases hc
 | load t x=>
  simp only [hop,cOp,Option.bind_eq_bind,Option.bind_eq_some_iff] at hc
  obtain ⟨agg,hagg,n,hn',hc⟩:=hc
  split at hc
  ·rename_i hcond
   simp only [Option.bind_eq_some_iff,Option.some.injEq] at hc
   obtain ⟨x',hx',rfl⟩:=hc
   exact pure2 (ytu hi hT hop hx' hagg hn' hcond he)
  ·cases hc
 | store t x y=>
  simp only [hop,cOp,Option.bind_eq_bind,Option.bind_eq_some_iff,Option.some.injEq] at hc
  obtain ⟨n,hn',x',hx',y',hy',rfl⟩:=hc
  exact ytz hi hB hT hop hx' hy' hn' he hs
 | nilCheck x=>
  simp only [hop,cOp,Option.bind_eq_bind,Option.bind_eq_some_iff,Option.some.injEq] at hc
  obtain ⟨y,hy,rfl⟩:=hc
  exact pure2 (ytw hT hop hy he)
 | binOp op t x y t2=>
  simp only [hop,cOp] at hc
  split at hc
  ·rename_i hu
   split at hc
   ·simp only [Option.bind_eq_bind,Option.bind_eq_some_iff,Option.some.injEq] at hc
    obtain ⟨x',hx',y',hy',rfl⟩:=hc
    exact pure2 (ynt (neg:=false) hT hop hu hx' hy' he)
   ·simp only [Option.bind_eq_bind,Option.bind_eq_some_iff,Option.some.injEq] at hc
    obtain ⟨x',hx',y',hy',rfl⟩:=hc
    exact pure2 (ynt (neg:=true) hT hop hu hx' hy' he)
   ·cases hc
  ·simp only [Option.bind_eq_bind,Option.bind_eq_some_iff,Option.some.injEq] at hc
   obtain ⟨x',hx',y',hy',rfl⟩:=hc
   exact pure2 (yox hT hop hx' hy' he)
  ·simp only [Option.bind_eq_bind,Option.bind_eq_some_iff,Option.some.injEq] at hc
   obtain ⟨x',hx',y',hy',rfl⟩:=hc
   exact pure2 (yox hT hop hx' hy' he)
  ·rename_i e hu
   unfold cEqn at hc
   split at hc
   ·rename_i x' hx'
    split at hc
    ·rename_i hny
     cases hc
     exact pure2 (yom (neg:=false) hT hop hu hx' hny he)
    ·rename_i hny
     cases hc
     exact pure2 (yom (neg:=true) hT hop hu hx' hny he)
    ·cases hc
   ·cases hc
  ·unfold cEqa at hc
   split at hc
   ·rename_i ks x' y' hf hx' hy'
    split at hc
    ·cases hc
     exact pure2 (ydx (neg:=false) hT hop hf hx' hy' he)
    ·cases hc
     exact pure2 (ydx (neg:=true) hT hop hf hx' hy' he)
    ·cases hc
   ·cases hc
  ·unfold cEqa at hc
   split at hc
   ·rename_i ks x' y' hf hx' hy'
    split at hc
    ·cases hc
     exact pure2 (ydx (neg:=false) hT hop hf hx' hy' he)
    ·cases hc
     exact pure2 (ydx (neg:=true) hT hop hf hx' hy' he)
    ·cases hc
   ·cases hc
  ·cases hc
 | unOp op t x=>
  simp only [hop,cOp,Option.bind_eq_bind,Option.bind_eq_some_iff,Option.some.injEq] at hc
  obtain ⟨y,hy,rfl⟩:=hc
  exact pure2 (y10r hT hop hy he)
 | convert s d x=>
  simp only [hop,cOp] at hc
  split at hc
  ·rename_i k0 k h1 h2
   simp only [Option.bind_eq_bind,Option.bind_eq_some_iff,Option.some.injEq] at hc
   obtain ⟨y,hy,rfl⟩:=hc
   exact pure2 (yww hT hop h1 h2 hy he)
  ·rename_i e h1 h2
   split at hc
   ·rename_i h3
    simp only [Option.bind_eq_bind,Option.bind_eq_some_iff,Option.some.injEq] at hc
    obtain ⟨y,hy,rfl⟩:=hc
    exact pure2 (ywy hi hT hop h1 h3 h2 hy he)
   ·cases hc
  ·cases hc
 | makeSlice t l c=>
  simp only [hop,cOp,Option.bind_eq_bind,Option.bind_eq_some_iff] at hc
  obtain ⟨e,hte,n,hn',z,hz,i,hie,hc⟩:=hc
  split at hc
  ·rename_i hcond
   simp only [Option.bind_eq_some_iff,Option.some.injEq] at hc
   obtain ⟨l',hl',c',hc',rfl⟩:=hc
   have hu:P.underlying t=some (.slice e):=by
    unfold tSlice at hte
    split at hte
    ·rename_i e' hu;cases hte;exact hu
    ·cases hte
   exact y119 hi (hid rfl) hB hT hop hu hn' hz hcond hie hl' hc' he hs
  ·cases hc
 | slice t x lo hi' mx=>
  simp only [hop,cOp] at hc
  split at hc
  ·rename_i e hu
   simp only [Option.bind_eq_bind,Option.bind_eq_some_iff,Option.some.injEq] at hc
   obtain ⟨n,hn',x',hx',lo',hlo',hi'',hhi',mx',hmx',rfl⟩:=hc
   exact pure2 (yv2 hT hop hx' hlo' hhi' hmx' hu hn' he)
  ·rename_i hu
   split at hc
   ·simp only [Option.bind_eq_bind,Option.bind_eq_some_iff,Option.some.injEq] at hc
    obtain ⟨x',hx',lo',hlo',hi'',hhi',rfl⟩:=hc
    exact pure2 (yua hT hop hx' hlo' hhi' hu he)
   ·cases hc
  ·cases hc
 | fieldAddr t x f=>
  simp only [hop,cOp] at hc
  split at hc
  ·rename_i fs hu
   split at hc
   ·rename_i fd hf
    simp only [Option.bind_eq_bind,Option.bind_eq_some_iff] at hc
    obtain ⟨n,hn',hc⟩:=hc
    split at hc
    ·cases hc
    ·rename_i h0
     simp only [Option.bind_eq_some_iff,Option.some.injEq] at hc
     obtain ⟨x',hx',rfl⟩:=hc
     exact pure2 (ywb hT hop hx' hu hf hn' h0 he)
   ·cases hc
  ·cases hc
 | field t x f=>
  simp only [hop,cOp] at hc
  split at hc
  ·rename_i fs hu
   split at hc
   ·rename_i fd hf
    simp only [Option.bind_eq_bind,Option.bind_eq_some_iff] at hc
    obtain ⟨agg,hagg,n,hn',hc⟩:=hc
    split at hc
    ·rename_i hcond
     simp only [Option.bind_eq_some_iff,Option.some.injEq] at hc
     obtain ⟨x',hx',rfl⟩:=hc
     exact pure2 (yxo hT hop hx' hu hf hagg hn' hcond he)
    ·cases hc
   ·cases hc
  ·cases hc
 | indexAddr t x i=>
  simp only [hop,cOp] at hc
  split at hc
  ·rename_i e hu
   simp only [Option.bind_eq_bind,Option.bind_eq_some_iff,Option.some.injEq] at hc
   obtain ⟨n,hn',x',hx',i',hi',rfl⟩:=hc
   exact pure2 (yto hT hop hx' hi' hu hn' he)
  ·rename_i len e hu
   simp only [Option.bind_eq_bind,Option.bind_eq_some_iff,Option.some.injEq] at hc
   obtain ⟨n,hn',x',hx',i',hi',rfl⟩:=hc
   exact pure2 (yu5 hT hop hx' hi' hu hn' he)
  ·cases hc
 | index t x i=>
  simp only [hop,cOp] at hc
  split at hc
  ·rename_i len e hu
   simp only [Option.bind_eq_bind,Option.bind_eq_some_iff] at hc
   obtain ⟨agg,hagg,n,hn',hc⟩:=hc
   split at hc
   ·rename_i hcond
    simp only [Option.bind_eq_some_iff,Option.some.injEq] at hc
    obtain ⟨x',hx',i',hi',rfl⟩:=hc
    exact pure2 (yuf hT hop hx' hi' hu hagg hn' hcond he)
   ·cases hc
  ·rename_i hu
   simp only [Option.bind_eq_bind,Option.bind_eq_some_iff,Option.some.injEq] at hc
   obtain ⟨x',hx',i',hi',rfl⟩:=hc
   exact pure2 (yu0 hT hop hx' hi' hu he)
  ·cases hc
 | extract x i=>
  simp only [hop,cOp,Option.bind_eq_bind,Option.bind_eq_some_iff,Option.some.injEq] at hc
  obtain ⟨y,hy,rfl⟩:=hc
  simp only [evOp] at he
  split at he
  ·rename_i vs hvs
   split at he
   ·rename_i v hv
    cases he
    exact pure_ rfl (yz6 hT hop hy hvs hv)
   ·cases he
  ·cases he
 | makeFunc fn first caps=>
  simp only [hop,cOp] at hc
  split at hc
  ·simp only [Option.bind_eq_bind,Option.bind_eq_some_iff,Option.some.injEq] at hc
   obtain ⟨x',hx',y',hy',rfl⟩:=hc
   exact pure2 (yz7 hT hop hx' hy' he)
  ·cases hc
 | makeMap t r=>
  simp only [hop,cOp,Option.bind_eq_bind,Option.bind_eq_some_iff] at hc
  obtain ⟨m,hm,hc⟩:=hc
  split at hc
  ·cases hc
   exact yra hi (hid rfl) hB hop hm (.inl rfl) he hs
  ·rename_i k n
   cases hc
   exact yra hi (hid rfl) hB hop hm (.inr ⟨k,n,rfl⟩) he hs
  ·cases hc
 | lookup t x k ok'=>
  simp only [hop,cOp,Option.bind_eq_bind,Option.bind_eq_some_iff,Option.some.injEq] at hc
  obtain ⟨m,hm,kk,hkk,z,hz,x',hx',k',hk',rfl⟩:=hc
  exact pure2 (yvi hi hT hop hm hkk hz hx' hk' he)
 | mapUpdate t x k v=>
  simp only [hop,cOp,Option.bind_eq_bind,Option.bind_eq_some_iff,Option.some.injEq] at hc
  obtain ⟨m,hm,kk,hkk,x',hx',k',hk',v',hv',rfl⟩:=hc
  exact ymz hi hB hT (.inl hop) hm hkk hx' hk' hv' he hs
 | insert t x k v=>
  simp only [hop,cOp,Option.bind_eq_bind,Option.bind_eq_some_iff,Option.some.injEq] at hc
  obtain ⟨m,hm,kk,hkk,x',hx',k',hk',v',hv',rfl⟩:=hc
  exact ymz hi hB hT (.inr hop) hm hkk hx' hk' hv' he hs
 | mapEntry t x k=>
  simp only [hop,cOp,Option.bind_eq_bind,Option.bind_eq_some_iff,Option.some.injEq] at hc
  obtain ⟨m,hm,kk,hkk,z,hz,x',hx',k',hk',rfl⟩:=hc
  exact yya hi hB hT hop hm hkk hz hx' hk' he hs
 | entryStore t x c v=>
  simp only [hop,cOp,Option.bind_eq_bind,Option.bind_eq_some_iff,Option.some.injEq] at hc
  obtain ⟨x',hx',c',hc',v',hv',rfl⟩:=hc
  exact yz5 hi hB hT hop hx' hc' hv' he hs
 | call c=>
  have hsl:∀{t e:TypeId},tSlice P t=some e→P.underlying t=some (.slice e):=by
   intro t e hte
   unfold tSlice at hte
   split at hte
   ·rename_i e' hu;cases hte;exact hu
   ·cases hte
  simp only [hop,cOp] at hc
  split at hc
  ·rename_i hcal
   split at hc
   ·rename_i x t hargs hty
    split at hc
    ·rename_i e hu
     simp only [Option.bind_eq_bind,Option.bind_eq_some_iff,Option.some.injEq] at hc
     obtain ⟨x',hx',rfl⟩:=hc
     exact pure2 (yp4 (str:=false) hT hop hcal hargs hty (by simpa using ⟨e,hu⟩) hx' he)
    ·rename_i hu
     simp only [Option.bind_eq_bind,Option.bind_eq_some_iff,Option.some.injEq] at hc
     obtain ⟨x',hx',rfl⟩:=hc
     exact pure2 (yp4 (str:=true) hT hop hcal hargs hty (by simpa using hu) hx' he)
    ·rename_i kt et hu
     simp only [Option.bind_eq_bind,Option.bind_eq_some_iff,Option.some.injEq] at hc
     obtain ⟨x',hx',rfl⟩:=hc
     exact pure2 (yuh hi hT hop hcal hargs hty hu hx' he)
    ·cases hc
   ·cases hc
  ·rename_i hcal
   split at hc
   ·rename_i x t hargs hty
    split at hc
    ·rename_i kt et hu
     simp only [Option.bind_eq_bind,Option.bind_eq_some_iff,Option.some.injEq] at hc
     obtain ⟨x',hx',rfl⟩:=hc
     exact yyj hi hB hT hop hcal hargs hty hu hx' he hs
    ·cases hc
   ·cases hc
  ·rename_i hcal
   split at hc
   ·rename_i x y t t2 hargs hty
    simp only [Option.bind_eq_bind,Option.bind_eq_some_iff] at hc
    obtain ⟨e,hte,e2,hte2,n,hn',i,hie,z,hz,hc⟩:=hc
    split at hc
    ·rename_i hcond
     simp only [Option.bind_eq_some_iff,Option.some.injEq] at hc
     obtain ⟨x',hx',y',hy',rfl⟩:=hc
     exact y113 hi (hid rfl) hB hT hop hcal hargs hty (hsl hte) (hsl hte2) hn' hcond.2.1 hz hcond.1 hie hcond.2.2 hx' hy' he hs
    ·cases hc
   ·cases hc
  ·rename_i hcal
   split at hc
   ·rename_i x y t t2 hargs hty
    simp only [Option.bind_eq_bind,Option.bind_eq_some_iff] at hc
    obtain ⟨_,_,e,hte,n,hn',hc⟩:=hc
    split at hc
    ·simp only [Option.bind_eq_some_iff,Option.some.injEq] at hc
     obtain ⟨x',hx',y',hy',rfl⟩:=hc
     exact y10x hi hB hT hop hcal hargs hty (hsl hte) hn' hx' hy' he hs
    ·cases hc
   ·cases hc
  ·split at hc
   ·simp only [Option.bind_eq_bind,Option.bind_eq_some_iff,Option.some.injEq] at hc
    obtain ⟨xs,_,rfl⟩:=hc
    cases hn
   ·cases hc
  ·simp only [Option.bind_eq_bind,Option.bind_eq_some_iff,Option.some.injEq] at hc
   obtain ⟨x',_,xs,_,rfl⟩:=hc
   cases hn
  ·cases hc
 | _=>simp [hop,cOp] at hc
end
end Go.Ev
namespace Go.Ev
open Go.RowKit
variable [Cd]
def RelSs (w:World) (ok:Nat→Nat→Prop) (ob:Nat→Option AObj) (G:Nat→GB) (xs:List SV) (vs:List Value):Prop:=
 xs.length=vs.length∧∀(j:Nat) (x:SV) (v:Value),xs[j]? =some x→vs[j]? =some v→RelS w ok ob G x v
def WF (ro:Option Nat):Fence:={ Fence.wide with round:=ro }
def Rounds (P:Program) (blk:Nat) (vals:List Value) (w:World) (R:Ending→World→Prop):Prop:=
 ∃r:Loop,w.heap[blk]? =some (.loop r)∧vals.length=r.params.size∧
  ∀(ro:Option Nat) (n:Nat),RoundIn (WF ro) n P blk r.fn ((r.params.zip vals.toArray).foldl (fun tmps (t,a)=>tmps.setIfInBounds t a) r.tmps) r.assign r.body w R
def SoundAt (P:Program) (args:List SV) (s:Sto) (r:SV) (s':Sto):Callee→Prop
 | .fn f=>callable P f=true∧
  ∀(B:Nat) (w:World) (ok:Nat→Nat→Prop) (G:Nat→GB) (vals:List Value),Inv B w ok s G→(∀k,s.nx≤k→s.ob k=none)→B≤w.heap.size→RelSs w ok s.ob G args vals→
   Calls P f vals.toArray w fun e w'=>∃v,e=.returned v∧Post B w ok s G s' r v w'
 | .rnd l=>∀(B:Nat) (w:World) (ok:Nat→Nat→Prop) (G:Nat→GB) (vals:List Value),Inv B w ok s G→(∀k,s.nx≤k→s.ob k=none)→B≤w.heap.size→RelSs w ok s.ob G args vals→
   Rounds P (G l).blk vals w fun e w'=>∃v,e=.returned v∧Post B w ok s G s' r v w'
def Sound (P:Program) (C:Caller):Prop:=∀(c:Callee) (args:List SV) (s:Sto) (r:SV) (s':Sto),C c args s=some (r,s')→SoundAt P args s r s' c
theorem RelSs.mono {w ok ob G xs vs} (h:RelSs w ok ob G xs vs) {w' ok'} (hc:CellLe w ok w' ok') {ob' G'} (ho:ObLe ob G ob' G'):RelSs w' ok' ob' G' xs vs:=
 ⟨h.1,fun j x v p q=>(h.2 j x v p q).mono hc ho⟩
theorem RelSs.append {w ok ob G xs vs ys us} (h:RelSs w ok ob G xs vs) (k:RelSs w ok ob G ys us):RelSs w ok ob G (xs++ys) (vs++us):=by
 refine ⟨by simp [h.1,k.1],fun j x v a b=> ?_⟩
 rw [List.getElem?_append] at a b
 rw [h.1] at a
 split at a
 ·rw [if_pos (by assumption)] at b;exact h.2 j x v a b
 ·rw [if_neg (by assumption)] at b;exact k.2 _ x v a b
theorem RelSs.ones {w ok ob G} {xs:List AV} {vs:List Value} (hl:xs.length=vs.length) (h:∀(j:Nat) (x:AV) (v:Value),xs[j]? =some x→vs[j]? =some v→Rel w ok ob G x v):RelSs w ok ob G (xs.map .one) vs:=by
 refine ⟨by simp [hl],fun j x v p q=> ?_⟩
 rw [List.getElem?_map,Option.map_eq_some_iff] at p
 obtain ⟨y,p,rfl⟩:=p
 exact .one _ _ (h j y v p q)
theorem Sound.callV {P:Program} {C:Caller} (hC:Sound P C) {f:FuncId} {args:List SV} {s:Sto} {eff:Eff} (he:callV C f args s.ob s.fz=some eff) {id:Nat} {s':Sto} {y:SV} (hs:eff.sto s id=(s',y)):
  callable P f=true∧∀(B:Nat) (w:World) (ok:Nat→Nat→Prop) (G:Nat→GB) (vals:List Value),Inv B w ok s G→B≤w.heap.size→RelSs w ok s.ob G args vals→
   Calls P f vals.toArray w fun e w'=>∃v,e=.returned v∧Post B w ok s G s' y v w':=by
 obtain ⟨ob,fz,nx⟩:=s
 simp only [Ev.callV] at he
 split at he
 ·rename_i fz' args' hfz
  split at he
  ·rename_i r s2 hF
   split at he
   ·rename_i fz2 r' hR
    cases he
    simp only [Eff.sto,Prod.mk.injEq] at hs
    obtain ⟨rfl,rfl⟩:=hs
    obtain ⟨hcal,hcall⟩:=hC (.fn f) args' Sto.empty r s2 hF
    refine ⟨hcal,fun B w ok G vals hi hB hr=> ?_⟩
    obtain ⟨ok1,hi1,hle1,hl1,hr1⟩:=ypf hfz hi hr.1 hr.2
    refine (hcall w.heap.size w ok1 noG vals (Inv.empty _ hi1.okLt) (fun _ _=>rfl) (Nat.le_refl _) ⟨hl1,hr1⟩).mono ?_
    rintro e w' ⟨v,rfl,ok2,G2,hi2,hob2,hcell2,hle2,hb2,hr2⟩
    obtain ⟨ok3,hi3,hle3,hr3⟩:=yr1 hR (nx:=s2.nx) (by obtain ⟨o,z,n⟩:=s2;exact hi2) hr2
    obtain ⟨hi4,hc4,hle4⟩:=hi1.called hB hb2 (hle2.trans hle3) hi3.okLt
    exact ⟨v,rfl,ok3,G,hi4,ObLe.refl _ _,(hle1.cell w).trans hc4,hle1.trans hle4,hb2.mono hB,hr3.any _ _⟩
   ·cases he
  ·cases he
 ·cases he
theorem yjo {ro:Option Nat} {n:Nat} {P:Program} {f:FuncId} {args:Array Value} {w:World} {R:Ending→World→Prop} (h:Calls P f args w R):CallsIn (WF ro) n P f args w R:=(callsIn_wide (n:=n)).2 h
section
variable {P:Program} {br:FuncId→Bool} {F:Caller} {draw:Bool} {rb id:Nat} {st:St} {B:Nat} {w:World} {ok:Nat→Nat→Prop} {G:Nat→GB} {a:Act} {o:Oper} {ro:Option Nat} {n:Nat}
theorem yf3 {f:FuncId} (h:callable P f=true) (args:Array Value) (w:World):(callFunc f args).run P w=.ok (.enter f args) w:=by
 unfold callable at h
 split at h
 ·rename_i fn hfn
  simp only [Bool.and_eq_true,Bool.not_eq_true'] at h
  have hb:fn.body.isNone=false:=by
   cases hbd:fn.body with
   | none=>rw [hbd] at h;simp at h
   | some c=>rfl
  simp only [callFunc,Sem.run_bind,run_program,Result.andThen_ok,hfn,h.2,hb,Bool.false_eq_true,if_false,Sem.run_pure]
 ·cases h
def OpOk (P:Program) (ro:Option Nat) (B:Nat) (w:World) (ok:Nat→Nat→Prop) (s:Sto) (G:Nat→GB) (a:Act) (o:Oper) (s':Sto) (x:SV):Prop:=
 ∀(n:Nat) (K:Act→World→Prop) (Q:Exit→Act→World→Prop),(∀v w',Post B w ok s G s' x v w'→K (a.put o.dst v) w')→o.wpIn (WF ro) n P a w K Q
theorem yci {ao:AOp} (hc:cOp P br o.op=some ao):∀c,o.op≠.defer c:=by
 intro c e
 rw [e] at hc
 simp [cOp] at hc
theorem Eff1.opOk {ao:AOp} (hc:cOp P br o.op=some ao) {s s':Sto} {x:SV} (h:Eff1 P B w ok s G a o s' x):OpOk P ro B w ok s G a o s' x:=by
 intro n K Q hK
 obtain ⟨v,w',hrun,hp⟩:=h
 refine ⟨fun _ _=>trivial, ?_⟩
 rw [show (WF ro).round=ro from rfl,Oper.semAt_eq _ _ _ (yci hc)]
 rcases hrun with hrun | ⟨hrun,rfl⟩
 ·rw [hrun];exact hK _ _ hp
 ·rw [hrun];exact hK _ _ hp
theorem yap {ao:AOp} (hc:cOp P br o.op=some ao) {f:FuncId} {vals:List Value} {s s':Sto} {x:SV} (hrun:(execOp a.eval o).run P w=.ok (.enter f vals.toArray) w)
  (h:Calls P f vals.toArray w fun e w'=>∃v,e=.returned v∧Post B w ok s G s' x v w'):OpOk P ro B w ok s G a o s' x:=by
 intro n K Q hK
 refine ⟨fun _ _=>trivial, ?_⟩
 rw [show (WF ro).round=ro from rfl,Oper.semAt_eq _ _ _ (yci hc),hrun]
 rw [Oper.uponIn_enter]
 refine ⟨fun hd=>(by cases hd),(yjo h).mono ?_⟩
 rintro e w' ⟨v,rfl,hp⟩
 exact hK _ _ hp
theorem yi2 {c:Call} {fo:Operand} (ho:o.op=.call c) (hcal:c.callee=.value fo) {f:FuncId} {first caps:List Value} (hv:a.eval fo=.func (.func f) first.toArray caps.toArray) (hf:callable P f=true):
  (execOp a.eval o).run P w=.ok (.enter f (first++c.args.toList.map a.eval++caps).toArray) w:=by
 have e:c.args.map a.eval=(c.args.toList.map a.eval).toArray:=by apply Array.ext';simp
 simp [execOp,ho,resolve,hcal,Deferred.ofValue,hv,invoke,yf3 hf,e]
theorem yyt {b:Bool} {f:FuncId} {xs:List Opd} (hc:cOp P br o.op=some (.call b f xs)):
  ∃c,o.op=.call c∧c.callee=.value (.func f)∧callable P f=true∧c.args.toList.mapM cOpd=some xs:=by
 cases hop:o.op with
 | call c=>
  refine ⟨c,rfl, ?_⟩
  simp only [hop,cOp] at hc
  split at hc<;>(try split at hc)<;>(try split at hc)<;>(try simp only [Option.bind_eq_bind,Option.bind_eq_some_iff,Option.some.injEq,reduceCtorEq,and_false,exists_false,AOp.call.injEq] at hc)<;>(try (cases hc;done))
  ·exfalso
   obtain ⟨e,_,e2,_,n,_,i,_,z,_,hc⟩:=hc
   split at hc
   ·simp [Option.bind_eq_some_iff] at hc
   ·cases hc
  ·exfalso
   obtain ⟨_,_,e,_,n,_,hc⟩:=hc
   split at hc
   ·simp [Option.bind_eq_some_iff] at hc
   ·cases hc
  ·rename_i f' hcal hf
   obtain ⟨ys,h1,h2,rfl,rfl⟩:=hc
   exact ⟨hcal,hf,h1⟩
 | _=>
  exfalso
  simp only [hop,cOp] at hc
  repeat' (split at hc)
  all_goals first
   |(simp [Option.bind_eq_some_iff] at hc;done)
   |(unfold cEqn at hc
     repeat' (split at hc)
     all_goals cases hc)
   |(unfold cEqa at hc
     repeat' (split at hc)
     all_goals cases hc)
theorem ywc {x:Opd} {xs:List Opd} (hc:cOp P br o.op=some (.callv x xs)):
  ∃c fo,o.op=.call c∧c.callee=.value fo∧cOpd fo=some x∧c.args.toList.mapM cOpd=some xs:=by
 cases hop:o.op with
 | call c=>
  simp only [hop,cOp] at hc
  split at hc<;>(try split at hc)<;>(try split at hc)<;>(try simp only [Option.bind_eq_bind,Option.bind_eq_some_iff,Option.some.injEq,reduceCtorEq,and_false,exists_false,AOp.callv.injEq] at hc)<;>(try (cases hc;done))
  ·exfalso
   obtain ⟨e,_,e2,_,n,_,i,_,z,_,hc⟩:=hc
   split at hc
   ·simp [Option.bind_eq_some_iff] at hc
   ·cases hc
  ·exfalso
   obtain ⟨_,_,e,_,n,_,hc⟩:=hc
   split at hc
   ·simp [Option.bind_eq_some_iff] at hc
   ·cases hc
  ·rename_i fo hno hcal
   obtain ⟨y,hy,ys,h1,rfl,rfl⟩:=hc
   exact ⟨c,fo,rfl,hcal,hy,h1⟩
 | _=>
  exfalso
  simp only [hop,cOp] at hc
  repeat' (split at hc)
  all_goals first
   |(simp [Option.bind_eq_some_iff] at hc;done)
   |(unfold cEqn at hc
     repeat' (split at hc)
     all_goals cases hc)
   |(unfold cEqa at hc
     repeat' (split at hc)
     all_goals cases hc)
theorem yk6 {ao:AOp} (hc:cOp P br o.op=some ao) {b:Nat} {vals:List Value} {s s':Sto} {x:SV} (hrun:(execOp a.eval o).run P w=(Instr.yield b vals.toArray).run P w)
  (h:Rounds P b vals w fun e w'=>∃v,e=.returned v∧Post B w ok s G s' x v w'):OpOk P ro B w ok s G a o s' x:=by
 intro n K Q hK
 obtain ⟨r,hr,hl,hround⟩:=h
 refine ⟨fun _ _=>trivial, ?_⟩
 rw [show (WF ro).round=ro from rfl,Oper.semAt_eq _ _ _ (yci hc),hrun,run_yield hr (by simpa using hl)]
 rw [Oper.uponIn_round]
 refine ⟨fun hd=>(by cases hd),(hround ro (n-1)).mono ?_⟩
 rintro e w' ⟨v,rfl,hp⟩
 exact hK _ _ hp
theorem op_ok (hC:Sound P F) (hi:Inv B w ok st.sto G) (hFr:∀k,st.sto.nx≤k→st.sto.ob k=none) (hB:B≤w.heap.size) (hT:RelT w ok st.ob G st.sl a.tmps) {ao:AOp} (hid:ao.allocs=true→st.sto.ob id=none) (hc:cOp P br o.op=some ao) {eff:Eff} (he:evOp F draw rb id st ao=some eff) {s':Sto} {y:SV} (hs:eff.sto st.sto id=(s',y)):
  OpOk P ro B w ok st.sto G a o s' y:=by
 have byRef:∀{f:FuncId} {args:List SV} {vals:List Value} {r:SV} {s2:Sto},F (.fn f) args st.sto=some (r,s2)→eff=.all s2 r→RelSs w ok st.ob G args vals→
   callable P f=true∧Calls P f vals.toArray w fun e w'=>∃v,e=.returned v∧Post B w ok st.sto G s' y v w':=by
  intro f args vals r s2 hF e hr
  subst e
  simp only [Eff.sto,Prod.mk.injEq] at hs
  obtain ⟨rfl,rfl⟩:=hs
  obtain ⟨h1,h2⟩:=hC (.fn f) args st.sto r s2 hF
  exact ⟨h1,h2 B w ok G vals hi hFr hB hr⟩
 have byVal:∀{f:FuncId} {args:List SV} {vals:List Value},callV F f args st.ob st.fz=some eff→RelSs w ok st.ob G args vals→
   callable P f=true∧Calls P f vals.toArray w fun e w'=>∃v,e=.returned v∧Post B w ok st.sto G s' y v w':=by
  intro f args vals hV hr
  obtain ⟨h1,h2⟩:=hC.callV (s:=st.sto) hV hs
  exact ⟨h1,h2 B w ok G vals hi hB hr⟩
 cases ao with
 | call b f xs=>
  obtain ⟨c,hop,hcal,hf,hxs⟩:=yyt hc
  have hr:=ylc hT hxs
  have hgo:callable P f=true∧Calls P f (c.args.toList.map a.eval).toArray w fun e w'=>∃v,e=.returned v∧Post B w ok st.sto G s' y v w':=by
   simp only [evOp] at he
   cases b with
   | true=>
    simp only [cond_true] at he
    split at he
    ·rename_i r s2 hF
     cases he
     exact byRef hF rfl hr
    ·cases he
   | false=>
    simp only [cond_false] at he
    exact byVal he hr
  have hrun:=yi2 (P:=P) (a:=a) (w:=w) hop hcal (f:=f) (first:=[]) (caps:=[]) rfl hf
  simp only [List.nil_append,List.append_nil] at hrun
  exact yap hc hrun hgo.2
 | callv x xs=>
  obtain ⟨c,fo,hop,hcal,hfo,hxs⟩:=ywc hc
  have hr:=ylc hT hxs
  have hfr:=y0a hT hfo
  simp only [evOp] at he
  split at he
  ·rename_i f hx
   rw [hx] at hfr
   generalize hfv:a.eval fo=fv at hfr
   cases hfr with
   | one _ _ hfr=>
    cases hfr with
    | fn _ _ _ vs us h1 h2 r1 r2=>
     cases vs with
     | cons=>simp at h1
     | nil=>
      cases us with
      | cons=>simp at h2
      | nil=>
       obtain ⟨hf,hcalls⟩:=byVal he hr
       have hrun:=yi2 (P:=P) (a:=a) (w:=w) hop hcal (f:=f) (first:=[]) (caps:=[]) hfv hf
       simp only [List.nil_append,List.append_nil] at hrun
       exact yap hc hrun hcalls
  ·rename_i f first caps _ hx
   rw [hx] at hfr
   generalize hfv:a.eval fo=fv at hfr
   split at he
   ·rename_i r s2 hF
    cases he
    cases hfr with
    | one _ _ hfr=>
     cases hfr with
     | fn _ _ _ vs us h1 h2 r1 r2=>
      obtain ⟨hf,hcalls⟩:=byRef hF rfl (((RelSs.ones h1 r1).append hr).append (RelSs.ones h2 r2))
      exact yap hc (yi2 (P:=P) (a:=a) (w:=w) hop hcal (f:=f) hfv hf) hcalls
   ·cases he
  ·rename_i l hx
   rw [hx] at hfr
   generalize hfv:a.eval fo=fv at hfr
   split at he
   ·rename_i r s2 hF
    cases he
    cases hfr with
    | one _ _ hfr=>
     cases hfr with
     | yld _ lo hob=>
      simp only [Eff.sto,Prod.mk.injEq] at hs
      obtain ⟨rfl,rfl⟩:=hs
      have hround:=hC (.rnd l) _ st.sto _ _ hF B w ok G _ hi hFr hB hr
      refine yk6 hc ?_ hround
      have e:c.args.map a.eval=(c.args.toList.map a.eval).toArray:=by apply Array.ext';simp
      simp [execOp,hop,resolve,hcal,Deferred.ofValue,hfv,invoke,e]
   ·cases he
  ·cases he
 | _=>exact (y122 hi hB hT hid hc rfl he hs).opOk hc
end
structure NxLe (s s':Sto):Prop where
 le:s.nx≤s'.nx
 old:∀k,k<s.nx→s.ob k=none→s'.ob k=none
 new:(∀k,s.nx≤k→s.ob k=none)→∀k,s'.nx≤k→s'.ob k=none
theorem NxLe.refl (s:Sto):NxLe s s:=⟨Nat.le_refl _,fun _ _ h=>h,fun h=>h⟩
theorem NxLe.trans {s1 s2 s3:Sto} (h:NxLe s1 s2) (k:NxLe s2 s3):NxLe s1 s3:=
 ⟨Nat.le_trans h.le k.le,fun i hi q=>k.old i (Nat.lt_of_lt_of_le hi h.le) (h.old i hi q),fun q=>k.new (h.new q)⟩
structure NxOp (id:Nat) (s s':Sto):Prop where
 le:s.nx≤s'.nx
 old:∀k,k<s.nx→k≠id→s.ob k=none→s'.ob k=none
 new:(∀k,s.nx≤k→s.ob k=none)→∀k,s'.nx≤k→s'.ob k=none
theorem NxLe.op {s s':Sto} (h:NxLe s s') (id:Nat):NxOp id s s':=⟨h.le,fun k hk _ q=>h.old k hk q,h.new⟩
def FreshF (F:Caller):Prop:=∀c args s r s',F c args s=some (r,s')→NxLe s s'
def AOp.cls:AOp→Nat
 | .load .. | .lkup .. | .mlen ..=>1
 | .alloc .. | .box .. | .bslice .. | .mks .. | .mkm=>2
 | .call false ..=>3
 | .store .. | .cpy .. | .b2s .. | .call true .. | .callv .. | .mput .. | .ment .. | .mset .. | .mclr ..=>4
 | .app ..=>8
 | _=>0
inductive EffOk (F:Caller) (op:AOp) (s:Sto):Eff→Prop
 | val (v):EffOk F op s (.val v)
 | new (o v) (h:op.allocs=true):EffOk F op s (.new o v)
 | wr (i o v) (o':AObj) (h:s.ob i=some o') (hc:op.cls=4∨op.cls=8):EffOk F op s (.wr i o v)
 | fzd (fz v) (hc:op.cls=3∨op.cls=4):EffOk F op s (.fzd fz v)
 | all (s' v f args) (h:F f args s=some (v,s')) (hc:op.cls=4):EffOk F op s (.all s' v)
theorem yj8 {F:Caller} {op:AOp} {s:Sto} {a:Option AV} {e:Eff} (h:one a=some e):EffOk F op s e:=by
 unfold one at h
 split at h<;>cases h
 exact .val _
theorem yp6 {F:Caller} {op:AOp} {s:Sto} {f:FuncId} {args:List SV} {ob:Nat→Option AObj} {fz:Nat→Nat} {e:Eff} (hc:op.cls=3∨op.cls=4) (he:callV F f args ob fz=some e):EffOk F op s e:=by
 unfold callV at he
 repeat' (split at he)
 all_goals cases he
 exact .fzd _ _ hc
theorem yhv {ob:Nat→Option AObj} {id ver:Nat} {r:Nat×List (List AV)} (hr:rowAt ob id ver=some r):∃o,ob id=some o:=by
 unfold rowAt at hr
 split at hr
 ·rename_i e;exact ⟨_,e⟩
 ·cases hr
theorem yfg {F:Caller} {draw:Bool} {rb id:Nat} {st:St} {op:AOp} {e:Eff} (he:evOp F draw rb id st op=some e):EffOk F op st.sto e:=by
 cases op with
 | bin op x y=>exact yj8 he
 | un op x=>exact yj8 he
 | slic sz x lo hi mx=>
  simp only [evOp] at he
  repeat' (split at he)
  all_goals first | exact yj8 he | (cases he;done) | (obtain ⟨_,he⟩:=y05 he;exact yj8 he)
 | call b f xs=>
  simp only [evOp] at he
  cases b with
  | true=>
   simp only [cond_true] at he
   split at he
   ·rename_i r s hF;cases he;exact .all _ _ _ _ hF rfl
   ·cases he
  | false=>exact yp6 (.inl rfl) he
 | callv x xs=>
  simp only [evOp] at he
  split at he
  ·exact yp6 (.inr rfl) he
  ·split at he
   ·rename_i r s hF;cases he;exact .all _ _ _ _ hF rfl
   ·cases he
  ·split at he
   ·rename_i r s hF;cases he;exact .all _ _ _ _ hF rfl
   ·cases he
  ·cases he
 | mput kt x k v=>
  simp only [evOp] at he
  split at he
  ·obtain ⟨_,he⟩:=y05 he
   split at he
   ·split at he
    ·rename_i hob
     split at he
     ·cases he;exact .wr _ _ _ _ hob (.inl rfl)
     ·cases he;exact .wr _ _ _ _ hob (.inl rfl)
     ·cases he
    ·cases he
   ·cases he
  ·cases he
 | ment kt z x k=>
  simp only [evOp] at he
  split at he
  ·obtain ⟨_,he⟩:=y05 he
   split at he
   ·split at he
    ·rename_i hob
     split at he
     ·cases he;exact .wr _ _ _ _ hob (.inl rfl)
     ·cases he;exact .wr _ _ _ _ hob (.inl rfl)
     ·cases he
    ·cases he
   ·cases he
  ·cases he
 | mset x c v=>
  simp only [evOp] at he
  split at he
  ·split at he
   ·split at he
    ·split at he
     ·rename_i hob
      split at he
      ·cases he;exact .wr _ _ _ _ hob (.inl rfl)
      ·cases he
     ·cases he
    ·cases he
   ·cases he
  ·cases he
 | mclr x=>
  simp only [evOp] at he
  split at he
  ·split at he
   ·rename_i hob
    cases he;exact .wr _ _ _ _ hob (.inl rfl)
   ·cases he
  ·cases he
 | mkm=>cases he;exact .new _ _ rfl
 | lkup kt z c x k=>
  simp only [evOp] at he
  split at he
  ·obtain ⟨_,he⟩:=y05 he
   split at he
   ·cases he;exact .val _
   ·obtain ⟨_,he⟩:=y05 he
    split at he
    ·split at he
     ·cases he;exact .val _
     ·cases he;exact .val _
     ·cases he
    ·cases he
   ·cases he
  ·cases he
 | mlen x=>
  simp only [evOp] at he
  split at he
  ·cases he;exact .val _
  ·obtain ⟨_,he⟩:=y05 he
   split at he
   ·obtain ⟨_,he⟩:=y05 he
    cases he;exact .val _
   ·cases he
  ·cases he
 | store n a x=>
  simp only [evOp] at he
  split at he
  ·obtain ⟨_,he⟩:=y05 he
   split at he
   ·split at he
    ·rename_i hob
     split at he
     ·cases he;exact .wr _ _ _ _ hob (.inl rfl)
     ·cases he
    ·cases he
   ·split at he
    ·rename_i hrow
     obtain ⟨o,ho⟩:=yhv hrow
     split at he
     ·split at he
      ·obtain ⟨_,he⟩:=y05 he
       cases he;exact .wr _ _ _ o ho (.inl rfl)
      ·cases he
     ·cases he
    ·cases he
   ·cases he
  ·cases he
 | app sz bytes x y=>
  simp only [evOp] at he
  split at he
  ·split at he
   ·split at he
    ·cases he;exact .val _
    ·obtain ⟨_,he⟩:=y05 he
     cases he;exact .new _ _ rfl
   ·split at he
    ·cases he;exact .val _
    ·obtain ⟨_,he⟩:=y05 he
     cases he;exact .new _ _ rfl
   ·split at he
    ·rename_i hrow
     obtain ⟨o,ho⟩:=yhv hrow
     obtain ⟨_,he⟩:=y05 he
     split at he
     ·cases he;exact .val _
     ·obtain ⟨_,he⟩:=y05 he
      rw [Bool.cond_eq_ite] at he
      split at he
      ·cases he;exact .new _ _ rfl
      ·obtain ⟨_,he⟩:=y05 he
       cases he;exact .wr _ _ _ o ho (.inr rfl)
    ·cases he
   ·cases he
  ·cases he
 | cpy sz x y=>
  simp only [evOp] at he
  split at he
  ·split at he
   ·cases he;exact .val _
   ·split at he
    ·rename_i hrow
     obtain ⟨o,ho⟩:=yhv hrow
     obtain ⟨_,he⟩:=y05 he
     cases he;exact .wr _ _ _ o ho (.inl rfl)
    ·cases he
   ·cases he
  ·cases he
 | alloc z=>cases he;exact .new _ _ rfl
 | box x=>
  simp only [evOp] at he
  split at he<;>cases he
  exact .new _ _ rfl
 | bslice sz z len ps=>
  simp only [evOp] at he
  split at he<;>cases he
  exact .new _ _ rfl
 | mks sz bytes z l c=>
  simp only [evOp] at he
  repeat' (split at he)
  all_goals first | (cases he;done) | skip
  obtain ⟨_,he⟩:=y05 he
  cases he
  exact .new _ _ rfl
 | _=>
  simp only [evOp] at he
  repeat' (split at he)
  all_goals first
   |(cases he;exact .val _)
   |(obtain ⟨_,he⟩:=y05 he
     repeat' (split at he)
     all_goals first | (cases he;exact .val _) | (cases he;done) | (obtain ⟨_,he⟩:=y05 he;cases he;exact .val _))
   |(cases he;done)
theorem EffOk.fresh {F:Caller} (hF:FreshF F) {op:AOp} {s:Sto} {e:Eff} (h:EffOk F op s e) {id:Nat} (hid:op.allocs=true→id<s.nx):NxOp id s (e.sto s id).1:=by
 cases h with
 | val v=>exact (NxLe.refl _).op _
 | fzd fz v _=>exact ⟨Nat.le_refl _,fun _ _ _ h=>h,fun h=>h⟩
 | new o v h=>
  have:=hid h
  refine ⟨Nat.le_refl _,fun k _ hk q=> ?_,fun q k hk=> ?_⟩
  ·simp only [Eff.sto];rw [y00 hk];exact q
  ·simp only [Eff.sto] at hk ⊢
   rw [y00 (by omega)];exact q k hk
 | wr i o v o' h _=>
  have key:∀k,s.ob k=none→upd s.ob i o k=none:=fun k q=>by
   rw [y00 (fun e=>by rw [e,h] at q;cases q)];exact q
  exact ⟨Nat.le_refl _,fun k _ _ q=>key k q,fun q k hk=>key k (q k hk)⟩
 | all s' v f args h _=>exact (hF _ _ _ _ _ h).op _
theorem y8k {F:Caller} (hF:FreshF F) {draw:Bool} {rb i:Nat} {o:AOper} {st st':St} (h:evO F draw rb i o st=some st') (hid:o.op.allocs=true→rb+i<st.nx):NxOp (rb+i) st.sto st'.sto:=by
 unfold evO at h
 split at h
 ·obtain ⟨_,h⟩:=y05 h
  split at h
  ·rename_i e he
   cases h
   exact (yfg he).fresh hF hid
  ·cases h
 ·cases h;exact (NxLe.refl _).op _
 ·cases h
def DfOk (ob0 ob:Nat→Option AObj) (G:Nat→GB) (D ds:List Deferred):Prop:=
 ∃ids:List Nat,ds=ids.map (fun id=>{ target:=.collected (G id).blk,args:=#[] })++D∧ids.Nodup∧∀id∈ids,ob0 id=none∧ob id=some .dfr
theorem DfOk.mono {ob0 ob:Nat→Option AObj} {G:Nat→GB} {D ds:List Deferred} (h:DfOk ob0 ob G D ds) {ob':Nat→Option AObj} {G':Nat→GB} (hl:ObLe ob G ob' G'):DfOk ob0 ob' G' D ds:=by
 obtain ⟨ids,h1,h2,h3⟩:=h
 refine ⟨ids, ?_,h2,fun id hid=>⟨(h3 id hid).1,(hl.dfr id (h3 id hid).2).1⟩⟩
 rw [h1]
 congr 1
 refine List.map_congr_left fun id hid=> ?_
 rw [(hl.dfr id (h3 id hid).2).2]
def SR (B:Nat) (w0:World) (ok0:Nat→Nat→Prop) (s0:Sto) (G0:Nat→GB) (D:List Deferred) (nt:Nat) (st:St) (a:Act) (w:World):Prop:=
 ∃ok G,Inv B w ok st.sto G∧ObLe s0.ob G0 st.ob G∧CellLe w0 ok0 w ok∧OkLe B ok0 ok∧Below B w0 w∧RelT w ok st.ob G st.sl a.tmps∧DfOk s0.ob st.ob G D a.defers∧nt≤a.tmps.size
def cGuard (ops:Array Oper):Option (Nat×Bool)→Option (Option (Nat×Bool))
 | none=>some none
 | some (j,want)=>match (ops[j]?).bind (·.dst) with
  | some t=>some (some (t,want))
  | none=>none
def dstOk (nt:Nat):Option Nat→Bool
 | none=>true
 | some d=>Nat.blt d nt
def cOper (P:Program) (br:FuncId→Bool) (nt:Nat) (ops:Array Oper) (lim:Lim) (o:Oper):Option AOper:=
 match cOp P br o.op,cGuard ops o.guard with
 | some x,some g=>bif dstOk nt o.dst then some ⟨o.dst,x,g,lim⟩ else none
 | _,_=>none
section
variable {P:Program} {br:FuncId→Bool} {F:Caller} {draw:Bool} {rb:Nat} {st:St} {B:Nat} {w0:World} {ok0:Nat→Nat→Prop} {s0:Sto} {G0:Nat→GB} {D:List Deferred} {nt:Nat} {a:Act} {w:World} {o:Oper} {ro:Option Nat} {n:Nat}
theorem SR.size (h:SR B w0 ok0 s0 G0 D nt st a w) (hB:B≤w0.heap.size):B≤w.heap.size:=by
 obtain ⟨ok,G,_,_,_,_,hb,_⟩:=h
 exact Nat.le_trans hB hb.size
theorem yj9 (a:Act) (d:Option Tmp) (v:Value):(a.put d v).defers=a.defers:=by cases d<;>rfl
theorem ynk (a:Act) (d:Option Tmp) (v:Value):(a.put d v).tmps.size=a.tmps.size:=by cases d<;>simp [Act.put]
theorem y12q {d:Option Nat} (h:dstOk nt d=true) (hn:nt≤a.tmps.size):∀t,d=some t→t<a.tmps.size:=by
 intro t e
 subst e
 exact Nat.lt_of_lt_of_le (y77 h) hn
theorem ylv {ok:Nat→Nat→Prop} {G:Nat→GB} (hT:RelT w ok st.ob G st.sl a.tmps) {ops:Array Oper} {g:Option (Nat×Bool)} (hg:cGuard ops o.guard=some g) {b:Bool} (hw:wants st.sl g=some b):Region.wanted o (yielded ops a.tmps)=b:=by
 unfold cGuard at hg
 unfold Region.wanted
 split at hg
 ·rename_i e
  cases hg
  rw [e]
  cases hw
  rfl
 ·rename_i j want e
  rw [e]
  split at hg
  ·rename_i t ht
   cases hg
   simp only [yielded,ht,Option.bind_some]
   have hr:=hT t
   simp only [wants] at hw
   split at hw
   ·cases hw
   ·rename_i b' hb
    cases hw
    rw [hb] at hr
    cases hr with | one _ _ hr=>
    have hv:a.tmps.getD t undef=.bool b':=by
     generalize a.tmps.getD t undef=u at hr
     cases hr
     rfl
    have e2:a.tmps[t]? =some (.bool b'):=by
     cases hq:a.tmps[t]? with
     | none=>simp [Array.getD_eq_getD_getElem?,hq,undef] at hv
     | some v=>simp [Array.getD_eq_getD_getElem?,hq] at hv;rw [hv]
    simp only [e2]
    cases b'<;>cases want<;>rfl
   ·rename_i hnu hnb
    cases hw
    have hn:isBool (st.sl t)=none:=by
     unfold isBool
     split
     ·rename_i b' hb;exact absurd hb (hnb _)
     ·rfl
    have:=yps hnu hn hr
    cases hq:a.tmps[t]? with
    | none=>rfl
    | some v=>
     simp only [Array.getD_eq_getD_getElem?,hq,Option.getD_some] at this
     cases v<;>first | rfl | exact absurd rfl (this _)
  ·cases hg
theorem yoc (hC:Sound P F) (hB:B≤w0.heap.size) (hR:SR B w0 ok0 s0 G0 D nt st a w) (hFr:∀k,st.nx≤k→st.ob k=none) {ops:Array Oper} {ao:AOper} (hc:cOper P br nt ops ao.lim o=some ao) {i:Nat} (hid:ao.op.allocs=true→st.ob (rb+i)=none) {st':St} (he:evO F draw rb i ao st=some st')
  {K:Act→World→Prop} {Q:Exit→Act→World→Prop} (hK:∀a w,SR B w0 ok0 s0 G0 D nt st' a w→K a w):
  if Region.wanted o (yielded ops a.tmps) then o.wpIn (WF ro) n P a w K Q else (∀f,o.about P w a.eval=some f→(WF ro).fn f)∧K (a.put o.dst undef) w:=by
 have hBw:=hR.size hB
 obtain ⟨ok,G,hi,hob,hcell,hle,hb,hT,hd,hnt⟩:=hR
 unfold cOper at hc
 split at hc
 ·rename_i x g hx hg
  obtain ⟨hdst,hc⟩:=y05 hc
  have hao:ao=⟨o.dst,x,g,ao.lim⟩:=(Option.some.inj hc).symm
  have hop:ao.op=x:=by rw [hao]
  have hgd:ao.guard=g:=by rw [hao]
  have hds:ao.dst=o.dst:=by rw [hao]
  have hlt:=y12q hdst hnt
  unfold evO at he
  rw [hgd] at he
  split at he
  ·rename_i hw
   rw [ylv hT hg hw]
   simp only [if_true]
   obtain ⟨_,he⟩:=y05 he
   rw [hop,hds] at he
   split at he
   ·rename_i eff hev
    cases he
    refine op_ok (draw:=draw) (rb:=rb) hC hi hFr hBw hT (by rw [←hop];exact hid) hx hev (Prod.eta (eff.sto st.sto (rb+i))).symm n K Q ?_
    rintro v' w' ⟨ok',G',hi',hob',hcell',hle',hb',hr'⟩
    refine hK _ _ ⟨ok',G',hi',hob.trans hob',hcell.trans hcell',hle.trans hle',hb.trans hb', ?_,by rw [yj9];exact hd.mono hob',by rw [ynk];exact hnt⟩
    exact (hT.mono hcell' hob').put _ hlt hr'
   ·cases he
  ·rename_i hw
   rw [ylv hT hg hw]
   cases he
   rw [hds] at hK
   exact ⟨fun _ _=>trivial,hK _ _ ⟨ok,G,hi,hob,hcell,hle,hb,hT.put _ hlt y80,by rw [yj9];exact hd,by rw [ynk];exact hnt⟩⟩
  ·cases he
 ·cases hc
theorem yol (hC:Sound P F) (hF:FreshF F) (hB:B≤w0.heap.size) {ops:Array Oper} {Q:Exit→Act→World→Prop}:
  ∀(aos:List AOper) (k:Nat),(∀(j:Nat) (ao:AOper),aos[j]? =some ao→∃o,ops[k+j]? =some o∧cOper P br nt ops ao.lim o=some ao)→∀(st st':St) (a:Act) (w:World),SR B w0 ok0 s0 G0 D nt st a w→(∀k,st.nx≤k→st.ob k=none)→
   (∀ao∈aos,ao.op.allocs=true→rb+k+aos.length≤st.nx∧∀j,j<aos.length→st.ob (rb+(k+j))=none)→evOps F draw rb k aos st=some st'→
   (∀a w,SR B w0 ok0 s0 G0 D nt st' a w→Q .normal a w)→wpOpsIn (WF ro) n P ops Q (List.range' k aos.length) a w
 | [],k,hc,st,st',a,w,hR,hFr,hfr,he,hQ=>by
  simp only [evOps,Option.some.injEq] at he
  subst he
  exact hQ _ _ hR
 | ao::r,k,hc,st,st',a,w,hR,hFr,hfr,he,hQ=>by
  simp only [evOps] at he
  split at he
  ·rename_i st1 he1
   obtain ⟨o,ho,hco⟩:=hc 0 ao (by simp)
   simp only [Nat.add_zero] at ho
   rw [List.length_cons,List.range'_succ]
   simp only [wpOpsIn,ho]
   have hnx:ao.op.allocs=true→rb+k<st.nx:=fun h=>by
    have:=(hfr ao (by simp) h).1
    simp only [List.length_cons] at this
    omega
   have hfresh:=y8k hF he1 hnx
   refine yoc hC hB hR hFr hco (fun h=>by
    have:=(hfr ao (by simp) h).2 0 (by simp)
    simpa using this) he1 fun a w hR1=> ?_
   refine yol hC hF hB r (k+1) (fun j ao hj=>by
    have:=hc (j+1) ao (by simpa using hj)
    rwa [show k+(j+1)=k+1+j by omega] at this) st1 st' a w hR1 (hfresh.new hFr) ?_ he hQ
   intro ao' hao' hal
   obtain ⟨h1,h2⟩:=hfr ao' (by simp [hao']) hal
   simp only [List.length_cons] at h1 h2
   have hle:=hfresh.le
   refine ⟨?_,fun j hj=> ?_⟩
   ·show rb+(k+1)+r.length≤st1.sto.nx
    have:st.sto.nx=st.nx:=rfl
    omega
   ·refine hfresh.old _ ?_ (by omega) ?_
    ·show rb+(k+1+j)<st.nx
     omega
    ·have:=h2 (j+1) (by omega)
     rwa [show k+(j+1)=k+1+j by omega] at this
  ·cases he
end
end Go.Ev
namespace Go.Ev
variable [Cd]
def Opd.reads:Opd→List Nat
 | .t i=>[i]
 | _=>[]
def AOp.opds:AOp→List Opd
 | .mov x | .box x | .load _ _ x | .fadr _ x | .fld _ _ _ x | .un _ x | .cnv _ x | .len _ x | .ext x _ | .nilc x | .eqn _ x | .mclr x | .mlen x | .b2s x=>[x]
 | .pick c a b=>[c,a,b]
 | .mput _ c a b | .mset c a b=>[c,a,b]
 | .lkup _ _ _ a b | .ment _ _ a b=>[a,b]
 | .mkm=>[]
 | .alloc _=>[]
 | .build _ ps=>ps.map (·.2.2)
 | .bslice _ _ _ ps=>ps.map (·.2)
 | .store _ a x | .iadr _ a x | .iarr _ _ a x | .idxA _ _ _ _ a x | .idxS a x | .bin _ a x | .beq _ a x | .eqa _ _ a x | .mks _ _ _ a x | .app _ _ a x | .cpy _ a x=>[a,x]
 | .slic _ x lo hi mx=>x::(lo.toList++hi.toList++mx.toList)
 | .slcS x lo hi=>x::(lo.toList++hi.toList)
 | .call _ _ xs=>xs
 | .callv x xs=>x::xs
 | .mkf _ xs ys=>xs++ys
theorem yoi {sl sl':Nat→SV} {x:Opd} (h:∀t∈x.reads,sl t=sl' t):x.ev sl=x.ev sl':=by
 cases x with
 | t i=>exact h i (by simp [Opd.reads])
 | c v=>rfl
 | f id=>rfl
theorem yjk {sl sl':Nat→SV}:∀(ps:List (Nat×Nat×Opd)) (cs:List AV),(∀x∈ps.map (·.2.2),x.ev sl=x.ev sl')→fill sl ps cs=fill sl' ps cs
 | [],cs,h=>rfl
 |(off,n,x)::r,cs,h=>by
  have hx:x.ev sl=x.ev sl':=h x (by simp)
  have hr:=fun cs=>yjk r cs (fun y hy=>h y (by simp at hy ⊢;exact .inr hy))
  simp only [fill,hx,hr]
theorem ygm {sl sl':Nat→SV} {sz:Nat}:∀(ps:List (Nat×Opd)) (es:List (List AV)),(∀x∈ps.map (·.2),x.ev sl=x.ev sl')→fillS sl sz ps es=fillS sl' sz ps es
 | [],cs,h=>rfl
 |(i,x)::r,cs,h=>by
  have hx:x.ev sl=x.ev sl':=h x (by simp)
  have hr:=fun cs=>ygm (sz:=sz) r cs (fun y hy=>h y (by simp at hy ⊢;exact .inr hy))
  simp only [fillS,hx,hr]
theorem yig {sl sl':Nat→SV} {xs:List Opd} (h:∀x∈xs,x.ev sl=x.ev sl'):xs.map (·.ev sl)=xs.map (·.ev sl'):=List.map_congr_left h
theorem ych {sl sl':Nat→SV}:∀(xs:List Opd),(∀x∈xs,x.ev sl=x.ev sl')→
  (xs.mapM fun x=>(x.ev sl).av)=(xs.mapM fun x=>(x.ev sl').av)
 | [],h=>rfl
 | x::r,h=>by
  rw [List.mapM_cons,List.mapM_cons,ych r (fun y hy=>h y (by simp [hy])),h x (by simp)]
theorem ysz {F:Caller} {draw:Bool} {rb id:Nat} {sl sl':Nat→SV} {ob:Nat→Option AObj} {fz:Nat→Nat} {nx:Nat} {op:AOp} (h:∀x∈op.opds,x.ev sl=x.ev sl'):
  evOp F draw rb id ⟨sl,ob,fz,nx⟩ op=evOp F draw rb id ⟨sl',ob,fz,nx⟩ op:=by
 cases op with
 | alloc z=>rfl
 | mkm=>rfl
 | build z ps=>simp only [evOp,yjk ps z h]
 | bslice sz z len ps=>simp only [evOp,ygm ps _ h]
 | call b f xs=>
  have hxs:=yig (xs:=xs) h
  simp only [evOp]
  rw [hxs]
 | callv x xs=>
  have hx:x.ev sl=x.ev sl':=h x (by simp [AOp.opds])
  have hxs:=yig (xs:=xs) (fun y hy=>h y (by simp [AOp.opds,hy]))
  simp only [evOp,hx]
  rw [hxs]
 | mkf f xs ys=>
  have h1:=ych xs (fun y hy=>h y (by simp [AOp.opds,hy]))
  have h2:=ych ys (fun y hy=>h y (by simp [AOp.opds,hy]))
  simp only [evOp]
  rw [h1,h2]
 | slic sz x lo hi mx=>
  have hx:x.ev sl=x.ev sl':=h x (by simp [AOp.opds])
  have e:∀(d:Nat) (y:Option Opd),(∀z,y=some z→z.ev sl=z.ev sl')→opt sl d y=opt sl' d y:=by
   intro d y hy
   cases y with
   | none=>rfl
   | some z=>simp only [opt,hy z rfl]
  have h1:∀d,opt sl d lo=opt sl' d lo:=fun d=>e d lo (fun z hz=>h z (by simp [AOp.opds,hz]))
  simp only [evOp,hx,h1]
  split
  ·cases hi with
   | none=>rfl
   | some z=>
    have h2:∀d,opt sl d (some z)=opt sl' d (some z):=fun d=>e d (some z) (fun y hz=>by cases hz;exact h z (by simp [AOp.opds]))
    simp only [h2]
    split
    ·cases mx with
     | none=>rfl
     | some y=>
      have h3:∀d,opt sl d (some y)=opt sl' d (some y):=fun d=>e d (some y) (fun y' hz=>by cases hz;exact h y (by simp [AOp.opds]))
      simp only [h3]
    ·rfl
  ·rfl
 | slcS x lo hi=>
  have hx:x.ev sl=x.ev sl':=h x (by simp [AOp.opds])
  have e:∀(d:Nat) (y:Option Opd),(∀z,y=some z→z.ev sl=z.ev sl')→opt sl d y=opt sl' d y:=by
   intro d y hy
   cases y with
   | none=>rfl
   | some z=>simp only [opt,hy z rfl]
  have h1:∀d,opt sl d lo=opt sl' d lo:=fun d=>e d lo (fun z hz=>h z (by simp [AOp.opds,hz]))
  have h2:∀d,opt sl d hi=opt sl' d hi:=fun d=>e d hi (fun z hz=>h z (by simp [AOp.opds,hz]))
  simp only [evOp,hx,h1,h2]
 | mov x | box x | load _ _ x | fadr _ x | fld _ _ _ x | un _ x | cnv _ x | len _ x | ext x _ | nilc x | eqn _ x | mclr x | mlen x | b2s x=>
  have hx:x.ev sl=x.ev sl':=h x (by simp [AOp.opds])
  simp only [evOp,hx]
 | pick c a b | mput _ c a b | mset c a b=>
  have hx:c.ev sl=c.ev sl':=h c (by simp [AOp.opds])
  have hy:a.ev sl=a.ev sl':=h a (by simp [AOp.opds])
  have hz:b.ev sl=b.ev sl':=h b (by simp [AOp.opds])
  simp only [evOp,hx,hy,hz]
 | store _ a x | iadr _ a x | iarr _ _ a x | idxA _ _ _ _ a x | idxS a x | bin _ a x | beq _ a x | eqa _ _ a x | mks _ _ _ a x | app _ _ a x | cpy _ a x | lkup _ _ _ a x | ment _ _ a x=>
  have hx:a.ev sl=a.ev sl':=h a (by simp [AOp.opds])
  have hy:x.ev sl=x.ev sl':=h x (by simp [AOp.opds])
  simp only [evOp,hx,hy]
def evE (F:Caller) (draw:Bool) (rb i:Nat) (o:AOper) (st:St):Option Eff:=match wants st.sl o.guard with
 | some true=>bif limOk st.sl o.op o.lim then evOp F draw rb (rb+i) st o.op else none
 | some false=>some (.val SV.undef)
 | none=>none
theorem yad (F:Caller) (draw:Bool) (rb i:Nat) (o:AOper) (st:St):evO F draw rb i o st=(evE F draw rb i o st).map fun e=>e.apply st (rb+i) o.dst:=by
 unfold evO evE
 cases wants st.sl o.guard with
 | none=>rfl
 | some b=>
  cases b with
  | false=>rfl
  | true=>
   cases limOk st.sl o.op o.lim with
   | true=>simp only [cond_true];cases evOp F draw rb (rb+i) st o.op<;>rfl
   | false=>rfl
theorem y9b {F:Caller} {draw:Bool} {rb i:Nat} {o:AOper} {st:St} {e:Eff} (h:evE F draw rb i o st=some e):e=.val SV.undef∨(limOk st.sl o.op o.lim=true∧evOp F draw rb (rb+i) st o.op=some e):=by
 unfold evE at h
 split at h
 ·exact .inr (y05 h)
 ·cases h;exact .inl rfl
 ·cases h
def Lim.opds:Lim→List Opd
 | .away l=>l
 | _=>[]
def AOper.reads (o:AOper):List Nat:=(o.op.opds++o.lim.opds).flatMap Opd.reads++(match o.guard with | some (j,_)=>[j] | none=>[])
theorem yc6 {sl:Nat→SV} {d:Option Nat} {v:SV} {t:Nat} (h:d≠some t):putS sl d v t=sl t:=by
 cases d with
 | none=>rfl
 | some d=>exact y9v (fun e=>h (by rw [e]))
theorem yte {sl sl':Nat→SV} {op:AOp} {lim:Lim} (h:∀x∈op.opds++lim.opds,x.ev sl=x.ev sl'):limOk sl op lim=limOk sl' op lim:=by
 cases lim with
 | no=>rfl
 | nr=>
  cases op with
  | load agg n a=>simp only [limOk,h a (by simp [AOp.opds])]
  | _=>rfl
 | row=>
  cases op with
  | store n a x=>simp only [limOk,h a (by simp [AOp.opds])]
  | _=>rfl
 | away l=>
  cases op with
  | store n a x=>
   have h2:∀i,(l.all fun y=>match (y.ev sl).boxNo with | some j=> !Nat.beq j i | none=>true)=(l.all fun y=>match (y.ev sl').boxNo with | some j=> !Nat.beq j i | none=>true):=by
    intro i
    rw [Bool.eq_iff_iff,List.all_eq_true,List.all_eq_true]
    refine forall_congr' fun y=>forall_congr' fun hy=> ?_
    rw [h y (by simp [Lim.opds,hy])]
   simp only [limOk,h a (by simp [AOp.opds])]
   cases (a.ev sl').boxNo with
   | none=>rfl
   | some i=>exact h2 i
  | _=>rfl
theorem ybu {F:Caller} {draw:Bool} {rb i:Nat} {o:AOper} {sl:Nat→SV} {ob:Nat→Option AObj} {fz:Nat→Nat} {nx:Nat} {d:Option Nat} {v:SV} (h:∀t∈o.reads,d≠some t):
  evE F draw rb i o ⟨putS sl d v,ob,fz,nx⟩=evE F draw rb i o ⟨sl,ob,fz,nx⟩:=by
 have hx:∀x∈o.op.opds++o.lim.opds,x.ev (putS sl d v)=x.ev sl:=fun x hx=>yoi fun t ht=>yc6 (h t (by simp only [AOper.reads,List.mem_append,List.mem_flatMap] at hx ⊢;exact .inl ⟨x,hx,ht⟩))
 have hg:wants (putS sl d v) o.guard=wants sl o.guard:=by
  cases hgd:o.guard with
  | none=>rfl
  | some p=>
   obtain ⟨j,want⟩:=p
   simp only [wants,yc6 (h j (by simp [AOper.reads,hgd]))]
 have ho:evOp F draw rb (rb+i) ⟨putS sl d v,ob,fz,nx⟩ o.op=evOp F draw rb (rb+i) ⟨sl,ob,fz,nx⟩ o.op:=
  ysz fun x hx'=>hx x (by simp [hx'])
 simp only [evE,hg,ho,yte hx]
theorem yiz {F:Caller} {draw:Bool} {rb i:Nat} {o:AOper} {st st':St} (hsl:st'.sl=st.sl) (h:evOp F draw rb (rb+i) st' o.op=evOp F draw rb (rb+i) st o.op):evE F draw rb i o st'=evE F draw rb i o st:=by
 simp only [evE,hsl,h]
theorem dep0 {F:Caller} {draw:Bool} {rb i:Nat} {o:AOper} (hc:o.op.cls=0) (sl:Nat→SV) (s s':Sto):
  evE F draw rb i o ⟨sl,s'.ob,s'.fz,s'.nx⟩=evE F draw rb i o ⟨sl,s.ob,s.fz,s.nx⟩:=by
 refine yiz rfl ?_
 obtain ⟨dst,op,g,lim⟩:=o
 cases op with
 | call b f xs=>cases b<;>simp [AOp.cls] at hc
 | _=>first | rfl | (simp [AOp.cls] at hc;done)
theorem yii {op:AOp} (h:op.allocs=true):op.cls=2∨op.cls=8:=by
 cases op<;>simp [AOp.allocs] at h<;>simp [AOp.cls]
theorem val0 {F:Caller} {draw:Bool} {rb i:Nat} {o:AOper} (hc:o.op.cls=0∨o.op.cls=1) {st:St} {e:Eff} (he:evE F draw rb i o st=some e):∃v,e=.val v:=by
 rcases y9b he with h | ⟨_,he⟩
 ·exact ⟨_,h⟩
 ·cases yfg he with
  | val v=>exact ⟨_,rfl⟩
  | new o' v h=>have:=yii h;omega
  | wr j o' v o'' h hc'=>omega
  | fzd fz v hc'=>omega
  | all s' v f args h hc'=>omega
theorem ypu {ob ob':Nat→Option AObj} {id ver:Nat} (h:ob' id=ob id):rowAt ob' id ver=rowAt ob id ver:=by simp only [rowAt,h]
def boxOf:Option AObj→Option (List AV)
 | some (.box cs)=>some cs
 | _=>none
theorem dep1 {F:Caller} {rb i:Nat} {o:AOper} (hc:o.op.cls=1) (sl:Nat→SV) (s s':Sto) (h:∀k,k<rb→s'.ob k=s.ob k):
  evE F true rb i o ⟨sl,s'.ob,s'.fz,s'.nx⟩=evE F true rb i o ⟨sl,s.ob,s.fz,s.nx⟩:=by
 refine yiz rfl ?_
 obtain ⟨dst,op,g,lim⟩:=o
 cases op with
 | load agg n a=>
  simp only [evOp]
  generalize a.ev sl=v
  cases v with
  | agg=>rfl
  | tup=>rfl
  | unk=>rfl
  | one x=>
   cases x with
   | box k off=>
    simp only [Bool.not_true,Bool.false_or]
    cases hb:Nat.blt k rb with
    | false=>rfl
    | true=>simp only [loadAt,h k (y77 hb)]
   | raddr k ver j off=>
    simp only [Bool.not_true,Bool.false_or]
    cases hb:Nat.blt k rb with
    | false=>rfl
    | true=>simp only [loadAt,ypu (h k (y77 hb))]
   | _=>rfl
 | lkup kt z c x y=>
  simp only [evOp]
  generalize y.ev sl=u
  cases u with
  | one u=>
   simp only
   cases keyIs kt u with
   | false=>rfl
   | true=>
    simp only [cond_true]
    generalize x.ev sl=v
    cases v with
    | one v=>
     cases v with
     | mp k=>
      simp only [Bool.not_true,Bool.false_or]
      cases hb:Nat.blt k rb with
      | false=>rfl
      | true=>simp only [h k (y77 hb)]
     | _=>rfl
    | _=>rfl
  | _=>rfl
 | mlen x=>
  simp only [evOp]
  generalize x.ev sl=v
  cases v with
  | one v=>
   cases v with
   | mp k=>
    simp only [Bool.not_true,Bool.false_or]
    cases hb:Nat.blt k rb with
    | false=>rfl
    | true=>simp only [h k (y77 hb)]
   | _=>rfl
  | _=>rfl
 | call b f xs=>cases b<;>simp [AOp.cls] at hc
 | _=>simp [AOp.cls] at hc
theorem dep5 {F:Caller} {rb i:Nat} {dst:Option Nat} {agg:Bool} {n:Nat} {a:Opd} {g:Option (Nat×Bool)} (sl:Nat→SV) (s s':Sto) (h:∀k,(a.ev sl).boxNo=some k→k<rb→boxOf (s'.ob k)=boxOf (s.ob k)):
  evE F true rb i ⟨dst,.load agg n a,g,.nr⟩ ⟨sl,s'.ob,s'.fz,s'.nx⟩=evE F true rb i ⟨dst,.load agg n a,g,.nr⟩ ⟨sl,s.ob,s.fz,s.nx⟩:=by
 unfold evE
 simp only
 cases wants sl g with
 | none=>rfl
 | some b=>
  cases b with
  | false=>rfl
  | true=>
   simp only [limOk,evOp]
   generalize a.ev sl=v at h ⊢
   cases v with
   | agg=>rfl
   | tup=>rfl
   | unk=>rfl
   | one x=>
    cases x with
    | box k off=>
     simp only [Bool.not_true,Bool.false_or]
     cases hb:Nat.blt k rb with
     | false=>rfl
     | true=>
      have hk:=h k rfl (y77 hb)
      have e:loadAt s'.ob n (.one (.box k off))=loadAt s.ob n (.one (.box k off)):=by
       simp only [loadAt]
       revert hk
       cases s'.ob k with
       | none=>cases s.ob k with
        | none=>intro _;rfl
        | some y=>cases y<;>simp [boxOf]
       | some z=>cases s.ob k with
        | none=>cases z<;>simp [boxOf]
        | some y=>
         cases y<;>cases z<;>simp [boxOf]
         intro h;rw [h]
      rw [e]
    | raddr k ver j off=>rfl
    | _=>rfl
theorem dep2 {F:Caller} {draw:Bool} {rb i:Nat} {o:AOper} (hc:o.op.cls=2) (sl:Nat→SV) (s s':Sto):
  evE F draw rb i o ⟨sl,s'.ob,s'.fz,s'.nx⟩=evE F draw rb i o ⟨sl,s.ob,s.fz,s.nx⟩:=by
 refine yiz rfl ?_
 obtain ⟨dst,op,g,lim⟩:=o
 cases op with
 | call b f xs=>cases b<;>simp [AOp.cls] at hc
 | _=>first | rfl | (simp [AOp.cls] at hc;done)
theorem new2 {F:Caller} {draw:Bool} {rb i:Nat} {o:AOper} (hc:o.op.cls=2) {st:St} {e:Eff} (he:evE F draw rb i o st=some e):(∃v,e=.val v)∨∃ob v,e=.new ob v:=by
 rcases y9b he with h | ⟨_,he⟩
 ·exact .inl ⟨_,h⟩
 ·cases yfg he with
  | val v=>exact .inl ⟨_,rfl⟩
  | new o' v h=>exact .inr ⟨_,_,rfl⟩
  | wr j o' v o'' h hc'=>omega
  | fzd fz v hc'=>omega
  | all s' v f args h hc'=>omega
theorem fzd3 {F:Caller} {draw:Bool} {rb i:Nat} {o:AOper} (hc:o.op.cls=3) {st:St} {e:Eff} (he:evE F draw rb i o st=some e):(∃v,e=.val v)∨∃fz v,e=.fzd fz v:=by
 rcases y9b he with h | ⟨_,he⟩
 ·exact .inl ⟨_,h⟩
 ·cases yfg he with
  | val v=>exact .inl ⟨_,rfl⟩
  | new o' v h=>have:=yii h;omega
  | wr j o' v o'' h hc'=>omega
  | fzd fz v hc'=>exact .inr ⟨_,_,rfl⟩
  | all s' v f args h hc'=>omega
def ObSub (ob ob':Nat→Option AObj):Prop:=∀k o,ob k=some o→ob' k=some o
theorem yeu {ob ob':Nat→Option AObj} (h:ObSub ob ob') {id ver:Nat} {r:Nat×List (List AV)} (hr:rowAt ob id ver=some r):rowAt ob' id ver=some r:=by
 unfold rowAt at hr
 split at hr
 ·rename_i sz es v e
  simp only [rowAt,h _ _ e]
  exact hr
 ·cases hr
theorem yah {α β:Type} {g g':(Nat→Nat)→α→Option ((Nat→Nat)×β)} (h:∀fz x r,g fz x=some r→g' fz x=some r):∀(xs:List α) (fz:Nat→Nat) (r:(Nat→Nat)×List β),mapFz g fz xs=some r→mapFz g' fz xs=some r
 | [],fz,r,e=>e
 | x::xs,fz,r,e=>by
  simp only [mapFz] at e ⊢
  split at e
  ·rename_i fz' y hy
   rw [h _ _ _ hy]
   split at e
   ·rename_i fz'' r' hr
    simp only [yah h xs _ _ hr]
    exact e
   ·cases e
  ·cases e
theorem yki {ob ob':Nat→Option AObj} (h:ObSub ob ob'):∀(d:Nat) (fz:Nat→Nat) (x:AV) (r:(Nat→Nat)×AV),frz ob d fz x=some r→frz ob' d fz x=some r
 | 0,fz,x,r,e=>by simp [frz] at e
 | d+1,fz,x,r,e=>by
  have ih:=yki h d
  cases x with
  | rsl id ver sz lo len full=>
   simp only [frz] at e ⊢
   split at e
   ·rename_i sz' es hrow
    rw [yeu h hrow]
    obtain ⟨hle,e⟩:=y05 e
    simp only [hle,cond_true]
    split at e
    ·rename_i fz2 es' hm
     rw [yah (fun fz x r hx=>yah ih x fz r hx) _ _ _ hm]
     exact e
    ·cases e
   ·cases e
  | fn f a b=>
   cases a with
   | cons=>simp [frz] at e
   | nil=>cases b with
    | cons=>simp [frz] at e
    | nil=>exact e
  | _=>exact e
theorem yxf {ob ob':Nat→Option AObj} (h:ObSub ob ob') (fz:Nat→Nat) (x:SV) (r:(Nat→Nat)×SV) (e:frzS ob fz x=some r):frzS ob' fz x=some r:=by
 cases x with
 | one v=>
  simp only [frzS] at e ⊢
  split at e
  ·rename_i fz' v' hf
   rw [yki h _ _ _ _ hf]
   exact e
  ·cases e
 | agg cs=>
  simp only [frzS] at e ⊢
  split at e
  ·rename_i fz' v' hf
   rw [yah (fun fz x r hx=>yki h _ fz x r hx) _ _ _ hf]
   exact e
  ·cases e
 | tup vs=>cases e
 | unk=>cases e
theorem yvr {F:Caller} {f:FuncId} {args:List SV} {ob ob':Nat→Option AObj} (h:ObSub ob ob') {fz:Nat→Nat} {e:Eff} (he:callV F f args ob fz=some e):callV F f args ob' fz=some e:=by
 unfold callV at he ⊢
 split at he
 ·rename_i fz' args' hm
  rw [yah (fun fz x r hx=>yxf h fz x r hx) _ _ _ hm]
  exact he
 ·cases he
theorem dep3 {F:Caller} {draw:Bool} {rb i:Nat} {o:AOper} (hc:o.op.cls=3) (sl:Nat→SV) (s s':Sto) (h:ObSub s.ob s'.ob) (hf:s'.fz=s.fz) {e:Eff} (he:evE F draw rb i o ⟨sl,s.ob,s.fz,s.nx⟩=some e):
  evE F draw rb i o ⟨sl,s'.ob,s'.fz,s'.nx⟩=some e:=by
 obtain ⟨dst,op,g,lim⟩:=o
 cases op with
 | call b f xs=>
  cases b with
  | true=>simp [AOp.cls] at hc
  | false=>
   unfold evE at he ⊢
   simp only at he ⊢
   cases hw:wants sl g with
   | none=>rw [hw] at he;cases he
   | some b=>
    rw [hw] at he
    cases b with
    | false=>exact he
    | true=>
     simp only at he ⊢
     obtain ⟨hl,he⟩:=y05 he
     rw [hl,cond_true]
     simp only [evOp,cond_false] at he ⊢
     rw [hf]
     exact yvr h he
 | _=>simp [AOp.cls] at hc
theorem yvj {ob ob':Nat→Option AObj} (h:ObSub ob ob') {sz:Nat} {x:SV} {es:List (List AV)} (he:elems ob sz x=some es):elems ob' sz x=some es:=by
 unfold elems at he ⊢
 split at he
 ·exact he
 ·exact he
 ·split at he
  ·rename_i hr
   simp only [yeu h hr]
   exact he
  ·cases he
 ·cases he
theorem dep8 {F:Caller} {draw:Bool} {rb i:Nat} {o:AOper} (hc:o.op.cls=8) (sl:Nat→SV) (s s':Sto) (h:ObSub s.ob s'.ob) {e:Eff} (he:evE F draw rb i o ⟨sl,s.ob,s.fz,s.nx⟩=some e):
  evE F draw rb i o ⟨sl,s'.ob,s'.fz,s'.nx⟩=some e:=by
 obtain ⟨dst,op,g,lim⟩:=o
 cases op with
 | call b f xs=>cases b<;>simp [AOp.cls] at hc
 | app sz bytes x y=>
  unfold evE at he ⊢
  simp only at he ⊢
  cases hw:wants sl g with
  | none=>rw [hw] at he;cases he
  | some b=>
   rw [hw] at he
   cases b with
   | false=>exact he
   | true=>
    simp only at he ⊢
    obtain ⟨hl,he⟩:=y05 he
    rw [hl,cond_true]
    simp only [evOp] at he ⊢
    split at he
    ·rename_i ys hys
     rw [yvj h hys]
     simp only
     split at he
     ·exact he
     ·exact he
     ·split at he
      ·rename_i hr
       simp only [yeu h hr]
       exact he
      ·cases he
     ·cases he
    ·cases he
 | _=>simp [AOp.cls] at hc
theorem app8 {F:Caller} {draw:Bool} {rb i:Nat} {o:AOper} (hc:o.op.cls=8) {st:St} {e:Eff} (he:evE F draw rb i o st=some e):
  (∃v,e=.val v)∨(∃ob v,e=.new ob v)∨∃r o1 o2 v,e=.wr r o1 v∧st.ob r=some o2∧boxOf (some o1)=none∧boxOf (some o2)=none:=by
 rcases y9b he with h | ⟨_,he⟩
 ·exact .inl ⟨_,h⟩
 ·obtain ⟨dst,op,g,lim⟩:=o
  cases op with
  | call b f xs=>cases b<;>simp [AOp.cls] at hc
  | app sz bytes x y=>
   simp only [evOp] at he
   split at he
   ·split at he
    ·split at he
     ·cases he;exact .inl ⟨_,rfl⟩
     ·obtain ⟨_,he⟩:=y05 he
      cases he;exact .inr (.inl ⟨_,_,rfl⟩)
    ·split at he
     ·cases he;exact .inl ⟨_,rfl⟩
     ·obtain ⟨_,he⟩:=y05 he
      cases he;exact .inr (.inl ⟨_,_,rfl⟩)
    ·split at he
     ·rename_i hrow
      obtain ⟨_,he⟩:=y05 he
      split at he
      ·cases he;exact .inl ⟨_,rfl⟩
      ·obtain ⟨_,he⟩:=y05 he
       rw [Bool.cond_eq_ite] at he
       split at he
       ·cases he;exact .inr (.inl ⟨_,_,rfl⟩)
       ·obtain ⟨_,he⟩:=y05 he
        cases he
        exact .inr (.inr ⟨_,_,_,_,rfl,y6w hrow,rfl,rfl⟩)
     ·cases he
    ·cases he
   ·cases he
  | _=>simp [AOp.cls] at hc
theorem row6 {F:Caller} {draw:Bool} {rb i:Nat} {dst:Option Nat} {n:Nat} {a x:Opd} {g:Option (Nat×Bool)} {st:St} {e:Eff} (he:evE F draw rb i ⟨dst,.store n a x,g,.row⟩ st=some e):
  (∃v,e=.val v)∨∃r o1 o2 v,e=.wr r o1 v∧st.ob r=some o2∧boxOf (some o1)=none∧boxOf (some o2)=none:=by
 rcases y9b he with h | ⟨hl,he⟩
 ·exact .inl ⟨_,h⟩
 ·simp only [evOp] at he
  simp only [limOk] at hl
  split at he
  ·obtain ⟨_,he⟩:=y05 he
   split at he
   ·rename_i hb;rw [hb] at hl;cases hl
   ·split at he
    ·rename_i hrow
     split at he
     ·split at he
      ·obtain ⟨_,he⟩:=y05 he
       cases he
       exact .inr ⟨_,_,_,_,rfl,y6w hrow,rfl,rfl⟩
      ·cases he
     ·cases he
    ·cases he
   ·cases he
  ·cases he
theorem box7 {F:Caller} {draw:Bool} {rb i:Nat} {dst:Option Nat} {n:Nat} {a x:Opd} {g:Option (Nat×Bool)} {l:List Opd} {st:St} {e:Eff} (he:evE F draw rb i ⟨dst,.store n a x,g,.away l⟩ st=some e):
  (∃v,e=.val v)∨∃r o1 o2 v,e=.wr r o1 v∧st.ob r=some o2∧∀y∈l,(y.ev st.sl).boxNo≠some r:=by
 rcases y9b he with h | ⟨hl,he⟩
 ·exact .inl ⟨_,h⟩
 ·simp only [evOp] at he
  simp only [limOk] at hl
  split at he
  ·obtain ⟨_,he⟩:=y05 he
   split at he
   ·rename_i r off hb
    rw [hb] at hl
    simp only [SV.boxNo,List.all_eq_true] at hl
    split at he
    ·rename_i hob
     split at he
     ·cases he
      refine .inr ⟨_,_,_,_,rfl,hob,fun y hy e=> ?_⟩
      have:=hl y hy
      unfold SV.boxNo at e
      split at e
      ·rename_i hye
       cases e
       rw [hye] at this
       simp [y5b] at this
      ·cases e
     ·cases he
    ·cases he
   ·rename_i hb;rw [hb] at hl;cases hl
   ·cases he
  ·cases he
def AOper.cl (o:AOper):Nat:=match o.lim,o.op with
 | .nr,.load ..=>5
 | .row,.store ..=>6
 | .away _,.store ..=>7
 | .no,_=>o.op.cls
 | _,_=>4
def eqOpd:Opd→Opd→Bool
 | .t i,.t j=>Nat.beq i j
 | _,_=>false
def awayOk (ld st:AOper):Bool:=match ld.op,st.lim with
 | .load _ _ a,.away l=>l.any (eqOpd a)
 | _,_=>false
def rdOk (o o':AOper):Bool:=
 (Nat.beq o.cl 1&&(Nat.beq o'.cl 1 || Nat.beq o'.cl 2 || Nat.beq o'.cl 3 || Nat.beq o'.cl 5)) ||
 (Nat.beq o.cl 5&&(Nat.beq o'.cl 1 || Nat.beq o'.cl 2 || Nat.beq o'.cl 3 || Nat.beq o'.cl 5 || Nat.beq o'.cl 6 || Nat.beq o'.cl 8 || (Nat.beq o'.cl 7&&awayOk o o')))
def clsOk (j i:AOper):Bool:=Nat.beq j.cl 0 || Nat.beq i.cl 0 || rdOk j i || rdOk i j || (Nat.beq j.cl 2&&Nat.beq i.cl 2) || (Nat.beq j.cl 3&&Nat.beq i.cl 2) || (Nat.beq j.cl 8&&Nat.beq i.cl 2)
def noneIn (d:Option Nat) (l:List Nat):Bool:=match d with | none=>true | some d=>l.all fun t=> !Nat.beq t d
def diff (d d':Option Nat):Bool:=match d,d' with | some x,some y=> !Nat.beq x y | _,_=>true
def comm (oj oi:AOper):Bool:=clsOk oj oi&&noneIn oj.dst oi.reads&&noneIn oi.dst oj.reads&&diff oi.dst oj.dst
theorem y88 {d:Option Nat} {l:List Nat} (h:noneIn d l=true):∀t∈l,d≠some t:=by
 intro t ht e
 subst e
 simp only [noneIn,List.all_eq_true] at h
 have:=h t ht
 rw [y5b] at this
 cases this
theorem yle {sl:Nat→SV} {d d':Option Nat} {x y:SV} (h:diff d d'=true):putS (putS sl d x) d' y=putS (putS sl d' y) d x:=by
 cases d with
 | none=>rfl
 | some d=>
  cases d' with
  | none=>rfl
  | some d'=>
   have hne:d≠d':=by
    intro e
    subst e
    simp [diff,y5b] at h
   funext k
   by_cases e:d=k
   ·subst e
    rw [y9v (Ne.symm hne),yal,yal]
   ·rw [y9v (d:=d) e]
    by_cases e':d'=k
    ·subst e';rw [yal,yal]
    ·rw [y9v e',y9v e',y9v e]
theorem ynb {ob:Nat→Option AObj} {i j:Nat} (h:i≠j) (x y:AObj):upd (upd ob i x) j y=upd (upd ob j y) i x:=by
 funext k
 by_cases hi:k=i
 ·subst hi
  rw [y00 h,upd_same,upd_same]
 ·rw [y00 (k:=k) (id:=i) hi]
  by_cases hj:k=j
  ·subst hj;rw [upd_same,upd_same]
  ·rw [y00 hj,y00 hj,y00 hi]
theorem y6u {o:AOper}:(o.cl=0∨o.cl=1∨o.cl=2∨o.cl=3∨o.cl=8→o.op.cls=o.cl):=by
 obtain ⟨dst,op,g,lim⟩:=o
 cases lim<;>cases op<;>simp [AOper.cl]
theorem cl5 {o:AOper} (h:o.cl=5):∃dst agg n a g,o=⟨dst,.load agg n a,g,.nr⟩:=by
 obtain ⟨dst,op,g,lim⟩:=o
 cases lim<;>cases op<;>simp [AOper.cl,AOp.cls] at h<;>first | exact ⟨_,_,_,_,_,rfl⟩ | (split at h<;>cases h)
theorem cl6 {o:AOper} (h:o.cl=6):∃dst n a x g,o=⟨dst,.store n a x,g,.row⟩:=by
 obtain ⟨dst,op,g,lim⟩:=o
 cases lim<;>cases op<;>simp [AOper.cl,AOp.cls] at h<;>first | exact ⟨_,_,_,_,_,rfl⟩ | (split at h<;>cases h)
theorem cl7 {o:AOper} (h:o.cl=7):∃dst n a x g l,o=⟨dst,.store n a x,g,.away l⟩:=by
 obtain ⟨dst,op,g,lim⟩:=o
 cases lim<;>cases op<;>simp [AOper.cl,AOp.cls] at h<;>first | exact ⟨_,_,_,_,_,_,rfl⟩ | (split at h<;>cases h)
theorem yql {F:Caller} {rb i k:Nat} {o o':AOper} (h:rdOk o o'=true) {sl:Nat→SV} {s:Sto} {e':Eff} (he':evE F true rb k o' ⟨sl,s.ob,s.fz,s.nx⟩=some e'):
  evE F true rb i o ⟨sl,(e'.sto s (rb+k)).1.ob,(e'.sto s (rb+k)).1.fz,(e'.sto s (rb+k)).1.nx⟩=evE F true rb i o ⟨sl,s.ob,s.fz,s.nx⟩:=by
 have hval:(∃v,e'=.val v)→(e'.sto s (rb+k)).1=s:=by rintro ⟨v,rfl⟩;rfl
 have hnew:(∃ob v,e'=.new ob v)→∀q,q<rb→(e'.sto s (rb+k)).1.ob q=s.ob q:=by
  rintro ⟨ob,v,rfl⟩ q hq
  exact y00 (by omega)
 have hfzd:(∃fz v,e'=.fzd fz v)→(e'.sto s (rb+k)).1.ob=s.ob:=by rintro ⟨fz,v,rfl⟩;rfl
 have low:o'.cl=1∨o'.cl=2∨o'.cl=3∨o'.cl=5→∀q,q<rb→(e'.sto s (rb+k)).1.ob q=s.ob q:=by
  rintro (c | c | c | c)
  ·rw [hval (val0 (.inr (by rw [y6u (by omega),c])) he')];exact fun _ _=>rfl
  ·rcases new2 (by rw [y6u (by omega),c]) he' with h | h
   ·rw [hval h];exact fun _ _=>rfl
   ·exact hnew h
  ·rcases fzd3 (by rw [y6u (by omega),c]) he' with h | h
   ·rw [hval h];exact fun _ _=>rfl
   ·rw [hfzd h];exact fun _ _=>rfl
  ·obtain ⟨dst,agg,n,a,g,rfl⟩:=cl5 c
   rw [hval (val0 (.inr rfl) he')];exact fun _ _=>rfl
 simp only [rdOk,Bool.or_eq_true,Bool.and_eq_true,Nat.beq_eq] at h
 rcases h with ⟨c,h⟩ | ⟨c,h⟩
 ·exact dep1 (by rw [y6u (by omega),c]) sl s _ (low (by omega))
 ·obtain ⟨dst,agg,n,a,g,rfl⟩:=cl5 c
  refine dep5 sl s _ fun q hq hlt=> ?_
  rcases (show (o'.cl=1∨o'.cl=2∨o'.cl=3∨o'.cl=5)∨o'.cl=6∨o'.cl=8∨(o'.cl=7∧awayOk ⟨dst,.load agg n a,g,.nr⟩ o'=true) by
   rcases h with (((((h | h) | h) | h) | h) | h) | h
   ·exact .inl (.inl h)
   ·exact .inl (.inr (.inl h))
   ·exact .inl (.inr (.inr (.inl h)))
   ·exact .inl (.inr (.inr (.inr h)))
   ·exact .inr (.inl h)
   ·exact .inr (.inr (.inl h))
   ·exact .inr (.inr (.inr h))) with h | h | h | ⟨h,hw⟩
  ·rw [low h q hlt]
  ·obtain ⟨dst',n',a',x',g',rfl⟩:=cl6 h
   rcases row6 he' with hv | ⟨r,o1,o2,v,rfl,hr,b1,b2⟩
   ·rw [hval hv]
   ·by_cases e:q=r
    ·subst e
     simp only at hr
     simp only [Eff.sto,upd_same,b1,hr,b2]
    ·simp only [Eff.sto,y00 e]
  ·rcases app8 (by rw [y6u (by omega),h]) he' with hv | hn | ⟨r,o1,o2,v,rfl,hr,b1,b2⟩
   ·rw [hval hv]
   ·rw [hnew hn q hlt]
   ·by_cases e:q=r
    ·subst e
     simp only at hr
     simp only [Eff.sto,upd_same,b1,hr,b2]
    ·simp only [Eff.sto,y00 e]
  ·obtain ⟨dst',n',a',x',g',l,rfl⟩:=cl7 h
   rcases box7 he' with hv | ⟨r,o1,o2,v,rfl,hr,haw⟩
   ·rw [hval hv]
   ·have hne:q≠r:=by
     intro e
     subst e
     simp only [awayOk,List.any_eq_true] at hw
     obtain ⟨y,hy,hay⟩:=hw
     have:a=y:=by
      unfold eqOpd at hay
      split at hay
      ·rw [Nat.eq_of_beq_eq_true hay]
      ·cases hay
     subst this
     exact haw a hy hq
    simp only [Eff.sto,y00 hne]
theorem yta {F:Caller} {rb i:Nat} {o:AOper} (h:o.cl=1∨o.cl=5) {st:St} {e:Eff} (he:evE F true rb i o st=some e):∃v,e=.val v:=by
 rcases h with h | h
 ·exact val0 (.inr (by rw [y6u (by omega),h])) he
 ·obtain ⟨dst,agg,n,a,g,rfl⟩:=cl5 h
  exact val0 (.inr rfl) he
theorem yrp {o o':AOper} (h:rdOk o o'=true):o.cl=1∨o.cl=5:=by
 simp only [rdOk,Bool.or_eq_true,Bool.and_eq_true,Nat.beq_eq] at h
 rcases h with ⟨c,_⟩ | ⟨c,_⟩
 ·exact .inl c
 ·exact .inr c
theorem yxd {s:Sto} {i j:Nat} (hij:i≠j) (hfree:s.ob i=none) {ej ei:Eff}
  (hcls:(∃v,ej=.val v)∨(∃v,ei=.val v)∨(((∃o v,ej=.new o v)∨(∃fz v,ej=.fzd fz v)∨∃r o1 o2 v,ej=.wr r o1 v∧s.ob r=some o2)∧∃o v,ei=.new o v)):
  (ei.sto s i).2=(ei.sto (ej.sto s j).1 i).2∧(ej.sto (ei.sto s i).1 j)=((ei.sto (ej.sto s j).1 i).1,(ej.sto s j).2):=by
 rcases hcls with ⟨v,rfl⟩ | ⟨v,rfl⟩ | ⟨⟨o,v,rfl⟩ | ⟨fz,v,rfl⟩ | ⟨r,o1,o2,v,rfl,hr⟩,o',v',rfl⟩
 ·exact ⟨rfl,rfl⟩
 ·exact ⟨rfl,rfl⟩
 ·exact ⟨rfl,by simp only [Eff.sto,ynb hij]⟩
 ·exact ⟨rfl,rfl⟩
 ·have hne:i≠r:=fun e=>by rw [e,hr] at hfree;cases hfree
  exact ⟨rfl,by simp only [Eff.sto,ynb hne]⟩
theorem ypm {F:Caller} {rb i j:Nat} (hij:i≠j) {oi oj:AOper} (hc:comm oj oi=true) {st st1 st2:St} (hfree:oi.op.allocs=true→st.ob (rb+i)=none) (h1:evO F true rb j oj st=some st1) (h2:evO F true rb i oi st1=some st2):
  ∃st1',evO F true rb i oi st=some st1'∧evO F true rb j oj st1'=some st2:=by
 simp only [comm,Bool.and_eq_true] at hc
 obtain ⟨⟨⟨hcls,hri⟩,hrj⟩,hd⟩:=hc
 have hri:=y88 hri
 have hrj:=y88 hrj
 obtain ⟨sl,ob,fz,nx⟩:=st
 rw [yad,Option.map_eq_some_iff] at h1
 obtain ⟨ej,hej,rfl⟩:=h1
 rw [yad,Option.map_eq_some_iff] at h2
 obtain ⟨ei,hei,rfl⟩:=h2
 simp only [Eff.apply,St.sto] at hei hfree
 rw [ybu hri] at hei
 let s:Sto:=⟨ob,fz,nx⟩
 have hej':evE F true rb j oj ⟨sl,s.ob,s.fz,s.nx⟩=some ej:=hej
 have key:evE F true rb i oi ⟨sl,s.ob,s.fz,s.nx⟩=some ei∧evE F true rb j oj ⟨sl,(ei.sto s (rb+i)).1.ob,(ei.sto s (rb+i)).1.fz,(ei.sto s (rb+i)).1.nx⟩=some ej∧
   ((∃v,ej=.val v)∨(∃v,ei=.val v)∨((((∃o v,ej=.new o v)∨(∃fz v,ej=.fzd fz v)∨∃r o1 o2 v,ej=.wr r o1 v∧s.ob r=some o2)∧∃o v,ei=.new o v)∧s.ob (rb+i)=none)):=by
  have hval:∀{e:Eff} {k:Nat},(∃v,e=.val v)→(e.sto s k).1=s:=by rintro e k ⟨v,rfl⟩;rfl
  have hsub:(∃o v,ei=.new o v)→s.ob (rb+i)=none→ObSub s.ob (ei.sto s (rb+i)).1.ob∧(ei.sto s (rb+i)).1.fz=s.fz:=by
   rintro ⟨o,v,rfl⟩ hn
   exact ⟨fun q x hx=>(y00 (fun e=>by rw [e,hn] at hx;cases hx)).trans hx,rfl⟩
  have hal:oi.op.cls=2→s.ob (rb+i)=none:=by
   intro h
   refine hfree ?_
   obtain ⟨dst,op,g,lim⟩:=oi
   cases op with
   | call b f xs=>cases b<;>simp [AOp.cls] at h
   | _=>first | rfl | (simp [AOp.cls] at h;done)
  simp only [clsOk,Bool.or_eq_true,Bool.and_eq_true,Nat.beq_eq] at hcls
  rcases hcls with (((((c | c) | c) | c) | ⟨c,c'⟩) | ⟨c,c'⟩) | ⟨c,c'⟩
  ·have hc0:oj.op.cls=0:=by rw [y6u (by omega),c]
   have hv:=val0 (.inl hc0) hej
   refine ⟨?_,by rw [dep0 hc0 sl s];exact hej,.inl hv⟩
   rw [show (ej.sto ⟨ob,fz,nx⟩ (rb+j)).1=s from hval hv] at hei
   exact hei
  ·have hc0:oi.op.cls=0:=by rw [y6u (by omega),c]
   rw [dep0 hc0 sl s] at hei
   have hv:=val0 (.inl hc0) hei
   exact ⟨hei,by rw [hval hv];exact hej,.inr (.inl hv)⟩
  ·have hv:=yta (yrp c) hej
   rw [show (ej.sto ⟨ob,fz,nx⟩ (rb+j)).1=s from hval hv] at hei
   exact ⟨hei,by rw [yql c hei];exact hej,.inl hv⟩
  ·have e:=yql (i:=i) c hej'
   rw [show evE F true rb i oi ⟨sl,(ej.sto ⟨ob,fz,nx⟩ (rb+j)).1.ob,(ej.sto ⟨ob,fz,nx⟩ (rb+j)).1.fz,(ej.sto ⟨ob,fz,nx⟩ (rb+j)).1.nx⟩=_ from e] at hei
   have hv:=yta (yrp c) hei
   exact ⟨hei,by rw [hval hv];exact hej,.inr (.inl hv)⟩
  ·have h2j:oj.op.cls=2:=by rw [y6u (by omega),c]
   have h2i:oi.op.cls=2:=by rw [y6u (by omega),c']
   rw [dep2 h2i sl s] at hei
   refine ⟨hei,by rw [dep2 h2j sl s];exact hej, ?_⟩
   rcases new2 h2j hej with h | h
   ·exact .inl h
   ·rcases new2 h2i hei with h' | h'
    ·exact .inr (.inl h')
    ·exact .inr (.inr ⟨⟨.inl h,h'⟩,hal h2i⟩)
  ·have h3j:oj.op.cls=3:=by rw [y6u (by omega),c]
   have h2i:oi.op.cls=2:=by rw [y6u (by omega),c']
   rw [dep2 h2i sl s] at hei
   refine ⟨hei, ?_, ?_⟩
   ·rcases new2 h2i hei with h' | h'
    ·rw [hval h'];exact hej
    ·obtain ⟨q1,q2⟩:=hsub h' (hal h2i)
     exact dep3 h3j sl s _ q1 q2 hej
   ·rcases fzd3 h3j hej with h | h
    ·exact .inl h
    ·rcases new2 h2i hei with h' | h'
     ·exact .inr (.inl h')
     ·exact .inr (.inr ⟨⟨.inr (.inl h),h'⟩,hal h2i⟩)
  ·have h8j:oj.op.cls=8:=by rw [y6u (by omega),c]
   have h2i:oi.op.cls=2:=by rw [y6u (by omega),c']
   rw [dep2 h2i sl s] at hei
   refine ⟨hei, ?_, ?_⟩
   ·rcases new2 h2i hei with h' | h'
    ·rw [hval h'];exact hej
    ·exact dep8 h8j sl s _ (hsub h' (hal h2i)).1 hej
   ·rcases app8 h8j hej with h | h | ⟨r,o1,o2,v,h,hr,_,_⟩
    ·exact .inl h
    ·rcases new2 h2i hei with h' | h'
     ·exact .inr (.inl h')
     ·exact .inr (.inr ⟨⟨.inl h,h'⟩,hal h2i⟩)
    ·rcases new2 h2i hei with h' | h'
     ·exact .inr (.inl h')
     ·exact .inr (.inr ⟨⟨.inr (.inr ⟨r,o1,o2,v,h,hr⟩),h'⟩,hal h2i⟩)
 obtain ⟨k1,k3,k2⟩:=key
 have hst:(ei.sto s (rb+i)).2=(ei.sto (ej.sto s (rb+j)).1 (rb+i)).2∧(ej.sto (ei.sto s (rb+i)).1 (rb+j))=((ei.sto (ej.sto s (rb+j)).1 (rb+i)).1,(ej.sto s (rb+j)).2):=by
  rcases k2 with ⟨v,rfl⟩ | ⟨v,rfl⟩ | ⟨h,hn⟩
  ·exact ⟨rfl,rfl⟩
  ·exact ⟨rfl,rfl⟩
  ·exact yxd (by omega) hn (.inr (.inr h))
 refine ⟨ei.apply ⟨sl,ob,fz,nx⟩ (rb+i) oi.dst, ?_, ?_⟩
 ·rw [yad]
  exact Option.map_eq_some_iff.2 ⟨ei,k1,rfl⟩
 ·rw [yad]
  refine Option.map_eq_some_iff.2 ⟨ej, ?_, ?_⟩
  ·simp only [Eff.apply]
   rw [ybu hrj]
   exact k3
  ·simp only [Eff.apply,St.sto]
   have e2:ej.sto (ei.sto ⟨ob,fz,nx⟩ (rb+i)).1 (rb+j)=_:=hst.2
   have e1:(ei.sto ⟨ob,fz,nx⟩ (rb+i)).2=_:=hst.1
   rw [e1,e2,yle hd]
end Go.Ev
namespace Go.Ev
variable [Cd]
def evRem (F:Caller) (rb:Nat) (aos:List AOper):List Nat→St→Option St
 | [],st=>some st
 | j::r,st=>match aos[j]? with
  | some o=>match evO F true rb j o st with
   | some st'=>evRem F rb aos r st'
   | none=>none
  | none=>none
theorem yis {F:Caller} (hF:FreshF F) {rb:Nat} {aos:List AOper} {i:Nat} {oi:AOper} (hi:aos[i]? =some oi) {l2:List Nat}:∀(l1:List Nat) (st stF:St),evRem F rb aos (l1++i::l2) st=some stF→
  (∀j∈l1,j≠i∧∀oj,aos[j]? =some oj→comm oj oi=true)→(oi.op.allocs=true→st.ob (rb+i)=none∧rb+i<st.nx)→(∀j∈l1,∀oj,aos[j]? =some oj→oj.op.allocs=true→rb+j<st.nx)→
   ∃st',evO F true rb i oi st=some st'∧evRem F rb aos (l1++l2) st'=some stF
 | [],st,stF,h,_,_,_=>by
  simp only [List.nil_append,evRem,hi] at h
  split at h
  ·rename_i st' hst
   exact ⟨st',hst,h⟩
  ·cases h
 | j::l1,st,stF,h,hc,hfr,hnx=>by
  simp only [List.cons_append,evRem] at h
  split at h
  ·rename_i oj hj
   split at h
   ·rename_i st1 hst1
    obtain ⟨hne,hcm⟩:=hc j (by simp)
    have hf:=y8k hF hst1 (hnx j (by simp) oj hj)
    obtain ⟨st2,h2,h3⟩:=yis hF hi l1 st1 stF h (fun k hk=>hc k (by simp [hk]))
     (fun hal=>⟨hf.old _ (hfr hal).2 (by omega) (hfr hal).1,Nat.lt_of_lt_of_le (hfr hal).2 hf.le⟩) (fun k hk ok hok hal=>Nat.lt_of_lt_of_le (hnx k (by simp [hk]) ok hok hal) hf.le)
    obtain ⟨st1',q1,q2⟩:=ypm (Ne.symm hne) (hcm oj hj) (fun hal=>(hfr hal).1) hst1 h2
    exact ⟨st1',q1,by simp only [List.cons_append,evRem,hj,q2];exact h3⟩
   ·cases h
  ·cases h
theorem ygj {F:Caller} {rb:Nat} {aos:List AOper}:∀(l:List AOper) (k:Nat),(∀j o,l[j]? =some o→aos[k+j]? =some o)→∀(st:St),evRem F rb aos (List.range' k l.length) st=evOps F true rb k l st
 | [],k,h,st=>rfl
 | o::l,k,h,st=>by
  rw [List.length_cons,List.range'_succ]
  have h0:=h 0 o (by simp)
  simp only [Nat.add_zero] at h0
  simp only [evRem,evOps,h0]
  cases evO F true rb k o st with
  | none=>rfl
  | some st1=>
   exact ygj l (k+1) (fun j o hj=>by
    have:=h (j+1) o (by simpa using hj)
    rwa [show k+(j+1)=k+1+j by omega] at this) _
def deps (o:Oper):List Nat:=(o.after.toList.filter (Region.binds .any)).map (·.on)
def addDeps (acc:List Nat) (ds:List Nat):Nat:=ds.foldl (fun m d=>m ||| 2^d ||| acc.getD d 0) 0
def ancs:List Oper→List Nat→List Nat
 | [],acc=>acc
 | o::r,acc=>ancs r (acc++[addDeps acc (deps o)])
def pairsOk (anc:List Nat) (aos:List AOper):List Nat→Bool
 | []=>true
 | i::r=>((List.range i).all fun j=>Nat.testBit (anc.getD i 0) j || comm (aos.getD j default) (aos.getD i default))&&pairsOk anc aos r
def belowOk:Nat→List Oper→Bool
 | _,[]=>true
 | k,o::r=>(deps o).all (Nat.blt · k)&&belowOk (k+1) r
def drawOk (ops:List Oper) (aos:List AOper):Bool:=belowOk 0 ops&&pairsOk (ancs ops []) aos (List.range ops.length)
theorem ycz {o:Oper} {d:Nat}:d∈deps o↔∃e∈o.after,Region.binds .any e=true∧e.on=d:=by
 simp [deps,and_assoc]
theorem yb4:∀{l:List Oper} {k:Nat},belowOk k l=true→∀(j:Nat) (o:Oper),l[j]? =some o→∀d∈deps o,d<k+j
 | [],k,h,j,o,hj,d,hd=>by simp at hj
 | x::l,k,h,j,o,hj,d,hd=>by
  simp only [belowOk,Bool.and_eq_true,List.all_eq_true] at h
  cases j with
  | zero=>simp at hj;subst hj;exact y77 (h.1 d hd)
  | succ j=>
   simp at hj
   have:=yb4 h.2 j o hj d hd
   omega
theorem yew {anc:List Nat} {aos:List AOper}:∀{l:List Nat},pairsOk anc aos l=true→∀i∈l,∀j,j<i→Nat.testBit (anc.getD i 0) j=true∨comm (aos.getD j default) (aos.getD i default)=true
 | [],h,i,hi,j,hj=>by simp at hi
 | x::l,h,i,hi,j,hj=>by
  simp only [pairsOk,Bool.and_eq_true,List.all_eq_true,List.mem_range,Bool.or_eq_true] at h
  rcases List.mem_cons.1 hi with rfl | hi
  ·exact h.1 j hj
  ·exact yew h.2 i hi j hj
section
variable {ops:List Oper} {L:Nat→Bool}
theorem yf5 {acc:List Nat}:∀(ds:List Nat) (m0:Nat),(∀j,m0.testBit j=true→L j=true)→(∀d∈ds,L d=true∧∀m:Nat,acc[d]? =some m→∀j,m.testBit j=true→L j=true)→
  ∀j,(ds.foldl (fun m d=>m ||| 2^d ||| acc.getD d 0) m0).testBit j=true→L j=true
 | [],m0,h0,_,j,hj=>h0 j hj
 | d::ds,m0,h0,hd,j,hj=>by
  refine yf5 ds _ ?_ (fun d' hd'=>hd d' (by simp [hd'])) j hj
  intro k hk
  obtain ⟨h1,h2⟩:=hd d (by simp)
  rw [Nat.testBit_or,Nat.testBit_or,Nat.testBit_two_pow] at hk
  simp only [Bool.or_eq_true,decide_eq_true_eq] at hk
  rcases hk with (hk | hk) | hk
  ·exact h0 k hk
  ·rw [←hk];exact h1
  ·cases ha:acc[d]? with
   | none=>simp [List.getD,ha] at hk
   | some m=>
    simp only [List.getD,ha,Option.getD_some] at hk
    exact h2 m ha k hk
theorem yf7 (hcl:∀(k:Nat) (o:Oper),ops[k]? =some o→L k=true→∀d∈deps o,L d=true):
  ∀(r:List Oper) (acc:List Nat),(∃pre,ops=pre++r∧pre.length=acc.length)→(∀(k:Nat) (o:Oper) (m:Nat),ops[k]? =some o→acc[k]? =some m→(∀d∈deps o,L d=true)→∀j,m.testBit j=true→L j=true)→
   ∀(k:Nat) (o:Oper) (m:Nat),ops[k]? =some o→(ancs r acc)[k]? =some m→(∀d∈deps o,L d=true)→∀j,m.testBit j=true→L j=true
 | [],acc,_,h=>h
 | x::r,acc,⟨pre,hp,hl⟩,h=>by
  refine yf7 hcl r (acc++[addDeps acc (deps x)]) ⟨pre++[x],by simp [hp],by simp [hl]⟩ ?_
  intro k o m hk hm hd j hj
  rw [List.getElem?_append] at hm
  split at hm
  ·exact h k o m hk hm hd j hj
  ·have hk':k=acc.length:=by
    have:=(List.getElem?_eq_some_iff.1 hm).1
    simp at this
    omega
   subst hk'
   simp at hm
   subst hm
   have hox:o=x:=by
    rw [hp,List.getElem?_append_right (by omega),←hl] at hk
    simpa using hk.symm
   subst hox
   refine yf5 (deps o) 0 (by simp) ?_ j hj
   intro d hd'
   have hLd:=hd d hd'
   refine ⟨hLd,fun m hm j hj=> ?_⟩
   have hlt:d<ops.length:=by
    have:=(List.getElem?_eq_some_iff.1 hm).1
    rw [hp,List.length_append]
    omega
   exact h d ops[d] m (by simp [hlt]) hm (hcl d ops[d] (by simp [hlt]) hLd) j hj
end
section
variable {P:Program} {br:FuncId→Bool} {F:Caller} {rb:Nat} {B:Nat} {w0:World} {ok0:Nat→Nat→Prop} {s0:Sto} {G0:Nat→GB} {D:List Deferred} {nt:Nat} {ro:Option Nat} {n:Nat}
def rem (m:Nat) (listed:Array Bool):List Nat:=(List.range m).filter fun j=> !listed.getD j true
theorem yzq {m:Nat} {listed:Array Bool} (hs:listed.size=m) {i:Nat} {l1 l2:List Nat} (h:rem m listed=l1++i::l2):rem m (listed.setIfInBounds i true)=l1++l2∧(∀j∈l1,j<i)∧i<m:=by
 have hmem:∀j,j∈rem m listed↔j<m∧listed.getD j true=false:=by
  intro j
  simp only [rem,List.mem_filter,List.mem_range,Bool.not_eq_true']
 have hp:(rem m listed).Pairwise (·<·):=List.Pairwise.filter _ List.pairwise_lt_range
 have hi:=(hmem i).1 (by rw [h];simp)
 rw [h,List.pairwise_append,List.pairwise_cons] at hp
 obtain ⟨hp1,⟨hp2,hp3⟩,hp4⟩:=hp
 have hlt:∀j∈l1,j<i:=fun j hj=>hp4 j hj i (by simp)
 refine ⟨?_,hlt,hi.1⟩
 have e:rem m (listed.setIfInBounds i true)=(rem m listed).filter (fun j=> !Nat.beq j i):=by
  simp only [rem,List.filter_filter]
  refine List.filter_congr fun j hj=> ?_
  have hj:=List.mem_range.1 hj
  by_cases e:i=j
  ·subst e
   simp [y5b,Array.getD_eq_getD_getElem?,hs,hj]
  ·rw [getD_set_ne true e,y8j (Ne.symm e)]
   simp
 rw [e,h,List.filter_append,List.filter_cons,y5b]
 simp only [Bool.not_true,Bool.false_eq_true,if_false]
 rw [List.filter_eq_self.2 (fun j hj=>by rw [y8j (by have:=hlt j hj;omega)];rfl),List.filter_eq_self.2 (fun j hj=>by rw [y8j (by have:=hp2 j hj;omega)];rfl)]
theorem yuz (hC:Sound P F) (hF:FreshF F) (hB:B≤w0.heap.size) {ops:Array Oper} {aos:List AOper} (hlen:aos.length=ops.size) (hco:∀(j:Nat) (ao:AOper),aos[j]? =some ao→∃o,ops[j]? =some o∧cOper P br nt ops ao.lim o=some ao)
  (hd:drawOk ops.toList aos=true) {stF:St} {Q:Exit→Act→World→Prop} (hQ:∀a w,SR B w0 ok0 s0 G0 D nt stF a w→Q .normal a w):
  ∀(fuel:Nat) (listed:Array Bool) (st:St) (a:Act) (w:World),listed.size=ops.size→(∀(k:Nat) (o:Oper),ops.toList[k]? =some o→listed.getD k false=true→∀d∈deps o,listed.getD d false=true)→
   (rem ops.size listed).length≤fuel→SR B w0 ok0 s0 G0 D nt st a w→(∀k,st.nx≤k→st.ob k=none)→(∀j∈rem ops.size listed,∀o,aos[j]? =some o→o.op.allocs=true→st.ob (rb+j)=none∧rb+j<st.nx)→evRem F rb aos (rem ops.size listed) st=some stF→wpAnyIn (WF ro) n P .any ops Q fuel listed a w:=by
 simp only [drawOk,Bool.and_eq_true] at hd
 obtain ⟨hbelow,hpairs⟩:=hd
 have hrem:∀(listed:Array Bool) i,i∈Region.ready .any ops listed→i∈rem ops.size listed:=by
  intro listed i hi
  obtain ⟨h1,o,h2,_⟩:=mem_ready.1 hi
  simp only [rem,List.mem_filter,List.mem_range,Bool.not_eq_true']
  exact ⟨(Array.getElem?_eq_some_iff.1 h2).1,h1⟩
 have hdone:∀(listed:Array Bool) (st:St) (a:Act) (w:World),listed.size=ops.size→Region.ready .any ops listed=[]→SR B w0 ok0 s0 G0 D nt st a w→evRem F rb aos (rem ops.size listed) st=some stF→Q .normal a w:=by
  intro listed st a w hs hr hR he
  cases hl:rem ops.size listed with
  | nil=>
   rw [hl] at he
   simp only [evRem,Option.some.injEq] at he
   subst he
   exact hQ _ _ hR
  | cons i l2=>
   exfalso
   have hi:i∈rem ops.size listed:=by rw [hl];simp
   have hi2:=hi
   simp only [rem,List.mem_filter,List.mem_range,Bool.not_eq_true'] at hi2
   have hready:i∈Region.ready .any ops listed:=by
    refine mem_ready.2 ⟨hi2.2,ops[i],by simp [hi2.1],fun e he hb=> ?_⟩
    have hlt:=yb4 hbelow i ops[i] (by simp [hi2.1]) e.on (ycz.2 ⟨e,he,hb,rfl⟩)
    have hnot:e.on ∉ rem ops.size listed:=by
     intro hm
     have hp:(rem ops.size listed).Pairwise (·<·):=List.Pairwise.filter _ List.pairwise_lt_range
     rw [hl] at hp hm
     rcases List.mem_cons.1 hm with h | h
     ·omega
     ·have:=(List.pairwise_cons.1 hp).1 _ h
      omega
    simp only [rem,List.mem_filter,List.mem_range,Bool.not_eq_true',not_and] at hnot
    have hlt2:e.on<ops.size:=by omega
    have:=hnot hlt2
    simpa [Array.getD_eq_getD_getElem?,hs,hlt2] using this
   rw [hr] at hready
   cases hready
 intro fuel
 induction fuel with
 | zero=>
  intro listed st a w hs hcl hf hR hFr hfr he
  have hr:Region.ready .any ops listed=[]:=by
   cases h:Region.ready .any ops listed with
   | nil=>rfl
   | cons i r=>
    have:=hrem listed i (by rw [h];simp)
    rw [List.length_eq_zero_iff.1 (Nat.le_zero.1 hf)] at this
    cases this
  exact ⟨hr,hdone listed st a w hs hr hR he⟩
 | succ fuel ih=>
  intro listed st a w hs hcl hf hR hFr hfr he
  refine ⟨fun hr=>hdone listed st a w hs hr hR he,fun i hi=> ?_⟩
  obtain ⟨l1,l2,hl⟩:=List.append_of_mem (hrem listed i hi)
  obtain ⟨hset,hlt,him⟩:=yzq hs hl
  obtain ⟨hun,o,hoi,hready⟩:=mem_ready.1 hi
  have hial:i<aos.length:=by rw [hlen];exact him
  have haoi:aos[i]? =some aos[i]:=by simp [hial]
  obtain ⟨o',ho',hcoi⟩:=hco i aos[i] haoi
  rw [hoi] at ho'
  cases ho'
  rw [hl] at he
  have hdeps:∀d∈deps o,listed.getD d false=true:=by
   intro d hd
   obtain ⟨e,he,hb,rfl⟩:=ycz.1 hd
   exact hready e he hb
  have hfri:=hfr i (hrem listed i hi) aos[i] haoi
  obtain ⟨st',hst',hrest⟩:=yis hF haoi l1 st stF he (by
   intro j hj
   have hji:=hlt j hj
   refine ⟨by omega,fun oj hoj=> ?_⟩
   rcases yew hpairs i (by simp;exact him) j hji with hb | hb
   ·exfalso
    have hjrem:j∈rem ops.size listed:=by rw [hl];simp [hj]
    simp only [rem,List.mem_filter,List.mem_range,Bool.not_eq_true'] at hjrem
    have hjl:listed.getD j false=true:=by
     cases hm:(ancs ops.toList [])[i]? with
     | none=>simp [List.getD,hm] at hb
     | some m=>
      simp only [List.getD,hm,Option.getD_some] at hb
      exact yf7 (ops:=ops.toList) (L:=fun k=>listed.getD k false) hcl ops.toList [] ⟨[],rfl,rfl⟩ (by simp) i o m (by simpa using hoi) hm hdeps j hb
    have:j<listed.size:=by rw [hs];exact hjrem.1
    simp [Array.getD_eq_getD_getElem?,this] at hjl hjrem
    rw [hjl] at hjrem
    simp at hjrem
   ·simpa [List.getD,hoj,haoi] using hb) hfri (fun j hj oj hoj hal=>(hfr j (by rw [hl];simp [hj]) oj hoj hal).2)
  have hfresh:=y8k hF hst' (fun hal=>(hfri hal).2)
  unfold wpOpIn
  simp only [hoi]
  refine yoc hC hB hR hFr hcoi (fun hal=>(hfri hal).1) hst' fun a' w' hR'=> ?_
  refine ih _ st' a' w' (by simp [hs]) ?_ ?_ hR' (hfresh.new hFr) ?_ (by rw [hset];exact hrest)
  ·intro k ok hk hkl d hd
   by_cases hki:k=i
   ·subst hki
    have:ok=o:=by
     rw [Array.getElem?_toList] at hk
     rw [hoi] at hk
     exact (Option.some.inj hk).symm
    subst this
    exact getD_set_true (hdeps d hd)
   ·rw [getD_set_ne false (Ne.symm hki)] at hkl
    exact getD_set_true (hcl k ok hk hkl d hd)
  ·rw [hset]
   rw [hl] at hf
   simp at hf ⊢
   omega
  ·rw [hset]
   intro j hj oj hoj hal
   have hjm:j∈rem ops.size listed:=by rw [hl];rcases List.mem_append.1 hj with h | h<;>simp [h]
   have hji:j≠i:=by
    have hp:(rem ops.size listed).Pairwise (·<·):=List.Pairwise.filter _ List.pairwise_lt_range
    rw [hl,List.pairwise_append,List.pairwise_cons] at hp
    rcases List.mem_append.1 hj with h | h
    ·have:=hlt j h;omega
    ·have:=hp.2.1.1 j h;omega
   obtain ⟨h1,h2⟩:=hfr j hjm oj hoj hal
   exact ⟨hfresh.old _ h2 (by omega) h1,Nat.lt_of_lt_of_le h2 hfresh.le⟩
end
theorem yd4 {α:Type} {f:α→α→Bool} (hf:∀x y,f x y=true→x=y):∀(l l':List α),same2 f l l'=true→l=l'
 | [],[],_=>rfl
 | [],_::_,h=>by cases h
 | _::_,[],h=>by cases h
 | x::r,y::s,h=>by
  simp only [same2,Bool.and_eq_true] at h
  rw [hf x y h.1,yd4 hf r s h.2]
theorem ypg:∀(d:Nat) (a b:AV),sameA d a b=true→a=b
 | 0,a,b,h=>by cases h
 | d+1,a,b,h=>by
  have ih:=ypg d
  have ih2:=yd4 ih
  have ih3:=yd4 ih2
  cases a<;>cases b<;>simp only [sameA,Bool.false_eq_true,Bool.and_eq_true,decide_eq_true_eq,Nat.beq_eq,beq_iff_eq] at h<;>first | rfl | (obtain ⟨h1,h2⟩:=h;rw [h1,h2]) | (rw [h]) | (obtain ⟨h1,h2⟩:=h;rw [h1,ih3 _ _ h2]) | (obtain ⟨⟨h1,h2⟩,h3⟩:=h;rw [h1,ih2 _ _ h2,ih2 _ _ h3]) | (obtain ⟨⟨⟨h1,h2⟩,h3⟩,h4⟩:=h;rw [h1,h2,h3,h4]) | (obtain ⟨⟨⟨⟨⟨h1,h2⟩,h3⟩,h4⟩,h5⟩,h6⟩:=h;rw [h1,h2,h3,h4,h5,h6])
theorem ygn {st st':St}:∀{ks:List (Nat×Opd)},keepOk st st' ks=true→∀p∈ks,loadAt st'.ob p.1 (p.2.ev st.sl)=loadAt st.ob p.1 (p.2.ev st.sl)
 | [],_,p,hp=>by cases hp
 |(n,a)::r,h,p,hp=>by
  simp only [keepOk,Bool.and_eq_true] at h
  rcases List.mem_cons.1 hp with rfl | hp
  ·have h1:=h.1
   split at h1
   ·rename_i x y e1 e2
    simp only
    rw [e1,e2,yd4 (ypg DEPTH) _ _ h1]
   ·cases h1
  ·exact ygn h.2 p hp
abbrev PStep:=Nat×List (Nat×Opd)
def lightOk (ks:List (Nat×Opd)) (oj oi:AOper):Bool:=
 noneIn oj.dst oi.reads&&noneIn oi.dst oj.reads&&diff oi.dst oj.dst&&noneIn oj.dst oj.reads&&
 (Nat.beq oj.cl 0 || (match oj.op,oj.lim with
  | .load _ n a,.no=>ks.any fun p=>Nat.beq p.1 n&&eqOpd p.2 a
  | _,_=>false))
def sideOk (ks:List (Nat×Opd)) (oj oi:AOper):Bool:=match ks with
 | []=>comm oj oi
 | k::r=>lightOk (k::r) oj oi
def pairOk (ops:List Oper) (anc:List Nat) (aos:List AOper) (p q:PStep):Bool:=
 !Nat.beq p.1 q.1&& !memN q.1 (deps (ops.getD p.1 default))&&(Nat.beq (aos.getD p.1 default).cl 0 || noneIn (aos.getD q.1 default).dst (aos.getD p.1 default).reads)&&
 (Nat.testBit (anc.getD q.1 0) p.1 || (p.2.isEmpty&&sideOk q.2 (aos.getD p.1 default) (aos.getD q.1 default)))
def pairsP (ops:List Oper) (anc:List Nat) (aos:List AOper):List PStep→Bool
 | []=>true
 | p::r=>r.all (pairOk ops anc aos p)&&pairsP ops anc aos r
def permOk (ops:List Oper) (aos:List AOper) (pm:List PStep):Bool:=
 Nat.ble pm.length ops.length&&belowOk 0 ops&&(List.range ops.length).all (fun j=>pm.any fun p=>Nat.beq p.1 j)&&pm.all (fun p=>Nat.blt p.1 ops.length)&&pairsP ops (ancs ops []) aos pm
theorem ygy {ops:List Oper} {anc:List Nat} {aos:List AOper}:∀{l:List PStep},pairsP ops anc aos l=true→l.Pairwise fun p q=>pairOk ops anc aos p q=true
 | [],_=>List.Pairwise.nil
 | p::r,h=>by
  simp only [pairsP,Bool.and_eq_true,List.all_eq_true] at h
  exact List.Pairwise.cons h.1 (ygy h.2)
theorem yli {F:Caller} (hF:FreshF F) {rb:Nat} {aos:List AOper}:∀(pm:List PStep) (st st':St),rb≤st.nx→(∀o∈aos,o.op.allocs=true→rb+aos.length≤st.nx)→evP F rb aos pm st=some st'→
  st.nx≤st'.nx∧(∀q,q<rb→st.ob q=none→st'.ob q=none)∧((∀q,st.nx≤q→st.ob q=none)→∀q,st'.nx≤q→st'.ob q=none)
 | [],st,st',_,_,h=>by
  cases h
  exact ⟨Nat.le_refl _,fun _ _ h=>h,fun h=>h⟩
 |(j,ks)::r,st,st',hrb,hnx,h=>by
  simp only [evP] at h
  split at h
  ·rename_i o hj
   split at h
   ·rename_i st1 h1
    obtain ⟨_,h⟩:=y05 h
    have hlt:=(List.getElem?_eq_some_iff.1 hj).1
    have hf:=y8k hF h1 (fun hal=>by have:=hnx o (List.mem_of_getElem? hj) hal;omega)
    have hle:st.nx≤st1.nx:=hf.le
    obtain ⟨a1,a2,a3⟩:=yli hF r st1 st' (Nat.le_trans hrb hle) (fun x hx hal=>Nat.le_trans (hnx x hx hal) hle) h
    exact ⟨Nat.le_trans hle a1,fun q hq hn=>a2 q hq (hf.old q (Nat.lt_of_lt_of_le hq hrb) (by omega) hn),fun hn=>a3 (hf.new hn)⟩
   ·cases h
  ·cases h
theorem yn0 {F:Caller} (hF:FreshF F) {rb:Nat} {aos:List AOper} {i:Nat} {oi:AOper} (hi:aos[i]? =some oi) {l2:List PStep}:∀(l1:List PStep) (st stF:St),evP F rb aos (l1++(i,[])::l2) st=some stF→
  (∀p∈l1,p.1≠i∧p.2=[]∧∀oj,aos[p.1]? =some oj→comm oj oi=true)→(oi.op.allocs=true→st.ob (rb+i)=none∧rb+i<st.nx)→(∀p∈l1,∀oj,aos[p.1]? =some oj→oj.op.allocs=true→rb+p.1<st.nx)→
   ∃st',evO F true rb i oi st=some st'∧evP F rb aos (l1++l2) st'=some stF
 | [],st,stF,h,_,_,_=>by
  simp only [List.nil_append,evP,hi] at h
  split at h
  ·rename_i st' hst
   exact ⟨st',hst,h⟩
  ·cases h
 |(j,ks)::l1,st,stF,h,hc,hfr,hnx=>by
  simp only [List.cons_append,evP] at h
  split at h
  ·rename_i oj hj
   split at h
   ·rename_i st1 hst1
    obtain ⟨hne,hks,hcm⟩:=hc (j,ks) (by simp)
    have hks:ks=[]:=hks
    subst hks
    simp only [keepOk,cond_true] at h
    have hf:=y8k hF hst1 (hnx (j,[]) (by simp) oj hj)
    obtain ⟨st2,h2,h3⟩:=yn0 hF hi l1 st1 stF h (fun k hk=>hc k (by simp [hk]))
     (fun hal=>⟨hf.old _ (hfr hal).2 (by simp only at hne;omega) (hfr hal).1,Nat.lt_of_lt_of_le (hfr hal).2 hf.le⟩) (fun k hk ok hok hal=>Nat.lt_of_lt_of_le (hnx k (by simp [hk]) ok hok hal) hf.le)
    obtain ⟨st1',q1,q2⟩:=ypm (Ne.symm hne) (hcm oj hj) (fun hal=>(hfr hal).1) hst1 h2
    exact ⟨st1',q1,by simp only [List.cons_append,evP,hj,q2,keepOk,cond_true];exact h3⟩
   ·cases h
  ·cases h
theorem depK {F:Caller} {rb i:Nat} {dst:Option Nat} {agg:Bool} {n:Nat} {a:Opd} {g:Option (Nat×Bool)} (sl:Nat→SV) (s s':Sto) (h:loadAt s'.ob n (a.ev sl)=loadAt s.ob n (a.ev sl)):
  evE F true rb i ⟨dst,.load agg n a,g,.no⟩ ⟨sl,s'.ob,s'.fz,s'.nx⟩=evE F true rb i ⟨dst,.load agg n a,g,.no⟩ ⟨sl,s.ob,s.fz,s.nx⟩:=by
 refine yiz rfl ?_
 simp only [evOp,h]
theorem yy9 {a b:Opd} (h:eqOpd a b=true):a=b:=by
 unfold eqOpd at h
 split at h
 ·rw [Nat.eq_of_beq_eq_true h]
 ·cases h
theorem yo8 {F:Caller} {rb:Nat} {aos:List AOper} {i:Nat} {oi:AOper} (hi:aos[i]? =some oi) {ks:List (Nat×Opd)} {l2:List PStep}:∀(l1:List PStep) (st stF:St),evP F rb aos (l1++(i,ks)::l2) st=some stF→
  (∀p∈l1,p.2=[]∧∀oj,aos[p.1]? =some oj→lightOk ks oj oi=true)→(l1.Pairwise fun p q=>∀op oq,aos[p.1]? =some op→aos[q.1]? =some oq→op.cl=0∨noneIn oq.dst op.reads=true)→
   ∃st' stE stG,evO F true rb i oi st=some st'∧evP F rb aos (l1++l2) st'=some stF∧stE.ob=st.ob∧stE.fz=st.fz∧stE.nx=st.nx∧stG.ob=st'.ob∧keepOk stE stG ks=true∧
    (∀t,(∀p∈l1,∀op,aos[p.1]? =some op→op.dst≠some t)→stE.sl t=st.sl t)
 | [],st,stF,h,_,_=>by
  simp only [List.nil_append,evP,hi] at h
  split at h
  ·rename_i st' hst
   obtain ⟨hk,h⟩:=y05 h
   exact ⟨st',st,st',hst,h,rfl,rfl,rfl,rfl,hk,fun _ _=>rfl⟩
  ·cases h
 |(j,kj)::l1,st,stF,h,hc,hp=>by
  simp only [List.cons_append,evP] at h
  split at h
  ·rename_i oj hj
   split at h
   ·rename_i st1 hst1
    obtain ⟨hks,hlt⟩:=hc (j,kj) (by simp)
    have hks:kj=[]:=hks
    subst hks
    simp only [keepOk,cond_true] at h
    obtain ⟨hp1,hp2⟩:=List.pairwise_cons.1 hp
    obtain ⟨st1',stE,stG,h1,h2,e1,e2,e3,e4,e5,e6⟩:=yo8 hi l1 st1 stF h (fun k hk=>hc k (by simp [hk])) hp2
    have hl:=hlt oj hj
    simp only [lightOk,Bool.and_eq_true,Bool.or_eq_true,Nat.beq_eq] at hl
    obtain ⟨⟨⟨⟨n1,n2⟩,n3⟩,n4⟩,n5⟩:=hl
    have n1:=y88 n1
    have n2:=y88 n2
    have n4:=y88 n4
    obtain ⟨sl,ob,fz,nx⟩:=st
    rw [yad,Option.map_eq_some_iff] at hst1
    obtain ⟨ej,hej,rfl⟩:=hst1
    rw [yad,Option.map_eq_some_iff] at h1
    obtain ⟨ei,hei,rfl⟩:=h1
    have hval:∃v,ej=.val v:=by
     rcases n5 with c | c
     ·exact val0 (.inl (by rw [y6u (by omega),c])) hej
     ·split at c
      ·rename_i agg n a ho hm
       exact val0 (.inr (by rw [ho];rfl)) hej
      ·cases c
    obtain ⟨v,rfl⟩:=hval
    simp only [Eff.apply,Eff.sto,St.sto] at hei e1 e2 e3 e4 h2 e6
    rw [ybu n1] at hei
    let s:Sto:=⟨ob,fz,nx⟩
    have hej':evE F true rb j oj ⟨sl,s.ob,s.fz,s.nx⟩=some (.val v):=hej
    have hej2:evE F true rb j oj ⟨sl,(ei.sto s (rb+i)).1.ob,(ei.sto s (rb+i)).1.fz,(ei.sto s (rb+i)).1.nx⟩=some (.val v):=by
     rcases n5 with c | c
     ·rw [dep0 (by rw [y6u (by omega),c]) sl s];exact hej'
     ·obtain ⟨dst,op,g,lim⟩:=oj
      cases op with
      | load agg n a=>
       cases lim with
       | no=>
        simp only [List.any_eq_true,Bool.and_eq_true,Nat.beq_eq] at c
        obtain ⟨p,hp,q1,q2⟩:=c
        have q2:=yy9 q2
        have hk:=ygn e5 p hp
        rw [q1,q2] at hk
        have hev:a.ev stE.sl=a.ev sl:=by
         refine yoi fun t ht=> ?_
         have hrd:t∈AOper.reads ⟨dst,.load agg n a,g,.no⟩:=by simp [AOper.reads,AOp.opds,ht]
         rw [e6 t (fun p hp op hop=>by
          rcases hp1 p hp _ op hj hop with h | h
          ·cases h
          ·exact y88 h t hrd)]
         exact yc6 (n4 t hrd)
        rw [hev,e4,e1] at hk
        have hk:loadAt (ei.sto s (rb+i)).1.ob n (a.ev sl)=loadAt s.ob n (a.ev sl):=hk
        exact (depK sl s (ei.sto s (rb+i)).1 hk).trans hej'
       | _=>cases c
      | _=>cases c
    refine ⟨ei.apply ⟨sl,ob,fz,nx⟩ (rb+i) oi.dst,stE,stG, ?_, ?_,e1,e2,e3, ?_,e5, ?_⟩
    ·rw [yad]
     exact Option.map_eq_some_iff.2 ⟨ei,hei,rfl⟩
    ·simp only [List.cons_append,evP,hj]
     have:evO F true rb j oj (ei.apply ⟨sl,ob,fz,nx⟩ (rb+i) oi.dst)=some (Eff.apply { sl:=putS (putS sl oj.dst v) oi.dst (ei.sto s (rb+i)).2,ob:=(ei.sto s (rb+i)).1.ob,fz:=(ei.sto s (rb+i)).1.fz,nx:=(ei.sto s (rb+i)).1.nx } 0 none (.val v)):=by
      rw [yad]
      refine Option.map_eq_some_iff.2 ⟨.val v, ?_, ?_⟩
      ·simp only [Eff.apply]
       rw [ybu n2]
       exact hej2
      ·simp only [Eff.apply,Eff.sto,St.sto,putS]
       have:=yle (sl:=sl) (x:=(ei.sto s (rb+i)).2) (y:=v) n3
       rw [St.mk.injEq]
       exact ⟨this,rfl,rfl,rfl⟩
     rw [this]
     simp only [keepOk,cond_true]
     exact h2
    ·rw [e4];rfl
    ·intro t ht
     rw [e6 t (fun p hp op hop=>ht p (by simp [hp]) op hop)]
     exact yc6 (ht (j,[]) (by simp) oj hj)
   ·cases h
  ·cases h
section
variable {P:Program} {br:FuncId→Bool} {F:Caller} {rb:Nat} {B:Nat} {w0:World} {ok0:Nat→Nat→Prop} {s0:Sto} {G0:Nat→GB} {D:List Deferred} {nt:Nat} {ro:Option Nat} {n:Nat}
def remP (pm:List PStep) (listed:Array Bool):List PStep:=pm.filter fun p=> !listed.getD p.1 true
theorem yx1 {ops:List Oper} {anc:List Nat} {aos:List AOper} {pm:List PStep} (hp:pm.Pairwise fun p q=>pairOk ops anc aos p q=true) {listed:Array Bool} {i:Nat} (hi:i<listed.size) {ks:List (Nat×Opd)} {l1 l2:List PStep} (h:remP pm listed=l1++(i,ks)::l2):
  remP pm (listed.setIfInBounds i true)=l1++l2∧(∀p∈l1,pairOk ops anc aos p (i,ks)=true)∧(∀p∈l2,pairOk ops anc aos (i,ks) p=true)∧(l1.Pairwise fun p q=>pairOk ops anc aos p q=true):=by
 have hp':(remP pm listed).Pairwise fun p q=>pairOk ops anc aos p q=true:=List.Pairwise.filter _ hp
 rw [h,List.pairwise_append,List.pairwise_cons] at hp'
 obtain ⟨hp1,⟨hp2,hp3⟩,hp4⟩:=hp'
 have hl1:∀p∈l1,pairOk ops anc aos p (i,ks)=true:=fun p hp=>hp4 p hp _ (by simp)
 have ne:∀{p q:PStep},pairOk ops anc aos p q=true→p.1≠q.1:=by
  intro p q h e
  simp only [pairOk,e,y5b,Bool.not_true,Bool.false_and,Bool.false_eq_true] at h
 refine ⟨?_,hl1,hp2,hp1⟩
 have e:remP pm (listed.setIfInBounds i true)=(remP pm listed).filter (fun p=> !Nat.beq p.1 i):=by
  simp only [remP,List.filter_filter]
  refine List.filter_congr fun p _=> ?_
  by_cases e:i=p.1
  ·subst e
   simp [y5b,Array.getD_eq_getD_getElem?,hi]
  ·rw [getD_set_ne true e,y8j (Ne.symm e)]
   simp
 rw [e,h,List.filter_append,List.filter_cons,y5b]
 simp only [Bool.not_true,Bool.false_eq_true,if_false]
 rw [List.filter_eq_self.2 (fun p hp=>by rw [y8j (ne (hl1 p hp))];rfl),List.filter_eq_self.2 (fun p hp=>by rw [y8j (Ne.symm (ne (hp2 p hp)))];rfl)]
theorem yon {k:Nat}:∀{l:List Nat},memN k l=false→k ∉ l
 | [],_,h=>by cases h
 | x::r,hm,h=>by
  simp only [memN,Bool.or_eq_false_iff] at hm
  rcases List.mem_cons.1 h with e | h
  ·rw [e,y5b] at hm;cases hm.1
  ·exact yon hm.2 h
theorem yrz (hC:Sound P F) (hF:FreshF F) (hB:B≤w0.heap.size) {ops:Array Oper} {aos:List AOper} {pm:List PStep} (hlen:aos.length=ops.size) (hco:∀(j:Nat) (ao:AOper),aos[j]? =some ao→∃o,ops[j]? =some o∧cOper P br nt ops ao.lim o=some ao)
  (hd:permOk ops.toList aos pm=true) {stF:St} {Q:Exit→Act→World→Prop} (hQ:∀a w,SR B w0 ok0 s0 G0 D nt stF a w→Q .normal a w):
  ∀(fuel:Nat) (listed:Array Bool) (st:St) (a:Act) (w:World),listed.size=ops.size→(∀(k:Nat) (o:Oper),ops.toList[k]? =some o→listed.getD k false=true→∀d∈deps o,listed.getD d false=true)→
   (remP pm listed).length≤fuel→SR B w0 ok0 s0 G0 D nt st a w→(∀k,st.nx≤k→st.ob k=none)→(∀p∈remP pm listed,∀o,aos[p.1]? =some o→o.op.allocs=true→st.ob (rb+p.1)=none∧rb+p.1<st.nx)→evP F rb aos (remP pm listed) st=some stF→wpAnyIn (WF ro) n P .any ops Q fuel listed a w:=by
 simp only [permOk,Bool.and_eq_true,List.all_eq_true,List.mem_range,List.any_eq_true,Array.length_toList] at hd
 obtain ⟨⟨⟨⟨_,hbelow⟩,hcov⟩,hin⟩,hpairs⟩:=hd
 have hpairs:=ygy hpairs
 have hrem:∀(listed:Array Bool) i,i∈Region.ready .any ops listed→∃ks,(i,ks)∈remP pm listed:=by
  intro listed i hi
  obtain ⟨h1,o,h2,_⟩:=mem_ready.1 hi
  obtain ⟨p,hp,hpi⟩:=hcov i (Array.getElem?_eq_some_iff.1 h2).1
  have hpi:=Nat.eq_of_beq_eq_true hpi
  subst hpi
  exact ⟨p.2,List.mem_filter.2 ⟨hp,by rw [h1];rfl⟩⟩
 have ne:∀{p q:PStep},pairOk ops.toList (ancs ops.toList []) aos p q=true→p.1≠q.1∧q.1 ∉ deps (ops.toList.getD p.1 default):=by
  intro p q h
  simp only [pairOk,Bool.and_eq_true] at h
  refine ⟨fun e=> ?_,yon (by simpa using h.1.1.2)⟩
  have:=h.1.1.1
  rw [e,y5b] at this
  cases this
 have hdone:∀(listed:Array Bool) (st:St) (a:Act) (w:World),listed.size=ops.size→Region.ready .any ops listed=[]→SR B w0 ok0 s0 G0 D nt st a w→evP F rb aos (remP pm listed) st=some stF→Q .normal a w:=by
  intro listed st a w hs hr hR he
  cases hl:remP pm listed with
  | nil=>
   rw [hl] at he
   simp only [evP,Option.some.injEq] at he
   subst he
   exact hQ _ _ hR
  | cons p l2=>
   exfalso
   have hp:p∈remP pm listed:=by rw [hl];simp
   have hp2:=List.mem_filter.1 hp
   have hlt:p.1<ops.size:=y77 (hin p hp2.1)
   have hready:p.1∈Region.ready .any ops listed:=by
    refine mem_ready.2 ⟨by simpa using hp2.2,ops[p.1],by simp [hlt],fun e he hb=> ?_⟩
    have hdm:e.on∈deps ops[p.1]:=ycz.2 ⟨e,he,hb,rfl⟩
    have hlt2:=yb4 hbelow p.1 ops[p.1] (by simp [hlt]) e.on hdm
    have hlt3:e.on<ops.size:=by omega
    obtain ⟨q,hq,hqe⟩:=hcov e.on hlt3
    have hqe:=Nat.eq_of_beq_eq_true hqe
    cases hls:listed.getD e.on false with
    | true=>rfl
    | false=>
     exfalso
     have hqm:q∈remP pm listed:=List.mem_filter.2 ⟨hq,by
      rw [hqe]
      have:e.on<listed.size:=by rw [hs];exact hlt3
      simp [Array.getD_eq_getD_getElem?,this] at hls ⊢
      exact hls⟩
     rw [hl] at hqm
     rcases List.mem_cons.1 hqm with h | h
     ·rw [h] at hqe;omega
     ·have hpw:(remP pm listed).Pairwise fun p q=>pairOk ops.toList (ancs ops.toList []) aos p q=true:=List.Pairwise.filter _ hpairs
      rw [hl] at hpw
      have:=(ne ((List.pairwise_cons.1 hpw).1 q h)).2
      rw [hqe] at this
      refine this ?_
      simpa [List.getD,hlt] using hdm
   rw [hr] at hready
   cases hready
 intro fuel
 induction fuel with
 | zero=>
  intro listed st a w hs hcl hf hR hFr hfr he
  have hr:Region.ready .any ops listed=[]:=by
   cases h:Region.ready .any ops listed with
   | nil=>rfl
   | cons i r=>
    obtain ⟨ks,this⟩:=hrem listed i (by rw [h];simp)
    rw [List.length_eq_zero_iff.1 (Nat.le_zero.1 hf)] at this
    cases this
  exact ⟨hr,hdone listed st a w hs hr hR he⟩
 | succ fuel ih=>
  intro listed st a w hs hcl hf hR hFr hfr he
  refine ⟨fun hr=>hdone listed st a w hs hr hR he,fun i hi=> ?_⟩
  obtain ⟨ks,him⟩:=hrem listed i hi
  obtain ⟨l1,l2,hl⟩:=List.append_of_mem him
  obtain ⟨hun,o,hoi,hready⟩:=mem_ready.1 hi
  have hio:i<ops.size:=(Array.getElem?_eq_some_iff.1 hoi).1
  obtain ⟨hset,hl1,hl2,hpw⟩:=yx1 hpairs (by rw [hs];exact hio) hl
  have hial:i<aos.length:=by rw [hlen];exact hio
  have haoi:aos[i]? =some aos[i]:=by simp [hial]
  obtain ⟨o',ho',hcoi⟩:=hco i aos[i] haoi
  rw [hoi] at ho'
  cases ho'
  rw [hl] at he
  have hdeps:∀d∈deps o,listed.getD d false=true:=by
   intro d hd
   obtain ⟨e,he,hb,rfl⟩:=ycz.1 hd
   exact hready e he hb
  have hfri:=hfr (i,ks) him aos[i] haoi
  have hnanc:∀p∈l1,Nat.testBit ((ancs ops.toList []).getD i 0) p.1=false:=by
   intro p hp
   cases hb:Nat.testBit ((ancs ops.toList []).getD i 0) p.1 with
   | false=>rfl
   | true=>
    exfalso
    have hprem:p∈remP pm listed:=by rw [hl];simp [hp]
    have hprem:=(List.mem_filter.1 hprem)
    have hpl:listed.getD p.1 false=true:=by
     cases hm:(ancs ops.toList [])[i]? with
     | none=>simp [List.getD,hm] at hb
     | some m=>
      simp only [List.getD,hm,Option.getD_some] at hb
      exact yf7 (ops:=ops.toList) (L:=fun k=>listed.getD k false) hcl ops.toList [] ⟨[],rfl,rfl⟩ (by simp) i o m (by simpa using hoi) hm hdeps p.1 hb
    have:p.1<listed.size:=by rw [hs];exact y77 (hin p hprem.1)
    have h2:=hprem.2
    simp [Array.getD_eq_getD_getElem?,this] at hpl h2
    rw [hpl] at h2
    cases h2
  have hpq:∀p∈l1,p.1≠i∧p.2=[]∧∀oj,aos[p.1]? =some oj→sideOk ks oj aos[i]=true:=by
   intro p hp
   have h:=hl1 p hp
   have hne:=(ne h).1
   simp only [pairOk,hnanc p hp,Bool.false_or,Bool.and_eq_true] at h
   refine ⟨hne,List.isEmpty_iff.1 h.2.1,fun oj hoj=> ?_⟩
   have h3:=h.2.2
   have e1:aos.getD p.1 default=oj:=by simp [List.getD,hoj]
   have e2:aos.getD i default=aos[i]:=by simp [List.getD,haoi]
   rw [e1,e2] at h3
   exact h3
  obtain ⟨st',hst',hrest⟩:∃st',evO F true rb i aos[i] st=some st'∧evP F rb aos (l1++l2) st'=some stF:=by
   cases ks with
   | nil=>exact yn0 hF haoi l1 st stF he hpq hfri (fun p hp oj hoj hal=>(hfr p (by rw [hl];simp [hp]) oj hoj hal).2)
   | cons k ks=>
    obtain ⟨st',_,_,h1,h2,_⟩:=yo8 haoi l1 st stF he (fun p hp=>(hpq p hp).2) (hpw.imp fun {p q} h op oq hop hoq=>by
     simp only [pairOk,Bool.and_eq_true,Bool.or_eq_true,Nat.beq_eq] at h
     simpa [List.getD,hop,hoq] using h.1.2)
    exact ⟨st',h1,h2⟩
  have hfresh:=y8k hF hst' (fun hal=>(hfri hal).2)
  unfold wpOpIn
  simp only [hoi]
  refine yoc hC hB hR hFr hcoi (fun hal=>(hfri hal).1) hst' fun a' w' hR'=> ?_
  refine ih _ st' a' w' (by simp [hs]) ?_ ?_ hR' (hfresh.new hFr) ?_ (by rw [hset];exact hrest)
  ·intro k ok hk hkl d hd
   by_cases hki:k=i
   ·subst hki
    have:ok=o:=by
     rw [Array.getElem?_toList] at hk
     rw [hoi] at hk
     exact (Option.some.inj hk).symm
    subst this
    exact getD_set_true (hdeps d hd)
   ·rw [getD_set_ne false (Ne.symm hki)] at hkl
    exact getD_set_true (hcl k ok hk hkl d hd)
  ·rw [hset]
   rw [hl] at hf
   simp at hf ⊢
   omega
  ·rw [hset]
   intro p hp oj hoj hal
   have hpm:p∈remP pm listed:=by rw [hl];rcases List.mem_append.1 hp with h | h<;>simp [h]
   have hpi:p.1≠i:=by
    rcases List.mem_append.1 hp with h | h
    ·exact (ne (hl1 p h)).1
    ·exact Ne.symm (ne (hl2 p h)).1
   obtain ⟨h1,h2⟩:=hfr p hpm oj hoj hal
   exact ⟨hfresh.old _ h2 (by omega) h1,Nat.lt_of_lt_of_le h2 hfresh.le⟩
end
end Go.Ev
namespace Go.Ev
open Go.RowKit
variable [Cd]
abbrev Hint:=Nat×Nat×List Nat
def hintOf (id:Nat):List Hint→Nat×List Nat
 | []=>(0,[])
 |(k,m,ks)::r=>bif Nat.beq k id then (m,ks) else hintOf id r
def loadsBeside (anc:List Nat) (i:Nat):Nat→List AOper→List Opd
 | _,[]=>[]
 | j,o::r=>match o.op with
  | .load _ _ a=>bif Nat.testBit (anc.getD i 0) j || Nat.testBit (anc.getD j 0) i then loadsBeside anc i (j+1) r else a::loadsBeside anc i (j+1) r
  | _=>loadsBeside anc i (j+1) r
def heavyBeside (anc:List Nat) (i:Nat):Nat→List AOper→Bool
 | _,[]=>false
 | j,o::r=>(Nat.blt 3 o.op.cls&& !(Nat.testBit (anc.getD i 0) j || Nat.testBit (anc.getD j 0) i)) || heavyBeside anc i (j+1) r
def limFor (mode:Nat) (anc:List Nat) (all:List AOper) (i:Nat):AOp→Lim
 | .load ..=>bif Nat.blt 2 mode&& !heavyBeside anc i 0 all then .no else .nr
 | .store ..=>match loadsBeside anc i 0 all with
  | []=>bif Nat.blt 2 mode then .no else bif Nat.beq mode 1 then .row else .away []
  | l=>bif Nat.beq mode 1 || Nat.beq mode 3 then .row else .away l
 | _=>.no
def setLims (mode:Nat) (anc:List Nat) (all:List AOper):Nat→List AOper→List AOper
 | _,[]=>[]
 | i,o::r=>{ o with lim:=bif Nat.beq mode 0 then .no else limFor mode anc all i o.op }::setLims mode anc all (i+1) r
def naOf (aos:List AOper):Nat:=bif aos.any (·.op.allocs) then aos.length else 0
def rankOf (o:AOper):Nat:=match o.cl with
 | 0=>0
 | 1=>0
 | 5=>0
 | 3=>1
 | 2=>2
 | 8=>2
 | _=>3
def bestOf (aos:List AOper) (done:List Nat):Nat→List Oper→Option (Nat×Nat)
 | _,[]=>none
 | j,o::r=>
  let b:=bestOf aos done (j+1) r
  bif memN j done || !(deps o).all (fun d=>memN d done) then b else
   match b with
   | some (k,m)=>bif Nat.ble (rankOf (aos.getD j default)) m then some (j,rankOf (aos.getD j default)) else some (k,m)
   | none=>some (j,rankOf (aos.getD j default))
def keepsOf (anc:List Nat) (aos:List AOper) (i:Nat):List Nat→List (Nat×Opd)
 | []=>[]
 | j::r=>bif Nat.testBit (anc.getD i 0) j then keepsOf anc aos i r else match (aos.getD j default).op with
  | .load _ n a=>(n,a)::keepsOf anc aos i r
  | _=>keepsOf anc aos i r
def permGo (ops:List Oper) (anc:List Nat) (aos:List AOper):Nat→List Nat→List PStep
 | 0,_=>[]
 | n+1,done=>match bestOf aos done 0 ops with
  | some (j,m)=>(j,bif Nat.blt 3 (aos.getD j default).cl then keepsOf anc aos j done else [])::permGo ops anc aos n (j::done)
  | none=>[]
def permFor (ops:List Oper) (aos:List AOper):List PStep:=permGo ops (ancs ops []) aos ops.length []
def cCode (P:Program) (br:FuncId→Bool) (hs:List Hint) (nt:Nat):(rd:Bool)→Code→Option ACode
 | _,.skip=>some .skip
 | _,.region id ops draw=>match ops.toList.mapM (cOper P br nt ops .no) with
  | some aos=>match draw with
   | true=>bif Nat.beq (hintOf id hs).1 5 then (bif permOk ops.toList aos (permFor ops.toList aos) then some (.regp aos (permFor ops.toList aos) (naOf aos) (hintOf id hs).2) else none) else
    bif drawOk ops.toList (setLims (hintOf id hs).1 (ancs ops.toList []) aos 0 aos) then some (.reg true (setLims (hintOf id hs).1 (ancs ops.toList []) aos 0 aos) (naOf aos) (hintOf id hs).2) else none
   | false=>some (.reg false aos (naOf aos) (hintOf id hs).2)
  | none=>none
 | rd,.seq a b=>match cCode P br hs nt rd a,cCode P br hs nt rd b with
  | some x,some y=>some (.seq x y)
  | _,_=>none
 | rd,.cond c a b=>match cOpd c,cCode P br hs nt rd a,cCode P br hs nt rd b with
  | some z,some x,some y=>some (.cond z x y)
  | _,_,_=>none
 | rd,.block id a=>match cCode P br hs nt rd a with
  | some x=>some (.block id x)
  | none=>none
 | rd,.loop a=>match cCode P br hs nt rd a with
  | some x=>some (.loop x)
  | none=>none
 | false,.rangeFunc g ps a b=>match cOpd g,cCode P br hs nt true a,cCode P br hs nt true b with
  | some z,some x,some y=>bif ps.toList.all (Nat.blt · nt) then some (.rangeF z ps.toList x y) else none
  | _,_,_=>none
 | _,.exit id=>some (.exit id)
 | _,.ret=>some .ret
 | _,_=>none
def cRes (P:Program):ResultVar→Option ARes
 | .tmp t=>some (.tmp t)
 | .cell t ty=>match tAgg P ty,tSize P ty with
  | some agg,some n=>bif agg || Nat.beq n 1 then some (.cell t agg n) else none
  | _,_=>none
def cFunc (P:Program) (br:FuncId→Bool) (hs:List Hint) (f:FuncId):Option AFn:=match P.funcs[f]? with
 | some fn=>match fn.body with
  | some c=>match cCode P br hs fn.ntmps false c,fn.results.toList.mapM (cRes P) with
   | some x, some r => bif fn.name == "runtime.NumGoroutine" then none else some ⟨x, r⟩
   | _,_=>none
  | none=>none
 | none=>none
def Ex.exit:Ex→Exit
 | .nrm=>.normal
 | .ext id=>.exit id
 | .ret=>.ret
theorem ygk {F:Caller} (hF:FreshF F) {draw:Bool} {rb:Nat}:∀(l:List AOper) (k:Nat) (st st':St),rb≤st.nx→(∀o∈l,o.op.allocs=true→rb+k+l.length≤st.nx)→evOps F draw rb k l st=some st'→
  st.nx≤st'.nx∧(∀q,q<rb→st.ob q=none→st'.ob q=none)∧((∀q,st.nx≤q→st.ob q=none)→∀q,st'.nx≤q→st'.ob q=none)
 | [],k,st,st',_,_,h=>by
  cases h
  exact ⟨Nat.le_refl _,fun _ _ h=>h,fun h=>h⟩
 | o::l,k,st,st',hrb,hnx,h=>by
  simp only [evOps] at h
  split at h
  ·rename_i st1 h1
   have hf:=y8k hF h1 (fun hal=>by have:=hnx o (by simp) hal;simp only [List.length_cons] at this;omega)
   have hle:st.nx≤st1.nx:=hf.le
   obtain ⟨a1,a2,a3⟩:=ygk hF l (k+1) st1 st' (Nat.le_trans hrb hle) (fun x hx hal=>by have:=hnx x (by simp [hx]) hal;simp only [List.length_cons] at this;omega) h
   exact ⟨Nat.le_trans hle a1,fun q hq hn=>a2 q hq (hf.old q (Nat.lt_of_lt_of_le hq hrb) (by omega) hn),fun hn=>a3 (hf.new hn)⟩
  ·cases h
theorem ysb {F:Caller} (hF:FreshF F) {ops:List AOper} {pm:List PStep} {na:Nat} {ks:List Nat} (hn:naOk (.regp ops pm na ks)=true) {fuel:Nat} {st st':St} {e:Ex} (h:evC F fuel (.regp ops pm na ks) st=some (e,st')):NxLe st.sto st'.sto:=by
 simp only [evC] at h
 split at h
 ·rename_i st1 h1
  cases h
  have hna:∀o∈ops,o.op.allocs=true→st.nx+ops.length≤st.nx+na:=by
   intro o ho hal
   have:ops.any (·.op.allocs)=true:=List.any_eq_true.2 ⟨o,ho,hal⟩
   simp only [naOk,this,cond_true] at hn
   have:=y4g hn
   omega
  obtain ⟨a1,a2,a3⟩:=yli hF pm _ st1 (by simp) (by simpa using hna) h1
  refine ⟨?_,fun q hq hn=>a2 q hq hn,fun hn q hq=>a3 (fun q hq=>hn q ?_) q hq⟩
  ·show st.nx≤st1.nx
   have:st.nx+na≤st1.nx:=a1
   omega
  ·show st.nx≤q
   have:st.nx+na≤q:=hq
   omega
 ·cases h
theorem y4z {F:Caller} (hF:FreshF F) (fuel:Nat):∀(ac:ACode),naOk ac=true→∀(st st':St) (e:Ex),evC F fuel ac st=some (e,st')→NxLe st.sto st'.sto
 | .skip,_,st,st',e,h=>by cases h;exact NxLe.refl _
 | .exit _,_,st,st',e,h=>by cases h;exact NxLe.refl _
 | .ret,_,st,st',e,h=>by cases h;exact NxLe.refl _
 | .reg draw ops na ks,hn,st,st',e,h=>by
  simp only [evC] at h
  split at h
  ·rename_i st1 h1
   cases h
   have hna:∀o∈ops,o.op.allocs=true→st.nx+0+ops.length≤st.nx+na:=by
    intro o ho hal
    have:ops.any (·.op.allocs)=true:=List.any_eq_true.2 ⟨o,ho,hal⟩
    simp only [naOk,this,cond_true] at hn
    have:=y4g hn
    omega
   obtain ⟨a1,a2,a3⟩:=ygk hF ops 0 _ st1 (by simp) (by simpa using hna) h1
   refine ⟨?_,fun q hq hn=>a2 q hq hn,fun hn q hq=>a3 (fun q hq=>hn q ?_) q hq⟩
   ·show st.nx≤st1.nx
    have:st.nx+na≤st1.nx:=a1
    omega
   ·show st.nx≤q
    have:st.nx+na≤q:=hq
    omega
  ·cases h
 | .regp ops pm na ks,hn,st,st',e,h=>ysb hF hn h
 | .seq a b,hn,st,st',e,h=>by
  simp only [naOk,Bool.and_eq_true] at hn
  simp only [evC] at h
  split at h
  ·rename_i st1 h1
   exact (y4z hF fuel a hn.1 st st1 _ h1).trans (y4z hF fuel b hn.2 st1 st' e h)
  ·rename_i e1 st1 _ h1
   cases h
   exact y4z hF fuel a hn.1 st st' _ h1
  ·cases h
 | .cond c a b,hn,st,st',e,h=>by
  simp only [naOk,Bool.and_eq_true] at hn
  simp only [evC] at h
  split at h
  ·rename_i t _
   cases t with
   | true=>exact y4z hF fuel a hn.1 st st' e h
   | false=>exact y4z hF fuel b hn.2 st st' e h
  ·cases h
 | .block id a,hn,st,st',e,h=>by
  simp only [evC] at h
  split at h
  ·rename_i id' st1 h1
   have:=y4z hF fuel a hn st st1 _ h1
   rw [Bool.cond_eq_ite] at h
   split at h<;>(cases h;exact this)
  ·exact y4z hF fuel a hn st st' e h
 | .rangeF g ps a b,hn,st,st',e,h=>by
  simp only [evC] at h
  split at h
  ·split at h
   ·rename_i s hF2
    split at h
    ·rename_i l hl
     have hf:=hF _ _ _ _ _ hF2
     have done:∀x,(some (l.pend.getD .nrm,(⟨st.sl,upd s.ob (st.nx+1) (.loop x),s.fz,s.nx⟩:St))=some (e,st'))→NxLe st.sto st'.sto:=by
      intro x hx
      cases hx
      refine ⟨by have:=hf.le;simp only at this;show st.nx≤s.nx;omega,fun q hq hn=> ?_,fun hn q hq=> ?_⟩
      ·have hq':q<st.nx:=hq
       show upd s.ob (st.nx+1) _ q=none
       rw [y00 (by omega)]
       refine hf.old q (by simp only;omega) ?_
       simp only
       rw [y00 (by omega),y00 (by omega)]
       exact hn
      ·have hq':s.nx≤q:=hq
       have hle:=hf.le
       simp only at hle
       show upd s.ob (st.nx+1) _ q=none
       rw [y00 (by omega)]
       refine hf.new (fun q hq=> ?_) q hq'
       simp only at hq ⊢
       rw [y00 (by omega),y00 (by omega)]
       exact hn q (by show st.nx≤q;omega)
     split at h
     ·cases h
     ·exact done _ h
    ·cases h
   ·cases h
  ·cases h
 | .loop a,hn,st,st',e,h=>by
  simp only [evC] at h
  have key:∀(k:Nat) (st:St),loopN (evC F fuel a) k st=some (e,st')→NxLe st.sto st'.sto:=by
   intro k
   induction k with
   | zero=>intro st h;cases h
   | succ k ih=>
    intro st h
    simp only [loopN] at h
    split at h
    ·rename_i st1 h1
     exact (y4z hF fuel a hn st st1 _ h1).trans (ih st1 h)
    ·rename_i e1 st1 _ h1
     cases h
     exact y4z hF fuel a hn st st' _ h1
    ·cases h
  exact key fuel st h
theorem y8o {E:Env} (hE:∀f fn,E f=some fn→naOk fn.code=true):∀n,FreshF (evF E n)
 | 0=>fun c args s r s' h=>by cases c<;>cases h
 | n+1=>by
  intro c args s r s' h
  cases c with
  | fn f=>
   simp only [evF] at h
   split at h
   ·rename_i fn hf
    have main:∃e st,evC (evF E n) n fn.code { sl:=Ev.env (ofArgs 0 args),ob:=s.ob,fz:=s.fz,nx:=s.nx }=some (e,st)∧s'=⟨shut s.ob st.ob,st.fz,st.nx⟩:=by
     split at h
     ·rename_i st hst
      split at h
      ·cases h;exact ⟨_,st,hst,rfl⟩
      ·cases h
     ·rename_i st hst
      split at h
      ·cases h;exact ⟨_,st,hst,rfl⟩
      ·cases h
     ·cases h
    obtain ⟨e,st,hst,rfl⟩:=main
    have hf:=y4z (y8o hE n) n fn.code (hE f fn hf) _ st e hst
    exact ⟨hf.le,fun k hk hn=>yla (hf.old k hk hn),fun hn k hk=>yla (hf.new hn k hk)⟩
   ·cases h
  | rnd l=>
   simp only [evF] at h
   split at h
   ·rename_i r0 hr0
    obtain ⟨hb,h⟩:=y05 h
    simp only [Bool.and_eq_true] at hb
    split at h
    ·rename_i st hst
     have hf1:=y4z (y8o hE n) n r0.asg hb.1.2 _ st _ hst
     split at h
     ·rename_i r1 hr1
      split at h
      ·split at h
       ·rename_i e st2 hst2
        have hf2:=y4z (y8o hE n) n r0.body hb.2 _ st2 _ hst2
        have done:∀x,NxLe s ⟨upd st2.ob l x,st2.fz,st2.nx⟩:=by
         intro x
         have hls:∀k,s.ob k=none→k≠l:=fun k hk e=>by rw [e,hr0] at hk;cases hk
         have hl1:∀k,st.ob k=none→k≠l:=fun k hk e=>by rw [e,hr1] at hk;cases hk
         refine ⟨Nat.le_trans hf1.le hf2.le,fun k hk hn=> ?_,fun hn k hk=> ?_⟩
         ·show upd st2.ob l x k=none
          rw [y00 (hls k hn)]
          have h1:=hf1.old k hk hn
          refine hf2.old k (Nat.lt_of_lt_of_le hk hf1.le) ?_
          show upd st.ob l _ k=none
          rw [y00 (hls k hn)]
          exact h1
         ·have h1:=hf1.new hn
          have h2:=hf2.new (fun q hq=>by
           show upd st.ob l _ q=none
           have hq1:st.ob q=none:=h1 q hq
           rw [y00 (hl1 q hq1)]
           exact hq1) k hk
          show upd st2.ob l x k=none
          have hq1:st.ob k=none:=h1 k (Nat.le_trans hf2.le hk)
          rw [y00 (hl1 k hq1)]
          exact h2
        split at h
        ·split at h
         ·cases h;exact done _
         ·cases h;exact done _
        ·cases h
       ·cases h
      ·cases h
     ·cases h
    ·cases h
   ·cases h
section
variable {P:Program} {br:FuncId→Bool} {hs:List Hint} {nt:Nat} {F:Caller} {B:Nat} {w0:World} {ok0:Nat→Nat→Prop} {s0:Sto} {G0:Nat→GB} {D:List Deferred} {ro:Option Nat} {n:Nat}
theorem ya5 {mode:Nat} {anc:List Nat} {all:List AOper}:∀(l:List AOper) (i:Nat),(setLims mode anc all i l).any (·.op.allocs)=l.any (·.op.allocs)∧(setLims mode anc all i l).length=l.length
 | [],i=>⟨rfl,rfl⟩
 | o::r,i=>by
  obtain ⟨h1,h2⟩:=ya5 (mode:=mode) (anc:=anc) (all:=all) r (i+1)
  simp [setLims,h1,h2]
theorem ygl {mode:Nat} {anc:List Nat} {all:List AOper}:∀(l:List AOper) (i j:Nat) (ao:AOper),(setLims mode anc all i l)[j]? =some ao→∃o,l[j]? =some o∧ao={ o with lim:=ao.lim }
 | [],i,j,ao,h=>by simp [setLims] at h
 | o::r,i,j,ao,h=>by
  cases j with
  | zero=>simp [setLims] at h;exact ⟨o,by simp,by rw [←h]⟩
  | succ j=>
   simp [setLims] at h
   obtain ⟨o',h1,h2⟩:=ygl r (i+1) j ao h
   exact ⟨o',by simpa using h1,h2⟩
theorem yw2 {ops:Array Oper} {o:Oper} {ao:AOper} {l:Lim} (h:cOper P br nt ops .no o=some ao):cOper P br nt ops l o=some { ao with lim:=l }:=by
 unfold cOper at h ⊢
 split at h
 ·obtain ⟨hb,h⟩:=y05 h
  cases h
  simp [hb]
 ·cases h
theorem yxn {ops:Array Oper} {o:Oper} {ao:AOper} (h:cOper P br nt ops .no o=some ao):ao.lim=.no:=by
 unfold cOper at h
 split at h
 ·obtain ⟨_,h⟩:=y05 h
  cases h
  rfl
 ·cases h
theorem y5m:∀(rd:Bool) (c:Code) (ac:ACode),cCode P br hs nt rd c=some ac→naOk ac=true
 | rd,.skip,ac,h=>by cases rd<;>(cases h;rfl)
 | rd,.exit _,ac,h=>by cases rd<;>(cases h;rfl)
 | rd,.ret,ac,h=>by cases rd<;>(cases h;rfl)
 | rd,.region id ops draw,ac,h=>by
  have h:cCode P br hs nt true (.region id ops draw)=some ac:=by cases rd<;>exact h
  simp only [cCode] at h
  split at h
  ·rename_i aos _
   have key:∀l:List AOper,l.any (·.op.allocs)=aos.any (·.op.allocs)→l.length=aos.length→(bif l.any (·.op.allocs) then Nat.ble l.length (naOf aos) else true)=true:=by
    intro l h1 h2
    rw [h1,h2]
    unfold naOf
    cases aos.any (·.op.allocs) with
    | true=>simp
    | false=>rfl
   cases draw with
   | true=>
    simp only at h
    cases hm:Nat.beq (hintOf id hs).1 5 with
    | true=>
     rw [hm,cond_true] at h
     obtain ⟨_,h⟩:=y05 h
     cases h
     exact key _ rfl rfl
    | false=>
     rw [hm,cond_false] at h
     obtain ⟨_,h⟩:=y05 h
     cases h
     exact key _ (ya5 aos 0).1 (ya5 aos 0).2
   | false=>cases h;exact key _ rfl rfl
  ·cases h
 | rd,.seq a b,ac,h=>by
  have h:(match cCode P br hs nt rd a,cCode P br hs nt rd b with | some x,some y=>some (ACode.seq x y) | _,_=>none)=some ac:=by cases rd<;>exact h
  split at h
  ·rename_i x y hx hy
   cases h
   simp only [naOk,y5m rd a x hx,y5m rd b y hy,Bool.and_self]
  ·cases h
 | rd,.cond c a b,ac,h=>by
  have h:(match cOpd c,cCode P br hs nt rd a,cCode P br hs nt rd b with | some z,some x,some y=>some (ACode.cond z x y) | _,_,_=>none)=some ac:=by cases rd<;>exact h
  split at h
  ·rename_i z x y hz hx hy
   cases h
   simp only [naOk,y5m rd a x hx,y5m rd b y hy,Bool.and_self]
  ·cases h
 | rd,.block id a,ac,h=>by
  have h:(match cCode P br hs nt rd a with | some x=>some (ACode.block id x) | none=>none)=some ac:=by cases rd<;>exact h
  split at h
  ·rename_i x hx;cases h;exact y5m rd a x hx
  ·cases h
 | rd,.loop a,ac,h=>by
  have h:(match cCode P br hs nt rd a with | some x=>some (ACode.loop x) | none=>none)=some ac:=by cases rd<;>exact h
  split at h
  ·rename_i x hx;cases h;exact y5m rd a x hx
  ·cases h
 | false,.rangeFunc g ps a b,ac,h=>by
  simp only [cCode] at h
  split at h
  ·rename_i z x y hz hx hy
   obtain ⟨_,h⟩:=y05 h
   cases h
   simp only [naOk,y5m true a x hx,y5m true b y hy,Bool.and_self]
  ·cases h
 | true,.rangeFunc _ _ _ _,ac,hc=>by cases hc
 | rd,.scope _,ac,hc=>by cases rd<;>cases hc
 | rd,.label _,ac,hc=>by cases rd<;>cases hc
 | rd,.goto _,ac,hc=>by cases rd<;>cases hc
 | rd,.refuse _,ac,hc=>by cases rd<;>cases hc
theorem Inv.nx {w:World} {ok:Nat→Nat→Prop} {ob:Nat→Option AObj} {fz:Nat→Nat} {x:Nat} {G:Nat→GB} (h:Inv B w ok ⟨ob,fz,x⟩ G) (y:Nat):Inv B w ok ⟨ob,fz,y⟩ G:=
 ⟨h.okLt,h.okFz,h.inj,h.base,h.objs,h.fz0⟩
theorem SR.nx {sl:Nat→SV} {ob:Nat→Option AObj} {fz:Nat→Nat} {x:Nat} {a:Act} {w:World} (h:SR B w0 ok0 s0 G0 D nt ⟨sl,ob,fz,x⟩ a w) (y:Nat):SR B w0 ok0 s0 G0 D nt ⟨sl,ob,fz,y⟩ a w:=by
 obtain ⟨ok,G,hi,r⟩:=h
 exact ⟨ok,G,Inv.nx hi y,r⟩
theorem SR.drew {st:St} {a:Act} {w:World} (h:SR B w0 ok0 s0 G0 D nt st a w):SR B w0 ok0 s0 G0 D nt st a w.drew:=by
 obtain ⟨ok,G,hi,h1,h2,h3,h4,h5,h6,h7⟩:=h
 obtain ⟨k1,k2⟩:=hi.drew
 exact ⟨ok,G,k1,h1,h2.trans k2,h3,h4.drew,h5.mono k2 (ObLe.refl _ _),h6,h7⟩
theorem SR.keep {sl:Nat→SV} {ob:Nat→Option AObj} {fz:Nat→Nat} {x:Nat} {a:Act} {w:World} (h:SR B w0 ok0 s0 G0 D nt ⟨sl,ob,fz,x⟩ a w) (ks:List Nat):SR B w0 ok0 s0 G0 D nt ⟨Ev.keep ks sl,ob,fz,x⟩ a w:=by
 obtain ⟨ok,G,hi,h1,h2,h3,h4,h5,h6,h7⟩:=h
 exact ⟨ok,G,hi,h1,h2,h3,h4,h5.keep ks,h6,h7⟩
theorem SR.evals {st:St} {a:Act} {w:World} (h:SR B w0 ok0 s0 G0 D nt st a w) {c:Operand} {c':Opd} (hc:cOpd c=some c') {t:Bool} (ht:isBool (c'.ev st.sl)=some t):a.eval c=.bool t:=by
 obtain ⟨ok,G,hi,h1,h2,h3,h4,h5,h6,_⟩:=h
 exact yas ht (y0a h5 hc)
theorem y136 (hm:P.follows .mixedOrders=true) (hC:Sound P F) (hF:FreshF F) (hB:B≤w0.heap.size) {id:Nat} {ops:Array Oper} {draw:Bool} {ac:ACode} (hc:cCode P br hs nt true (.region id ops draw)=some ac) {fuel:Nat} {st st':St} {e:Ex} (he:evC F fuel ac st=some (e,st'))
  {a:Act} {w:World} (hR:SR B w0 ok0 s0 G0 D nt st a w) (hFr:∀k,st.nx≤k→st.ob k=none) {Q:Exit→Act→World→Prop} (hQ:∀a w,SR B w0 ok0 s0 G0 D nt st' a w→Q e.exit a w):(Code.region id ops draw).wpIn (WF ro) n P Q a w:=by
 have hna:=y5m _ _ _ hc
 simp only [cCode] at hc
 split at hc
 ·rename_i aos0 haos
  obtain ⟨hl,hg⟩:=y8p haos
  have hlen0:aos0.length=ops.size:=by rw [←hl];simp
  have hco0:∀(j:Nat) (ao:AOper),aos0[j]? =some ao→∃o,ops[j]? =some o∧cOper P br nt ops .no o=some ao:=by
   intro j ao hj
   have hlt:j<ops.size:=by rw [←hlen0];exact (List.getElem?_eq_some_iff.1 hj).1
   exact ⟨ops[j],by simp [hlt],hg j ops[j] ao (by simp [hlt]) hj⟩
  have main:∀(dr:Bool) (aos:List AOper) (na:Nat) (ks:List Nat),dr=draw→aos.length=ops.size→(∀(j:Nat) (ao:AOper),aos[j]? =some ao→∃o,ops[j]? =some o∧cOper P br nt ops ao.lim o=some ao)→(dr=true→drawOk ops.toList aos=true)→naOk (.reg dr aos na ks)=true→
    evC F fuel (.reg dr aos na ks) st=some (e,st')→(Code.region id ops draw).wpIn (WF ro) n P Q a w:=by
   intro dr aos na ks hdr hlen hco hd hna h
   simp only [evC] at h
   split at h
   ·rename_i st1 hev
    cases h
    have hR':SR B w0 ok0 s0 G0 D nt { st with nx:=st.nx+na } a w:=SR.nx (x:=st.nx) hR _
    have hFr':∀k,st.nx+na≤k→st.ob k=none:=fun k hk=>hFr k (by omega)
    have hQ':∀a w,SR B w0 ok0 s0 G0 D nt st1 a w→Q .normal a w:=fun a w h=>hQ a w (h.keep ks)
    have hna':∀ao∈aos,ao.op.allocs=true→aos.length≤na:=by
     intro o ho hal
     have:aos.any (·.op.allocs)=true:=List.any_eq_true.2 ⟨o,ho,hal⟩
     simp only [naOk,this,cond_true] at hna
     exact y4g hna
    cases dr with
    | false=>
     subst hdr
     refine wpIn_region ?_
     have:=yol (ro:=ro) (n:=n) hC hF hB (ops:=ops) (Q:=Q) aos 0 (fun j ao hj=>by rw [Nat.zero_add];exact hco j ao hj) _ st1 a w hR' hFr'
      (fun ao hao hal=>⟨by have:=hna' ao hao hal;show st.nx+0+aos.length≤st.nx+na;omega,fun j hj=>hFr _ (by omega)⟩) hev hQ'
     rwa [hlen,←List.range_eq_range'] at this
    | true=>
     subst hdr
     refine wpIn_region_any hm ?_
     have hrem:rem ops.size (Array.replicate ops.size false)=List.range' 0 aos.length:=by
      rw [rem,hlen,←List.range_eq_range']
      exact List.filter_eq_self.2 fun j hj=>by simp [List.mem_range.1 hj,Array.getD_eq_getD_getElem?]
     refine yuz (rb:=st.nx) (stF:=st1) hC hF hB hlen hco (hd rfl) hQ' ops.size _ _ a w.drew (by simp) ?_ ?_ hR'.drew hFr' ?_ ?_
     ·intro k o hk hl
      exfalso
      by_cases hk:k<ops.size<;>simp [Array.getD_eq_getD_getElem?,Array.getElem?_replicate,hk] at hl
     ·rw [hrem];simp [hlen]
     ·intro j hj o hoj hal
      have hlt:=(List.getElem?_eq_some_iff.1 hoj).1
      have:=hna' o (List.mem_of_getElem? hoj) hal
      exact ⟨hFr _ (by omega),by show st.nx+j<st.nx+na;omega⟩
     ·rw [hrem,ygj aos 0 (fun j o hj=>by rw [Nat.zero_add];exact hj)]
      exact hev
   ·cases h
  have mainP:∀(pm:List PStep) (na:Nat) (ks:List Nat),draw=true→permOk ops.toList aos0 pm=true→naOk (.regp aos0 pm na ks)=true→
    evC F fuel (.regp aos0 pm na ks) st=some (e,st')→(Code.region id ops draw).wpIn (WF ro) n P Q a w:=by
   intro pm na ks hdr hd hna h
   subst hdr
   simp only [evC] at h
   split at h
   ·rename_i st1 hev
    cases h
    have hR':SR B w0 ok0 s0 G0 D nt { st with nx:=st.nx+na } a w:=SR.nx (x:=st.nx) hR _
    have hFr':∀k,st.nx+na≤k→st.ob k=none:=fun k hk=>hFr k (by omega)
    have hQ':∀a w,SR B w0 ok0 s0 G0 D nt st1 a w→Q .normal a w:=fun a w h=>hQ a w (h.keep ks)
    have hna':∀ao∈aos0,ao.op.allocs=true→aos0.length≤na:=by
     intro o ho hal
     have:aos0.any (·.op.allocs)=true:=List.any_eq_true.2 ⟨o,ho,hal⟩
     simp only [naOk,this,cond_true] at hna
     exact y4g hna
    refine wpIn_region_any hm ?_
    have hin:∀p∈pm,p.1<ops.size:=by
     simp only [permOk,Bool.and_eq_true,List.all_eq_true] at hd
     exact fun p hp=>by have:=y77 (hd.1.2 p hp);simpa using this
    have hrem:remP pm (Array.replicate ops.size false)=pm:=by
     refine List.filter_eq_self.2 fun p hp=> ?_
     simp [hin p hp,Array.getD_eq_getD_getElem?]
    have hpl:pm.length≤ops.size:=by
     simp only [permOk,Bool.and_eq_true] at hd
     simpa using y4g hd.1.1.1.1
    refine yrz (br:=br) (rb:=st.nx) (stF:=st1) hC hF hB hlen0 (fun j ao hj=> ?_) hd hQ' ops.size _ _ a w.drew (by simp) ?_ (by rw [hrem];exact hpl) hR'.drew hFr' ?_ (by rw [hrem];exact hev)
    ·obtain ⟨o,h1,h2⟩:=hco0 j ao hj
     exact ⟨o,h1,by rw [yxn h2];exact h2⟩
    ·intro k o hk hl
     exfalso
     by_cases hk:k<ops.size<;>simp [Array.getD_eq_getD_getElem?,Array.getElem?_replicate,hk] at hl
    ·intro p hp o hoj hal
     have hlt:=(List.getElem?_eq_some_iff.1 hoj).1
     have:=hna' o (List.mem_of_getElem? hoj) hal
     exact ⟨hFr _ (by omega),by show st.nx+p.1<st.nx+na;omega⟩
   ·cases h
  cases draw with
  | false=>
   simp only [Option.some.injEq] at hc
   subst hc
   refine main false aos0 _ _ rfl hlen0 (fun j ao hj=> ?_) (fun h=>by cases h) hna he
   obtain ⟨o,h1,h2⟩:=hco0 j ao hj
   have:ao.lim=.no:=by
    unfold cOper at h2
    split at h2
    ·obtain ⟨_,h2⟩:=y05 h2
     cases h2
     rfl
    ·cases h2
   rw [this]
   exact ⟨o,h1,h2⟩
  | true=>
   simp only at hc
   cases hmd:Nat.beq (hintOf id hs).1 5 with
   | true=>
    rw [hmd,cond_true] at hc
    obtain ⟨hd,hc⟩:=y05 hc
    cases hc
    exact mainP _ _ _ rfl hd hna he
   | false=>
   rw [hmd,cond_false] at hc
   obtain ⟨hd,hc⟩:=y05 hc
   cases hc
   refine main true _ _ _ rfl (by rw [(ya5 aos0 0).2,hlen0]) (fun j ao hj=> ?_) (fun _=>hd) hna he
   obtain ⟨o',h1,h2⟩:=ygl aos0 0 j ao hj
   obtain ⟨o,h3,h4⟩:=hco0 j o' h1
   refine ⟨o,h3, ?_⟩
   have:=yw2 (l:=ao.lim) h4
   rwa [←h2] at this
 ·cases hc
theorem yyk (hC:Sound P F) (hB:B≤w0.heap.size) (hCC:∀(nt:Nat) (c:Code) (ac:ACode),cCode P br hs nt true c=some ac→Cd.CC nt c ac) {g:Operand} {ps:Array Tmp} {asg body:Code} {g':Opd} {x y:ACode} (hg:cOpd g=some g') (hx:cCode P br hs nt true asg=some x) (hy:cCode P br hs nt true body=some y) (hps:ps.toList.all (Nat.blt · nt)=true)
  {fuel:Nat} {st st':St} {e:Ex} (he:evC F fuel (.rangeF g' ps.toList x y) st=some (e,st')) {a:Act} {w:World} (hR:SR B w0 ok0 s0 G0 D nt st a w) (hFr:∀k,st.nx≤k→st.ob k=none) {Q:Exit→Act→World→Prop} (hQ:∀a w,SR B w0 ok0 s0 G0 D nt st' a w→Q e.exit a w):
  (Code.rangeFunc g ps asg body).wpIn (WF none) n P Q a w:=by
 have hBw:=hR.size hB
 obtain ⟨ok,G,hi,hob,hcell,hle,hb,hT,hd,hnt⟩:=hR
 simp only [evC] at he
 split at he
 ·rename_i f first caps hgv
  split at he
  ·rename_i r s hF
   split at he
   ·rename_i l hl
    have hgr:=y0a hT hg
    rw [hgv] at hgr
    generalize hfv:a.eval g=fv at hgr
    cases hgr with | one _ _ hgr=>
    cases hgr with | fn _ _ _ vs us l1 l2 r1 r2=>
    obtain ⟨i1,o1,c1⟩:=hi.newObj hBw (id:=st.nx) (hFr _ (Nat.le_refl _)) (o:=.dfr) (.deferred (some [])) ⟨rfl,y9p w _⟩
    generalize hw1:w.alloc (.deferred (some []))=w1 at i1 c1
    have hs1:w1.heap.size=w.heap.size+1:=by rw [←hw1];exact World.size_alloc ..
    generalize hG1:setG G st.nx ⟨w.heap.size,0⟩=G1 at i1 o1
    have hid2:upd st.ob st.nx .dfr (st.nx+1)=none:=by rw [y00 (by omega)];exact hFr _ (by omega)
    have i2:∀fn:FuncId,_:=fun fn=>i1.newObj (by omega) (id:=st.nx+1) hid2 (o:=.loop ⟨st.sl,ps.toList,x,y,.ready,none⟩) (.loop { state:=.ready,pending:=none,fn:=fn,tmps:=a.tmps,params:=ps,assign:=asg,body:=body,defers:=w.heap.size })
     ⟨rfl,_,y9p w1 _,rfl,rfl,by simp,rfl,⟨nt,hnt,hCC _ _ _ hx,hCC _ _ _ hy,fun p hp=>y77 (List.all_eq_true.1 hps p hp)⟩,(hT.mono c1 o1).mono (y78 i1 _) (ObLe.new hid2 _ _)⟩
    refine wpIn_rangeFunc fun fn _=> ?_
    obtain ⟨i2,o2,c2⟩:=i2 fn
    have hbw2:Below B w (w1.alloc (.loop { state:=.ready,pending:=none,fn:=fn,tmps:=a.tmps,params:=ps,assign:=asg,body:=body,defers:=w.heap.size })):=by
     rw [←hw1]
     exact ((Below.refl B w).alloc hBw _).alloc (by rw [World.size_alloc];omega) _
    generalize hw2:w1.alloc (.loop { state:=.ready,pending:=none,fn:=fn,tmps:=a.tmps,params:=ps,assign:=asg,body:=body,defers:=w.heap.size })=w2 at i2 c2 hbw2
    have hs2:w2.heap.size=w1.heap.size+1:=by rw [←hw2];exact World.size_alloc ..
    generalize hG2:setG G1 (st.nx+1) ⟨w1.heap.size,0⟩=G2 at i2 o2
    have o12:ObLe st.ob G _ G2:=o1.trans o2
    have c12:CellLe w ok w2 ok:=c1.trans c2
    have hG2l:G2 (st.nx+1)=⟨w.heap.size+1,0⟩:=by rw [←hG2,setG_same,hs1]
    have hG2d:G2 st.nx=⟨w.heap.size,0⟩:=by rw [←hG2,y5g (by omega),←hG1,setG_same]
    have hyl:Rel w2 ok (upd (upd st.ob st.nx .dfr) (st.nx+1) (.loop ⟨st.sl,ps.toList,x,y,.ready,none⟩)) G2 (.yld (st.nx+1)) (.func (.yield (w.heap.size+1)) #[] #[]):=by
     have:=Rel.yld (w:=w2) (ok:=ok) (G:=G2) (st.nx+1) _ (upd_same (upd st.ob st.nx .dfr) (st.nx+1) (.loop ⟨st.sl,ps.toList,x,y,.ready,none⟩))
     rwa [hG2l] at this
    have hargs:RelSs w2 ok (upd (upd st.ob st.nx .dfr) (st.nx+1) (.loop ⟨st.sl,ps.toList,x,y,.ready,none⟩)) G2 (first.map .one++[.one (.yld (st.nx+1))]++caps.map .one) (vs++[.func (.yield (w.heap.size+1)) #[] #[]]++us):=
     (((RelSs.ones l1 r1).mono c12 o12).append ⟨rfl,fun j q v p1 p2=>by
      match j with
      | 0=>simp at p1 p2;subst p1;subst p2;exact .one _ _ hyl
      | j+1=>simp at p1⟩).append ((RelSs.ones l2 r2).mono c12 o12)
    obtain ⟨hcal,hcalls⟩:=hC (.fn f) _ _ _ _ hF
    have hcalls:=hcalls B w2 ok G2 _ (Inv.nx (x:=st.nx) i2 _) (fun k hk=>by
     simp only at hk ⊢
     rw [y00 (by omega),y00 (by omega)]
     exact hFr k (by omega)) (by omega) hargs
    refine ⟨w.heap.size+1,[{ target:=.collected w.heap.size,args:=#[] }],w2,{ target:=.fn (.func f) us.toArray,args:=(vs++[Value.func (.yield (w.heap.size+1)) #[] #[]]).toArray },w2,f,(vs++[Value.func (.yield (w.heap.size+1)) #[] #[]]++us).toArray,w2, ?_, ?_,fun _ _=>trivial, ?_,fun h=>(by cases h), ?_⟩
    ·rw [show (WF none).round=none from rfl,run_enterLoop_outer,hw1,hw2]
    ·have hev:∀v,a.eval (.const v)=v:=fun _=>rfl
     simp [resolve,rangeCall,hfv,Deferred.ofValue,hev]
    ·have:=yf3 (P:=P) hcal (vs++[Value.func (.yield (w.heap.size+1)) #[] #[]]++us).toArray w2
     simpa [invoke] using this
    ·refine (yjo (ro:=none) (n:=n-1) hcalls).mono ?_
     rintro e1 w3 ⟨v,rfl,ok3,G3,i3,o3,c3,le3,b3,_⟩
     obtain ⟨hfz,rec,hrec,hlr⟩:=i3.loops _ _ hl
     obtain ⟨l',hl',hG3⟩:=o3.loop _ _ (upd_same (upd st.ob st.nx .dfr) (st.nx+1) (.loop ⟨st.sl,ps.toList,x,y,.ready,none⟩))
     have hblk:(G3 (st.nx+1)).blk=w.heap.size+1:=by rw [hG3,hG2l]
     rw [hblk] at hrec
     have hdf:=o3.dfr st.nx (show upd (upd st.ob st.nx .dfr) (st.nx+1) (.loop ⟨st.sl,ps.toList,x,y,.ready,none⟩) st.nx=some .dfr by rw [y00 (by omega),upd_same])
     have hbusy:rec.state≠.busy:=by
      intro hb
      rw [hlr.st] at hb
      rw [hb] at he
      cases he
     have hend:=run_endLoop (P:=P) hrec hbusy
     have he':(l.pend.getD .nrm,(⟨st.sl,upd s.ob (st.nx+1) (.loop { l with st:=.exhausted }),s.fz,s.nx⟩:St))=(e,st'):=by
      split at he
      ·cases he
      ·exact Option.some.inj he
     cases he'
     have hloop:ObLe s.ob G3 (upd s.ob (st.nx+1) (.loop { l with st:=.exhausted })) G3:=ObLe.loopSet hl
     obtain ⟨i4,c4⟩:=i3.putObj (o':=.loop { l with st:=.exhausted }) hl (fun _ _ _ e=>by cases e) (.loop { rec with state:=.exhausted }) hloop fun hc hh=>⟨hfz,_,hh,rfl,hlr.pend,hlr.pendOk,hlr.ps,hlr.nt,(hlr.tmps.mono hc hloop)⟩
     rw [hblk] at i4 c4
     have hSR:SR B w0 ok0 s0 G0 D nt ⟨st.sl,upd s.ob (st.nx+1) (.loop { l with st:=.exhausted }),s.fz,s.nx⟩ { a with defers:=[{ target:=.collected w.heap.size,args:=#[] }]++a.defers } (w3.putObj (w.heap.size+1) (.loop { rec with state:=.exhausted })):=by
      have hO:=(o12.trans o3).trans hloop
      refine ⟨ok3,G3,i4,hob.trans hO,(hcell.trans (c12.trans c3)).trans c4,hle.trans le3,hb.trans (hbw2.trans (b3.trans ?_)),hT.mono ((c12.trans c3).trans c4) hO, ?_,hnt⟩
      ·exact ⟨rfl,rfl,rfl,by rw [World.putObj_size];exact Nat.le_refl _,fun k hk=>World.putObj_heap_other (by omega)⟩
      ·obtain ⟨ids,e1,e2,e3⟩:=hd.mono hO
       refine ⟨st.nx::ids, ?_,List.nodup_cons.2 ⟨fun hmem=> ?_,e2⟩,fun id hid=> ?_⟩
       ·simp only [e1,List.map_cons,List.cons_append,List.nil_append,hdf.2,hG2d]
       ·obtain ⟨ids',e1',_,e3'⟩:=hd
        have hlen:ids.length=ids'.length:=by
         have:=congrArg List.length (e1.symm.trans e1')
         simpa using this
        have h0:=(e3 st.nx hmem).1
        have hm:(G3 st.nx).blk∈ids.map (fun id=>(G3 id).blk):=List.mem_map.2 ⟨_,hmem,rfl⟩
        have hmap:ids.map (fun id=>(G3 id).blk)=ids'.map (fun id=>(G id).blk):=by
         have:=List.append_inj (e1.symm.trans e1') (by simp [hlen])
         have:=congrArg (List.map fun d:Deferred=>match d.target with | .collected b=>b | _=>0) this.1
         simpa [List.map_map,Function.comp_def] using this
        rw [hmap] at hm
        obtain ⟨k,hk,hkb⟩:=List.mem_map.1 hm
        have hlt:=hi.lt (e3' k hk).2
        rw [hdf.2,hG2d] at hkb
        simp only at hkb
        omega
       ·rcases List.mem_cons.1 hid with rfl | hid
        ·refine ⟨?_, ?_⟩
         ·cases h0:s0.ob st.nx with
          | none=>rfl
          | some o=>
           exfalso
           have hn:=hFr st.nx (Nat.le_refl _)
           cases o with
           | box cs=>obtain ⟨_,h,_⟩:=hob.box _ _ h0;rw [hn] at h;cases h
           | row sz es ver=>obtain ⟨_,_,h,_⟩:=hob.row _ _ _ _ h0;rw [hn] at h;cases h
           | map es c=>obtain ⟨_,_,h,_⟩:=hob.map _ _ _ h0;rw [hn] at h;cases h
           | loop l=>obtain ⟨_,h,_⟩:=hob.loop _ _ h0;rw [hn] at h;cases h
           | dfr=>have h:=(hob.dfr _ h0).1;rw [hn] at h;cases h
         ·show upd s.ob (st.nx+1) _ st.nx=some .dfr
          rw [y00 (by omega)];exact hdf.1
        ·exact e3 id hid
     refine ⟨rec.pending,_,hend, ?_⟩
     have hq:=hQ _ _ hSR
     rw [hlr.pend] at hq ⊢
     cases hp:l.pend with
     | none=>
      rw [hp] at hq
      exact hq
     | some e'=>
      rw [hp] at hq
      cases e' with
      | nrm=>exact absurd hp hlr.pendOk
      | ext id=>exact wpIn_exit hq
      | ret=>exact wpIn_ret hq
   ·cases he
  ·cases he
 ·cases he
theorem y87 (hm:P.follows .mixedOrders=true) (hC:Sound P F) (hF:FreshF F) (hB:B≤w0.heap.size) (hCC:∀(nt:Nat) (c:Code) (ac:ACode),cCode P br hs nt true c=some ac→Cd.CC nt c ac) (fuel:Nat):∀(rd:Bool) (c:Code) (ac:ACode),(rd=false→ro=none)→cCode P br hs nt rd c=some ac→∀(st st':St) (e:Ex),evC F fuel ac st=some (e,st')→
  ∀(a:Act) (w:World),SR B w0 ok0 s0 G0 D nt st a w→(∀k,st.nx≤k→st.ob k=none)→∀(Q:Exit→Act→World→Prop),(∀a w,SR B w0 ok0 s0 G0 D nt st' a w→Q e.exit a w)→c.wpIn (WF ro) n P Q a w
 | rd,.skip,ac,hrd,hc,st,st',e,he,a,w,hR,hFr,Q,hQ=>by
  have hc:some ACode.skip=some ac:=by cases rd<;>exact hc
  cases hc
  cases he
  exact wpIn_skip (hQ _ _ hR)
 | rd,.region id ops draw,ac,hrd,hc,st,st',e,he,a,w,hR,hFr,Q,hQ=>y136 hm hC hF hB (by cases rd<;>exact hc) he hR hFr hQ
 | rd,.seq x y,ac,hrd,hc,st,st',e,he,a,w,hR,hFr,Q,hQ=>by
  have hc:(match cCode P br hs nt rd x,cCode P br hs nt rd y with | some x,some y=>some (ACode.seq x y) | _,_=>none)=some ac:=by cases rd<;>exact hc
  split at hc
  ·rename_i x' y' hx hy
   cases hc
   simp only [evC] at he
   refine wpIn_seq ?_
   split at he
   ·rename_i st1 h1
    exact y87 hm hC hF hB hCC fuel rd x x' hrd hx st st1 _ h1 a w hR hFr _ fun a w hR1=>y87 hm hC hF hB hCC fuel rd y y' hrd hy st1 st' e he a w hR1 ((y4z hF fuel x' (y5m _ x x' hx) st st1 _ h1).new hFr) Q hQ
   ·rename_i e1 st1 hne h1
    cases he
    refine y87 hm hC hF hB hCC fuel rd x x' hrd hx st st' _ h1 a w hR hFr _ fun a w hR1=> ?_
    have:=hQ a w hR1
    cases e with
    | nrm=>exact (hne rfl).elim
    | ext id=>exact this
    | ret=>exact this
   ·cases he
  ·cases hc
 | rd,.cond z x y,ac,hrd,hc,st,st',e,he,a,w,hR,hFr,Q,hQ=>by
  have hc:(match cOpd z,cCode P br hs nt rd x,cCode P br hs nt rd y with | some z,some x,some y=>some (ACode.cond z x y) | _,_,_=>none)=some ac:=by cases rd<;>exact hc
  split at hc
  ·rename_i z' x' y' hz hx hy
   cases hc
   simp only [evC] at he
   split at he
   ·rename_i t ht
    refine wpIn_cond (hR.evals hz ht) ?_
    cases t with
    | true=>exact y87 hm hC hF hB hCC fuel rd x x' hrd hx st st' e he a w hR hFr Q hQ
    | false=>exact y87 hm hC hF hB hCC fuel rd y y' hrd hy st st' e he a w hR hFr Q hQ
   ·cases he
  ·cases hc
 | rd,.block id x,ac,hrd,hc,st,st',e,he,a,w,hR,hFr,Q,hQ=>by
  have hc:(match cCode P br hs nt rd x with | some x=>some (ACode.block id x) | none=>none)=some ac:=by cases rd<;>exact hc
  split at hc
  ·rename_i x' hx
   cases hc
   simp only [evC] at he
   refine wpIn_block ?_
   split at he
   ·rename_i id' st1 h1
    refine y87 hm hC hF hB hCC fuel rd x x' hrd hx st st1 _ h1 a w hR hFr _ fun a w hR1=> ?_
    cases hb:Nat.beq id' id with
    | true=>
     rw [hb] at he
     cases he
     have:=Nat.eq_of_beq_eq_true hb
     simp only [Ex.exit,Exit.inBlock,this,if_true]
     exact hQ a w hR1
    | false=>
     rw [hb] at he
     cases he
     have hne:¬id'=id:=fun e=>by subst e;rw [y5b] at hb;cases hb
     simp only [Ex.exit,Exit.inBlock,hne,if_false]
     exact hQ a w hR1
   ·rename_i hne
    refine y87 hm hC hF hB hCC fuel rd x x' hrd hx st st' _ he a w hR hFr _ fun a w hR1=> ?_
    have:=hQ a w hR1
    cases e with
    | nrm=>exact this
    | ext id=>exact absurd he (hne _ _)
    | ret=>exact this
  ·cases hc
 | rd,.loop x,ac,hrd,hc,st,st',e,he,a,w,hR,hFr,Q,hQ=>by
  have hc:(match cCode P br hs nt rd x with | some x=>some (ACode.loop x) | none=>none)=some ac:=by cases rd<;>exact hc
  split at hc
  ·rename_i x' hx
   cases hc
   simp only [evC] at he
   refine wpIn_loop_rounds fuel ?_
   have key:∀(k:Nat) (st:St) (a:Act) (w:World),loopN (evC F fuel x') k st=some (e,st')→SR B w0 ok0 s0 G0 D nt st a w→(∀k,st.nx≤k→st.ob k=none)→Code.roundsIn (WF ro) n P x Q k a w:=by
    intro k
    induction k with
    | zero=>intro st a w h;cases h
    | succ k ih=>
     intro st a w h hR hFr
     simp only [loopN] at h
     rw [roundsIn_succ]
     split at h
     ·rename_i st1 h1
      exact y87 hm hC hF hB hCC fuel rd x x' hrd hx st st1 _ h1 a w hR hFr _ fun a w hR1=>ih st1 a w h hR1 ((y4z hF fuel x' (y5m _ x x' hx) st st1 _ h1).new hFr)
     ·rename_i e1 st1 hne h1
      cases h
      refine y87 hm hC hF hB hCC fuel rd x x' hrd hx st st' _ h1 a w hR hFr _ fun a w hR1=> ?_
      have:=hQ a w hR1
      cases e with
      | nrm=>exact (hne rfl).elim
      | ext id=>exact this
      | ret=>exact this
     ·cases h
   exact key fuel st a w he hR hFr
  ·cases hc
 | rd,.exit id,ac,hrd,hc,st,st',e,he,a,w,hR,hFr,Q,hQ=>by
  have hc:some (ACode.exit id)=some ac:=by cases rd<;>exact hc
  cases hc
  cases he
  exact wpIn_exit (hQ _ _ hR)
 | rd,.ret,ac,hrd,hc,st,st',e,he,a,w,hR,hFr,Q,hQ=>by
  have hc:some ACode.ret=some ac:=by cases rd<;>exact hc
  cases hc
  cases he
  exact wpIn_ret (hQ _ _ hR)
 | false,.rangeFunc g ps asg body,ac,hrd,hc,st,st',e,he,a,w,hR,hFr,Q,hQ=>by
  cases hrd rfl
  simp only [cCode] at hc
  split at hc
  ·rename_i z x y hz hx hy
   obtain ⟨hps,hc⟩:=y05 hc
   cases hc
   exact yyk hC hB hCC hz hx hy hps he hR hFr hQ
  ·cases hc
 | true,.rangeFunc _ _ _ _,ac,_,hc,_,_,_,_,_,_,_,_,_,_=>by cases hc
 | rd,.scope _,ac,_,hc,_,_,_,_,_,_,_,_,_,_=>by cases rd<;>cases hc
 | rd,.label _,ac,_,hc,_,_,_,_,_,_,_,_,_,_=>by cases rd<;>cases hc
 | rd,.goto _,ac,_,hc,_,_,_,_,_,_,_,_,_,_=>by cases rd<;>cases hc
 | rd,.refuse _,ac,_,hc,_,_,_,_,_,_,_,_,_,_=>by cases rd<;>cases hc
theorem y13e {st:St} {a:Act} {w:World} (hR:SR B w0 ok0 s0 G0 D nt st a w):∃ok G,Inv B w ok st.sto G∧ObLe s0.ob G0 st.ob G∧CellLe w0 ok0 w ok∧OkLe B ok0 ok∧Below B w0 w∧DfOk s0.ob st.ob G D a.defers∧
  ∀(fn:Func) (rs:List ARes) (x:SV),fn.results.toList.mapM (cRes P)=some rs→resAll st rs=some x→∃v,(results fn a.tmps).run P w=.ok v w∧RelS w ok st.ob G x v:=by
 obtain ⟨ok,G,hi,h1,h2,h3,h4,hT,h6,_⟩:=hR
 refine ⟨ok,G,hi,h1,h2,h3,h4,h6, ?_⟩
 have hone:∀(r:ResultVar) (r':ARes) (x:SV),cRes P r=some r'→resOf st r'=some x→
   ∃v,(match r with | .tmp t=>pure (a.tmps.getD t undef) | .cell q t=>do loadVar t (←asAddr (a.tmps.getD q undef)):Sem Value).run P w=.ok v w∧RelS w ok st.ob G x v:=by
  intro r r' x hr hx
  cases r with
  | tmp t=>
   simp only [cRes,Option.some.injEq] at hr
   subst hr
   cases hx
   exact ⟨_,rfl,hT.getD t⟩
  | cell q t=>
   simp only [cRes] at hr
   split at hr
   ·rename_i agg m hagg hm
    obtain ⟨hb,hr⟩:=y05 hr
    cases hr
    simp only [resOf] at hx
    split at hx
    ·rename_i cs hcs
     obtain ⟨b,off,vs,hv,hl,hrl,hcell⟩:=yjv hi (hT.getD q) hcs
     have h1:agg=true∨m=1:=by
      simp only [Bool.or_eq_true] at hb
      exact hb.imp id fun h=>Nat.eq_of_beq_eq_true h
     obtain ⟨v,hrun,hrel⟩:=yer (P:=P) hagg hm h1 hl hrl hcell hx
     refine ⟨v, ?_,hrel⟩
     simp only [hv,Sem.run_bind,asAddr,Sem.run_pure,Result.andThen_ok,hrun]
    ·cases hx
   ·cases hr
 intro fn rs x hrs hx
 have hmany:∀(l:List ResultVar) (l':List ARes) (xs:List SV),l.mapM (cRes P)=some l'→l'.mapM (resOf st)=some xs→
   ∃vs,(l.mapM fun (r:ResultVar)=>(match r with | .tmp t=>pure (a.tmps.getD t undef) | .cell q t=>do loadVar t (←asAddr (a.tmps.getD q undef)):Sem Value)).run P w=.ok vs w∧RelSs w ok st.ob G xs vs:=by
  intro l
  induction l with
  | nil=>
   intro l' xs h1 h2
   simp at h1
   subst h1
   simp at h2
   subst h2
   exact ⟨[],rfl,rfl,fun j x v p _=>by simp at p⟩
  | cons r l ih=>
   intro l' xs h1 h2
   obtain ⟨r',l'',e1,e2,rfl⟩:=(mapM_cons _ _ _ _).1 h1
   obtain ⟨x,xs',e3,e4,rfl⟩:=(mapM_cons _ _ _ _).1 h2
   obtain ⟨v,k1,k2⟩:=hone r r' x e1 e3
   obtain ⟨vs,k3,k4,k5⟩:=ih l'' xs' e2 e4
   refine ⟨v::vs, ?_,by simp [k4],fun j y u p q=> ?_⟩
   ·rw [List.mapM_cons,Sem.run_bind,k1,Result.andThen_ok,Sem.run_bind,k3,Result.andThen_ok,Sem.run_pure]
   ·cases j with
    | zero=>simp at p q;subst p;subst q;exact k2
    | succ j=>simp at p q;exact k5 j y u p q
 have hsplit:∃xs,rs.mapM (resOf st)=some xs∧(∀y,xs=[y]→x=y)∧(xs.length≠1→x=.tup xs):=by
  unfold resAll at hx
  split at hx
  ·rename_i r
   refine ⟨[x],by simp [hx],fun y e=>by simpa using e,fun h=>by simp at h⟩
  ·rename_i hne
   split at hx
   ·rename_i vs hvs
    cases hx
    refine ⟨vs,hvs,fun y e=> ?_,fun _=>rfl⟩
    exfalso
    have:=(y8p hvs).1
    rw [e] at this
    match rs,this with
    | [r],_=>exact hne r rfl
   ·cases hx
 obtain ⟨xs,e1,e2,e3⟩:=hsplit
 obtain ⟨vs,k1,k2,k3⟩:=hmany _ _ _ hrs e1
 have hrun:(results fn a.tmps).run P w=.ok (if h:vs.toArray.size=1 then vs.toArray[0] else .tuple vs.toArray) w:=by
  unfold results
  rw [Array.mapM_eq_mapM_toList]
  simp only [Sem.run_bind,Sem.run_map,Result.andThen_ok,Sem.run_pure]
  exact congrArg (fun r:Result (List Value)=>(r.andThen fun a w'=>Result.ok a.toArray w').andThen fun a w'=>Result.ok (if h:a.size=1 then a[0] else Value.tuple a) w') k1
 refine ⟨_,hrun, ?_⟩
 by_cases h:vs.toArray.size=1
 ·rw [dif_pos h]
  have hv1:vs.length=1:=by simpa using h
  obtain ⟨v,rfl⟩:=List.length_eq_one_iff.1 hv1
  obtain ⟨y,rfl⟩:=List.length_eq_one_iff.1 (k2.trans hv1)
  rw [e2 y rfl]
  exact k3 0 y v (by simp) (by simp)
 ·rw [dif_neg h]
  rw [e3 (by rw [k2];simpa using h)]
  exact .tup _ _ k2 k3
def EnvOk (P:Program) (E:Env):Prop:=∀f fn,E f=some fn→∃br hs,cFunc P br hs f=some fn
theorem EnvOk.na {E:Env} (hE:EnvOk P E):∀f fn,E f=some fn→naOk fn.code=true:=by
 intro f afn hf
 obtain ⟨br,hs,hcf⟩:=hE f afn hf
 unfold cFunc at hcf
 split at hcf
 ·split at hcf
  ·split at hcf
   ·rename_i hac _
    rw [Bool.cond_eq_ite] at hcf
    split at hcf
    ·cases hcf
    ·cases hcf
     exact y5m _ _ _ hac
   ·cases hcf
  ·cases hcf
 ·cases hcf
theorem yju:∀(args:List SV) (k t:Nat),Ev.env (ofArgs k args) t=if k≤t∧t<k+args.length then args.getD (t-k) .unk else .unk
 | [],k,t=>by simp [ofArgs,Ev.env]
 | v::r,k,t=>by
  simp only [ofArgs,Ev.env]
  by_cases e:k=t
  ·subst e
   simp [y5b]
  ·rw [y8j e,cond_false,yju r (k+1) t]
   by_cases h:k+1≤t∧t<k+1+r.length
   ·rw [if_pos h,if_pos (by simp only [List.length_cons];omega)]
    rw [show t-k=(t-(k+1))+1 by omega]
    simp
   ·rw [if_neg h,if_neg (by simp only [List.length_cons];omega)]
theorem yq0 (ob0 ob:Nat→Option AObj) (n:Nat) {x:SV} {cs:List AV} (h:loadAt ob n x=some cs):loadAt (shut ob0 ob) n x=some cs:=by
 cases x with
 | one v=>
  cases v with
  | box id off=>
   simp only [loadAt] at h ⊢
   split at h
   ·rename_i c hob;rw [y6k hob (by simp)];exact h
   ·cases h
  | raddr id ver i off=>
   simp only [loadAt] at h ⊢
   split at h
   ·rename_i es hrow
    have:rowAt (shut ob0 ob) id ver=rowAt ob id ver:=by
     unfold rowAt at hrow ⊢
     split at hrow
     ·rename_i sz ez v hob;simp only [y6k (ob0:=ob0) hob (by simp),hob]
     ·cases hrow
    rw [this,hrow]
    exact h
   ·cases h
  | _=>exact h
 | _=>exact h
theorem yil (ob0:Nat→Option AObj) {sl:Nat→SV} {ob:Nat→Option AObj} {fz:Nat→Nat} {nx:Nat} {r:ARes} {x:SV} (h:resOf ⟨sl,ob,fz,nx⟩ r=some x):resOf ⟨sl,shut ob0 ob,fz,nx⟩ r=some x:=by
 cases r with
 | tmp t=>exact h
 | cell t agg n=>
  simp only [resOf] at h ⊢
  split at h
  ·rename_i cs hcs;rw [yq0 ob0 ob n hcs];exact h
  ·cases h
theorem yq6 (ob0:Nat→Option AObj) {sl:Nat→SV} {ob:Nat→Option AObj} {fz:Nat→Nat} {nx:Nat} {rs:List ARes} {x:SV} (h:resAll ⟨sl,ob,fz,nx⟩ rs=some x):resAll ⟨sl,shut ob0 ob,fz,nx⟩ rs=some x:=by
 have hM:∀(rs:List ARes) (xs:List SV),rs.mapM (resOf ⟨sl,ob,fz,nx⟩)=some xs→rs.mapM (resOf ⟨sl,shut ob0 ob,fz,nx⟩)=some xs:=by
  intro rs
  induction rs with
  | nil=>intro xs h;exact h
  | cons r rs ih=>
   intro xs h
   obtain ⟨y,l,h1,h2,rfl⟩:=(mapM_cons _ _ _ _).1 h
   exact (mapM_cons _ _ _ _).2 ⟨y,l,yil ob0 h1,ih l h2,rfl⟩
 unfold resAll at h ⊢
 split at h
 ·exact yil ob0 h
 ·split at h
  ·rename_i vs hvs
   rw [hM _ _ hvs]
   exact h
  ·cases h
theorem ylp {fn:Func} {R:Ending→World→Prop} {ob0:Nat→Option AObj} {fz:Nat→Nat} {nx:Nat} {G:Nat→GB} {ok:Nat→Nat→Prop} {tmps:Array Value}:∀(ids:List Nat) (ob:Nat→Option AObj) (w:World),Inv B w ok ⟨ob,fz,nx⟩ G→ids.Nodup→(∀id∈ids,ob0 id=none∧ob id=some .dfr)→
  (∀w',Inv B w' ok ⟨shut ob0 ob,fz,nx⟩ G→CellLe w ok w' ok→Below B w w'→LeavesIn (WF none) n P fn tmps R [] .returning w')→
  LeavesInM (WF none) n P fn tmps R (ids.map (fun id=>{ target:=.collected (G id).blk,args:=#[] })) .returning w
 | [],ob,w,hi,_,_,hR=>hR w (hi.shut ob0) (CellLe.refl _ _) (Below.refl _ _)
 | id::ids,ob,w,hi,hnd,hid,hR=>by
  obtain ⟨h0,h1⟩:=hid id (by simp)
  obtain ⟨hnot,hnd'⟩:=List.nodup_cons.1 hnd
  have hblk:=(hi.dfrs id h1).2
  obtain ⟨i1,c1,_⟩:=hi.take h1 (.deferred none)
  refine ⟨by simp,.inl ⟨(G id).blk,w.putObj (G id).blk (.deferred none),rfl,run_takeDeferred hblk, ?_⟩⟩
  refine ylp (ob0:=ob0) ids (dropI id ob) _ i1 hnd' (fun k hk=> ?_) fun w' hi' hc hb=> ?_
  ·refine ⟨(hid k (by simp [hk])).1, ?_⟩
   unfold dropI
   rw [if_neg (fun e=>by subst e;exact hnot hk)]
   exact (hid k (by simp [hk])).2
  ·have e:shut ob0 (dropI id ob)=shut ob0 ob:=by
    funext k
    by_cases hk:k=id
    ·subst hk
     simp [shut,dropI,h1,h0]
    ·simp [shut,dropI,hk]
   rw [e] at hi'
   refine hR w' hi' (c1.trans hc) ((yl4 (hi.base id _ h1) _).trans hb)
theorem ygp {w:World} {ok:Nat→Nat→Prop} {ob:Nat→Option AObj} {G:Nat→GB}:∀(ps:List Nat) (args:List SV) (vals:List Value) (sl:Nat→SV) (tmps:Array Value),RelSs w ok ob G args vals→args.length=ps.length→(∀p∈ps,p<tmps.size)→RelT w ok ob G sl tmps→
  RelT w ok ob G (setPs ps args sl) ((ps.zip vals).foldl (fun tmps (t,a)=>tmps.setIfInBounds t a) tmps)∧((ps.zip vals).foldl (fun tmps (t,a)=>tmps.setIfInBounds t a) tmps).size=tmps.size
 | [],args,vals,sl,tmps,h,hl,hp,hT=>by
  have:args=[]:=List.length_eq_zero_iff.1 hl
  subst this
  exact ⟨hT,rfl⟩
 | p::ps,args,vals,sl,tmps,h,hl,hp,hT=>by
  cases args with
  | nil=>simp at hl
  | cons x args=>
   cases vals with
   | nil=>have:=h.1;simp at this
   | cons v vals=>
    have hput:RelT w ok ob G (putS sl (some p) x) (tmps.setIfInBounds p v):=RelT.put (a:={ tmps:=tmps,defers:=[] }) hT (some p) (fun t e=>by cases e;exact hp _ (by simp)) (h.2 0 x v (by simp) (by simp))
    obtain ⟨h1,h2⟩:=ygp ps args vals (putS sl (some p) x) (tmps.setIfInBounds p v) ⟨by have:=h.1;simpa using this,fun j y u p q=>h.2 (j+1) y u (by simpa using p) (by simpa using q)⟩ (by simpa using hl) (fun q hq=>by rw [Array.size_setIfInBounds];exact hp q (by simp [hq])) hput
    exact ⟨h1,by rw [List.zip_cons_cons,List.foldl_cons,h2,Array.size_setIfInBounds]⟩
theorem yc2 (hm:P.follows .mixedOrders=true) (hCC:∀(nt:Nat) (c:Code) (ac:ACode),Cd.CC nt c ac↔∃br hs,cCode P br hs nt true c=some ac) {E:Env} (hE:EnvOk P E):∀n,Sound P (evF E n)
 | 0=>fun c args s r s' h=>by cases c<;>cases h
 | n+1=>by
  intro c args s r s' h
  cases c with
  | fn f=>
   simp only [evF] at h
   split at h
   ·rename_i afn hf
    obtain ⟨br,hs,hcf⟩:=hE f afn hf
    unfold cFunc at hcf
    split at hcf
    ·rename_i fn hfn
     split at hcf
     ·rename_i c hbody
      split at hcf
      ·rename_i ac rs hac hrs
       cases hname : (fn.name == "runtime.NumGoroutine") with
       | true=>rw [hname] at hcf;cases hcf
       | false=>
        rw [hname] at hcf
        cases hcf
        refine ⟨by simp [callable,hfn,hbody,hname], ?_⟩
        intro B w ok G vals hi hFr hB hr
        have main:∃e st x,(e=.nrm∨e=.ret)∧evC (evF E n) n ac { sl:=Ev.env (ofArgs 0 args),ob:=s.ob,fz:=s.fz,nx:=s.nx }=some (e,st)∧resAll st rs=some x∧r=x∧s'=⟨shut s.ob st.ob,st.fz,st.nx⟩:=by
         split at h
         ·rename_i st hst
          split at h
          ·rename_i x hx;cases h;exact ⟨_,st,_,.inl rfl,hst,hx,rfl,rfl⟩
          ·cases h
         ·rename_i st hst
          split at h
          ·rename_i x hx;cases h;exact ⟨_,st,_,.inr rfl,hst,hx,rfl,rfl⟩
          ·cases h
         ·cases h
        obtain ⟨e,st,x,hee,hst,hx,rfl,rfl⟩:=main
        refine callsIn_wide (n:=0).1 (callsIn_of_wp_marks (F:=WF none) hfn hbody trivial ?_)
        refine y87 (ro:=none) (D:=[]) (nt:=fn.ntmps) (w0:=w) (ok0:=ok) (s0:=s) (G0:=G) hm (yc2 hm hCC hE n) (y8o hE.na n) hB (fun nt c ac h=>(hCC nt c ac).2 ⟨_,_,h⟩) n false c ac (fun _=>rfl) hac _ st e hst _ w ?_ hFr _ ?_
        ·refine ⟨ok,G,hi,ObLe.refl _ _,CellLe.refl _ _,OkLe.refl _ _,Below.refl _ _,fun t=> ?_,⟨[],rfl,List.nodup_nil,fun _ h=>by simp at h⟩,by simp;omega⟩
         show RelS w ok s.ob G (Ev.env (ofArgs 0 args) t) ((vals.toArray++Array.replicate (fn.ntmps-vals.toArray.size) undef).getD t undef)
         rw [yju]
         by_cases ht:t<args.length
         ·rw [if_pos (by omega)]
          have h1:t<vals.length:=by rw [←hr.1];exact ht
          have:=hr.2 t args[t] vals[t] (by simp [ht]) (by simp [h1])
          simpa [List.getD,Array.getD_eq_getD_getElem?,Array.getElem?_append,ht,h1] using this
         ·rw [if_neg (by omega)]
          exact .unk _
        ·intro a w' hR
         obtain ⟨ok',G',hi',h1,h2,h3,h4,hT,⟨ids,e1,e2,e3⟩,h6⟩:=hR
         have hfin:LeavesInM (WF none) 0 P fn a.tmps (fun e w'=>∃v,e=.returned v∧Post B w ok s G ⟨shut s.ob st.ob,st.fz,st.nx⟩ r v w') a.defers .returning w':=by
          rw [e1,List.append_nil]
          refine ylp (ob0:=s.ob) ids st.ob w' hi' e2 e3 fun w2 hi2 hc2 hb2=> ?_
          have hSR:SR B w ok s G [] fn.ntmps ⟨st.sl,shut s.ob st.ob,st.fz,st.nx⟩ { a with defers:=[] } w2:=
           ⟨ok',G',hi2,yzu h1,h2.trans hc2,h3,h4.trans hb2,hT.mono0 hc2 (yoa _ _ _),⟨[],rfl,List.nodup_nil,fun _ h=>by simp at h⟩,h6⟩
          obtain ⟨ok3,G3,i3,k1,k2,k3,k4,_,hres⟩:=y13e (P:=P) hSR
          obtain ⟨v,hrun,hrel⟩:=hres fn rs r hrs (yq6 s.ob hx)
          exact ⟨v,hrun,v,rfl,ok3,G3,i3,k1,k2,k3,k4,hrel⟩
         rcases hee with rfl | rfl
         ·exact hfin
         ·exact hfin
      ·cases hcf
     ·cases hcf
    ·cases hcf
   ·cases h
  | rnd l=>
   intro B w ok G vals hi hFr hB hr
   simp only [evF] at h
   split at h
   ·rename_i r0 hr0
    obtain ⟨hb,h⟩:=y05 h
    simp only [Bool.and_eq_true] at hb
    obtain ⟨⟨hlen,hna1⟩,hna2⟩:=hb
    have hlen:args.length=r0.ps.length:=Nat.eq_of_beq_eq_true hlen
    obtain ⟨hfz,rec,hrec,hlr⟩:=hi.loops l r0 hr0
    obtain ⟨nt,hnt,hc1,hc2,hps⟩:=hlr.nt
    obtain ⟨br1,hs1,hc1⟩:=(hCC _ _ _).1 hc1
    obtain ⟨br2,hs2,hc2⟩:=(hCC _ _ _).1 hc2
    refine ⟨rec,hrec,by rw [←hr.1,hlen,←hlr.ps];simp,fun ro m=> ?_⟩
    have hzip:(rec.params.zip vals.toArray).foldl (fun tmps (x:Tmp×Value)=>tmps.setIfInBounds x.1 x.2) rec.tmps=((r0.ps.zip vals).foldl (fun tmps (x:Nat×Value)=>tmps.setIfInBounds x.1 x.2) rec.tmps):=by
     rw [←hlr.ps,←Array.foldl_toList,Array.toList_zip]
    obtain ⟨hT1,hsz1⟩:=ygp r0.ps args vals r0.sl rec.tmps hr hlen (fun p hp=>Nat.lt_of_lt_of_le (hps p hp) hnt) hlr.tmps
    have hround:∀(tm:Array Value),tm=((r0.ps.zip vals).foldl (fun tmps (t,a)=>tmps.setIfInBounds t a) rec.tmps)→RoundIn (WF ro) m P (G l).blk rec.fn tm rec.assign rec.body w fun e w'=>∃v,e=.returned v∧Post B w ok s G s' r v w':=by
     intro tm htm
     refine roundIn_of_wpIn trivial ?_
     split at h
     ·rename_i st hst
      refine y87 (ro:=some (G l).blk) (D:=[]) (nt:=nt) (w0:=w) (ok0:=ok) (s0:=s) (G0:=G) hm (yc2 hm hCC hE n) (y8o hE.na n) hB (fun nt c ac h=>(hCC nt c ac).2 ⟨_,_,h⟩) n true rec.assign r0.asg (fun h=>by cases h) hc1 _ st .nrm hst _ w ?_ hFr _ ?_
      ·exact ⟨ok,G,hi,ObLe.refl _ _,CellLe.refl _ _,OkLe.refl _ _,Below.refl _ _,by rw [htm];exact hT1,⟨[],rfl,List.nodup_nil,fun _ h=>by simp at h⟩,by rw [htm,hsz1];exact hnt⟩
      ·intro a1 w1 hR1
       have hf1:=y4z (y8o hE.na n) n r0.asg hna1 _ st _ hst
       obtain ⟨ok1,G1,i1,o1,c1,le1,b1,T1,d1,n1⟩:=hR1
       split at h
       ·rename_i r1 hr1
        split at h
        ·rename_i hready
         obtain ⟨hfz1,rec1,hrec1,hlr1⟩:=i1.loops l r1 hr1
         obtain ⟨_,_,hG1⟩:=o1.loop l r0 hr0
         have hG1:G1 l=G l:=hG1
         rw [hG1] at hrec1
         have hbegin:=run_beginRound (P:=P) hrec1 (by rw [hlr1.st,hready])
         have hl1:ObLe st.ob G1 (upd st.ob l (.loop { r1 with st:=.busy })) G1:=ObLe.loopSet hr1
         obtain ⟨i2,c2⟩:=i1.putObj (o':=.loop { r1 with st:=.busy }) hr1 (fun _ _ _ e=>by cases e) (.loop { rec1 with state:=.busy }) hl1 fun hc hh=>⟨hfz1,_,hh,rfl,hlr1.pend,hlr1.pendOk,hlr1.ps,hlr1.nt,hlr1.tmps.mono hc hl1⟩
         rw [hG1] at i2 c2
         have hBl:B≤(G l).blk:=hi.base l _ hr0
         have hbl:∀(w:World) (O:Obj),Below B w (w.putObj (G l).blk O):=fun w O=>⟨rfl,rfl,rfl,by rw [World.putObj_size];exact Nat.le_refl _,fun k hk=>World.putObj_heap_other (by omega)⟩
         split at h
         ·rename_i e st2 hst2
          refine ⟨_,hbegin, ?_⟩
          refine y87 (ro:=some (G l).blk) (D:=[]) (nt:=nt) (w0:=w) (ok0:=ok) (s0:=s) (G0:=G) hm (yc2 hm hCC hE n) (y8o hE.na n) hB (fun nt c ac h=>(hCC nt c ac).2 ⟨_,_,h⟩) n true rec.body r0.body (fun h=>by cases h) hc2 _ st2 e hst2 _ _ ?_ ?_ _ ?_
          ·exact ⟨ok1,G1,i2,o1.trans hl1,c1.trans c2,le1,b1.trans (hbl _ _),T1.mono c2 hl1,d1.mono hl1,n1⟩
          ·intro k hk
           have h1:st.ob k=none:=hf1.new hFr k hk
           show upd st.ob l _ k=none
           rw [y00 (fun e=>by rw [e,hr1] at h1;cases h1)]
           exact h1
          ·intro a2 w2 hR2
           obtain ⟨ok2,G2,i3,o3,c3,le3,b3,T3,d3,n3⟩:=hR2
           split at h
           ·rename_i r2 hr2
            obtain ⟨hfz2,rec2,hrec2,hlr2⟩:=i3.loops l r2 hr2
            obtain ⟨_,_,hG2⟩:=o3.loop l r0 hr0
            have hG2:G2 l=G l:=hG2
            rw [hG2] at hrec2
            have fin:∀(r3:ALoop) (rec3:Loop) (v:Bool),(∀(w':World),CellLe w2 ok2 w' ok2→LoopR w' ok2 (upd st2.ob l (.loop r3)) G2 r3 rec3)→Post B w ok s G ⟨upd st2.ob l (.loop r3),st2.fz,st2.nx⟩ (.one (.bool v)) (.bool v) (w2.putObj (G l).blk (.loop rec3)):=by
             intro r3 rec3 v hlr3
             have hl3:ObLe st2.ob G2 (upd st2.ob l (.loop r3)) G2:=ObLe.loopSet hr2
             obtain ⟨i4,c4⟩:=i3.putObj (o':=.loop r3) hr2 (fun _ _ _ e=>by cases e) (.loop rec3) hl3 fun hc hh=>⟨hfz2,_,hh,hlr3 _ hc⟩
             rw [hG2] at i4 c4
             exact ⟨ok2,G2,i4,o3.trans hl3,c3.trans c4,le3,b3.trans (hbl _ _),.one _ _ (.bool _)⟩
            have hl3:∀r3,ObLe st2.ob G2 (upd st2.ob l (.loop r3)) G2:=fun r3=>ObLe.loopSet hr2
            cases e with
            | nrm=>
             cases h
             exact ⟨_,_,run_endRound (P:=P) none hrec2,_,rfl,fin _ _ _ fun w' hc=>⟨rfl,rfl,by simp,hlr2.ps,hlr2.nt,hlr2.tmps.mono hc (hl3 _)⟩⟩
            | ext id=>
             cases h
             exact ⟨_,_,run_endRound (P:=P) (some (.exit id)) hrec2,_,rfl,fin _ _ _ fun w' hc=>⟨rfl,rfl,by simp,hlr2.ps,hlr2.nt,hlr2.tmps.mono hc (hl3 _)⟩⟩
            | ret=>
             cases h
             exact ⟨_,_,run_endRound (P:=P) (some .ret) hrec2,_,rfl,fin _ _ _ fun w' hc=>⟨rfl,rfl,by simp,hlr2.ps,hlr2.nt,hlr2.tmps.mono hc (hl3 _)⟩⟩
           ·cases h
         ·cases h
        ·cases h
       ·cases h
     ·cases h
    exact hround _ hzip
   ·cases h
end
end Go.Ev
namespace Go.Ev
open Go.RowKit
theorem yup {P:Program} (hm:P.follows .mixedOrders=true) {E:Env} (hE:EnvOk P E) {k:Nat} {f:FuncId} {args:List SV} {r:SV} (h:evV E k f args=some r) {w:World} {ok:Nat→Nat→Prop} (hok:∀b o,ok b o→b<w.heap.size) {vals:List Value} (hr:RelSs w ok noOb noG args vals):
  Calls P f vals.toArray w fun e w'=>∃v ok',e=.returned v∧Below w.heap.size w w'∧OkLe w.heap.size ok ok'∧RelS w' ok' noOb noG r v:=by
 unfold evV at h
 split at h
 ·rename_i r0 s hF
  split at h
  ·rename_i fz r' hR
   cases h
   letI:Cd:=⟨fun nt c ac=>∃br hs,cCode P br hs nt true c=some ac⟩
   refine ((yc2 hm (fun _ _ _=>Iff.rfl) hE k (.fn f) args Sto.empty r0 s hF).2 w.heap.size w ok noG vals (Inv.empty _ hok) (fun _ _=>rfl) (Nat.le_refl _) hr).mono ?_
   rintro e w' ⟨v,rfl,ok2,G2,hi2,hob2,hcell2,hle2,hb2,hr2⟩
   obtain ⟨ok3,hi3,hle3,hr3⟩:=yr1 hR (nx:=s.nx) (by obtain ⟨o,z,n⟩:=s;exact hi2) hr2
   exact ⟨v,ok3,rfl,hb2,hle2.trans hle3,hr3⟩
  ·cases h
 ·cases h
end Go.Ev
namespace Go.Ev
def Is (P:Program) {H:Type}:Nat→TypeId→DataW H→List AV→Prop
 | 0,_,_,_=>False
 | n+1,t,d,xs=>
  match P.underlying t with
  | some .bool=>∃b,d=.lit (.bool b)∧xs=[.bool b]
  | some (.int k)=>∃z,(Lit.int k z).wf=true∧d=.lit (.int k z)∧xs=[.int k z]
  | some .string=>∃s:ByteArray,s.size≤maxLen∧d=.lit (.string s.data.toList)∧xs=[.str s]
  | some (.slice e)=>(d=.nil∧xs=[.sl false []])∨∃(ds sp:List (DataW H)) (es:List (List AV)),d=.slice ds sp∧xs=[.sl false es]∧es.length=ds.length∧∀(i:Nat) d' e',ds[i]? =some d'→es[i]? =some e'→e'.length=P.cellsOf e∧Is P n e d' e'
  | some (.struct fs)=>∃(ds:List (DataW H)) (xss:List (List AV)),d=.agg ds∧xs=xss.flatten∧ds.length=fs.size∧xss.length=fs.size∧∀(i:Nat) f d' e',fs[i]? =some f→ds[i]? =some d'→xss[i]? =some e'→e'.length=P.cellsOf f.type∧Is P n f.type d' e'
  | some (.array m e)=>∃(ds:List (DataW H)) (xss:List (List AV)),d=.agg ds∧xs=xss.flatten∧ds.length=m∧xss.length=m∧∀(i:Nat) d' e',ds[i]? =some d'→xss[i]? =some e'→e'.length=P.cellsOf e∧Is P n e d' e'
  | _=>False
def rowFs (P:Program):List Field→Nat→Option Nat
 | [],o=>some o
 | f::r,o=>if f.offset=o then rowFs P r (o+P.cellsOf f.type) else none
def okT (P:Program):Nat→TypeId→Bool
 | 0,_=>false
 | n+1,t=>match P.underlying t with
  | some .bool | some (.int _) | some .string=>true
  | some (.slice e)=>okT P n e&&decide (0<P.cellsOf e)
  | some (.struct fs)=>fs.toList.all (fun f=>okT P n f.type)&&decide (rowFs P fs.toList 0=some (P.cellsOf t))
  | some (.array m e)=>okT P n e&&decide (P.cellsOf t=m*P.cellsOf e)
  | _=>false
theorem yr2 {α β:Type} {f:α→Option β}:∀{l:List α} {r:List β},l.mapM f=some r→r.length=l.length∧∀(i:Nat) a,l[i]? =some a→∃b,r[i]? =some b∧f a=some b
 | [],r,h=>by
  simp only [List.mapM_nil,Option.pure_def,Option.some.injEq] at h
  subst h
  exact ⟨rfl,fun i a h=>by simp at h⟩
 | x::l,r,h=>by
  rw [List.mapM_cons] at h
  simp only [Option.bind_eq_bind,Option.pure_def] at h
  cases hx:f x with
  | none=>rw [hx] at h;simp at h
  | some y=>
   rw [hx] at h
   cases hl:l.mapM f with
   | none=>rw [hl] at h;simp at h
   | some r'=>
    rw [hl] at h
    simp only [Option.bind_some,Option.some.injEq] at h
    subst h
    obtain ⟨h1,h2⟩:=yr2 hl
    refine ⟨by simp [h1],fun i a ha=> ?_⟩
    cases i with
    | zero=>simp only [List.getElem?_cons_zero,Option.some.injEq] at ha;subst ha;exact ⟨y,by simp,hx⟩
    | succ i=>simpa using h2 i a (by simpa using ha)
theorem y8w {β:Type} {p:Nat→β→Prop}:∀(n:Nat),(∀i,i<n→∃b,p i b)→∃l:List β,l.length=n∧∀(i:Nat) b,l[i]? =some b→p i b
 | 0,_=>⟨[],rfl,fun i b h=>by simp at h⟩
 | n+1,h=>by
  obtain ⟨l,h1,h2⟩:=y8w n fun i hi=>h i (by omega)
  obtain ⟨b,hb⟩:=h n (by omega)
  refine ⟨l++[b],by simp [h1],fun i c hc=> ?_⟩
  by_cases hi:i<l.length
  ·rw [List.getElem?_append_left hi] at hc;exact h2 i c hc
  ·rw [List.getElem?_append_right (by omega)] at hc
   obtain ⟨k,hk⟩:∃k,i-l.length=k:=⟨_,rfl⟩
   rw [hk] at hc
   cases k with
   | zero=>
    simp only [List.getElem?_cons_zero,Option.some.injEq] at hc
    subst hc
    have:i=n:=by omega
    subst this
    exact hb
   | succ k=>simp at hc
section
variable {H:Type} {enc:TypeId×Value→H} {P:Program} {w:World}
def okW (w:World) (b o:Nat):Prop:=(w.cell? ⟨b,o,none⟩).isSome=true
theorem y12i {b o:Nat} (h:okW w b o):b<w.heap.size:=by
 unfold okW World.cell? at h
 by_cases hb:b<w.heap.size
 ·exact hb
 ·have e:w.heap[b]? =none:=by simp;omega
  simp [e] at h
theorem ypd {ok:Nat→Nat→Prop} {ob G}:RelL w ok ob G [] []:=⟨rfl,fun j x v h=>by simp at h⟩
theorem ynv {ok:Nat→Nat→Prop} {ob G} {xs ys:List AV} {vs us:List Value} (h:RelL w ok ob G xs vs) (k:RelL w ok ob G ys us):RelL w ok ob G (xs++ys) (vs++us):=by
 refine ⟨by simp [h.1,k.1],fun j x v hx hv=> ?_⟩
 by_cases hj:j<xs.length
 ·rw [List.getElem?_append_left hj] at hx
  rw [List.getElem?_append_left (by rw [←h.1];exact hj)] at hv
  exact h.2 j x v hx hv
 ·rw [List.getElem?_append_right (by omega)] at hx
  rw [List.getElem?_append_right (by rw [←h.1];omega)] at hv
  exact k.2 _ x v hx (by rw [h.1];exact hv)
theorem yb7 {ok:Nat→Nat→Prop} {ob G} {x:AV} {v:Value} (h:Rel w ok ob G x v):RelL w ok ob G [x] [v]:=by
 refine ⟨rfl,fun j y u hy hu=> ?_⟩
 cases j with
 | zero=>simp only [List.getElem?_cons_zero,Option.some.injEq] at hy hu;subst hy;subst hu;exact h
 | succ j=>simp at hy
theorem yy3 {base n:Nat} {a:Addr} {cs:List Value} (h:w.cells? base a n=some cs):cs.length=n∧∀j,j<n→∃v,cs[j]? =some v∧w.cell? (a.add j)=some v:=by
 unfold World.cells? at h
 split at h
 ·obtain ⟨h1,h2⟩:=yr2 h
  refine ⟨by simpa using h1,fun j hj=> ?_⟩
  obtain ⟨b,hb,hf⟩:=h2 j j (by simp [hj])
  exact ⟨b,hb,hf⟩
 ·cases h
theorem yub {a:Addr} {v:Value} (h:w.cell? a=some v):a.spot=none:=by
 unfold World.cell? at h
 split at h
 ·split at h
  ·cases h
  ·rename_i hs;simpa using hs
 ·cases h
theorem yvh {a:Addr} (h:a.spot=none) (n:Nat):a.add n=⟨a.block,a.off+n,none⟩:=by
 unfold Addr.add
 split
 ·subst_vars;obtain ⟨b,o,s⟩:=a;simp_all
 ·rfl
theorem yhl:∀(fs:List Field) (o m:Nat),rowFs P fs o=some m→o≤m
 | [],o,m,h=>by simp only [rowFs,Option.some.injEq] at h;omega
 | f::r,o,m,h=>by
  unfold rowFs at h
  split at h
  ·have:=yhl r _ m h;omega
  ·cases h
theorem yl2 {ok:Nat→Nat→Prop} {cs:List Value}:∀(fs:List Field) (o m:Nat) (xss:List (List AV)),rowFs P fs o=some m→m≤cs.length→xss.length=fs.length→(∀(i:Nat) f e,fs[i]? =some f→xss[i]? =some e→RelL w ok noOb noG e ((cs.drop f.offset).take (P.cellsOf f.type)))→RelL w ok noOb noG xss.flatten ((cs.drop o).take (m-o))
 | [],o,m,xss,h,hm,hl,hr=>by
  simp only [rowFs,Option.some.injEq] at h
  subst h
  have:xss=[]:=List.eq_nil_of_length_eq_zero (by simpa using hl)
  subst this
  simpa using ypd
 | f::r,o,m,xss,h,hm,hl,hr=>by
  unfold rowFs at h
  split at h
  ·rename_i ho
   cases xss with
   | nil=>simp at hl
   | cons e xss=>
    have hle:=yhl r _ m h
    have ih:=yl2 r (o+P.cellsOf f.type) m xss h hm (by simpa using hl) fun i f e hf he=>hr (i+1) f e (by simpa using hf) (by simpa using he)
    have h0:=hr 0 f e (by simp) (by simp)
    rw [ho] at h0
    have e1:(cs.drop o).take (m-o)=(cs.drop o).take (P.cellsOf f.type)++(cs.drop (o+P.cellsOf f.type)).take (m-(o+P.cellsOf f.type)):=by
     rw [show m-o=P.cellsOf f.type+(m-(o+P.cellsOf f.type)) by omega,List.take_add,List.drop_drop]
    rw [e1,List.flatten_cons]
    exact ynv h0 ih
  ·cases h
theorem yn9 {ok:Nat→Nat→Prop} {cs:List Value} (c:Nat):∀(m:Nat) (xss:List (List AV)),m*c≤cs.length→xss.length=m→(∀(i:Nat) e,xss[i]? =some e→RelL w ok noOb noG e ((cs.drop (i*c)).take c))→RelL w ok noOb noG xss.flatten (cs.take (m*c))
 | 0,xss,hm,hl,hr=>by
  have:xss=[]:=List.eq_nil_of_length_eq_zero hl
  subst this
  simpa using ypd
 | m+1,xss,hm,hl,hr=>by
  obtain ⟨ys,y,rfl⟩:∃ys y,xss=ys++[y]:=by
   rcases List.eq_nil_or_concat xss with h | ⟨ys,y,h⟩
   ·subst h;simp at hl
   ·exact ⟨ys,y,by simpa using h⟩
  have hl':ys.length=m:=by simpa using hl
  have hmc:(m+1)*c=m*c+c:=Nat.succ_mul m c
  have ih:=yn9 c m ys (by omega) hl' fun i e he=>hr i e (by
   rw [List.getElem?_append_left];exact he
   exact (List.getElem?_eq_some_iff.1 he).1)
  have h1:=hr m y (by rw [List.getElem?_append_right (by omega),hl'];simp)
  rw [hmc,List.take_add,List.flatten_append]
  exact ynv ih (by simpa using h1)
theorem yln:∀(fs:List Field) (o m:Nat),rowFs P fs o=some m→∀(i:Nat) f,fs[i]? =some f→f.offset+P.cellsOf f.type≤m
 | [],o,m,h,i,f,hf=>by simp at hf
 | g::r,o,m,h,i,f,hf=>by
  unfold rowFs at h
  split at h
  ·rename_i ho
   cases i with
   | zero=>
    simp only [List.getElem?_cons_zero,Option.some.injEq] at hf
    subst hf
    rw [ho]
    exact yhl r _ m h
   | succ i=>exact yln r _ m h i f (by simpa using hf)
  ·cases h
theorem yfa:∀(k n:Nat) (t:TypeId) (cs:List Value) (x:DataW H×List MemPlace),okT P k t=true→DataW.trod enc P w 0 (fun _=>true) true n t cs=some x→∃xs,Is P k t x.1 xs∧xs.length=cs.length∧RelL w (okW w) noOb noG xs cs
 | 0,n,t,cs,x,hk,h=>by simp [okT] at hk
 | k+1,n,t,cs,x,hk,h=>by
  unfold Is
  unfold okT at hk
  cases hu:P.underlying t with
  | none=>rw [hu] at hk;cases hk
  | some u=>
   rw [hu] at hk
   cases u with
   | bool=>
    obtain ⟨b,rfl,rfl⟩:=DataW.trod_bool hu h
    exact ⟨_,⟨b,rfl,rfl⟩,rfl,yb7 (.bool _)⟩
   | int q=>
    obtain ⟨z,rfl,rfl,hw⟩:=DataW.trod_int hu h
    exact ⟨_,⟨z,hw,rfl,rfl⟩,rfl,yb7 (.int _ _)⟩
   | string=>
    obtain ⟨s,rfl,rfl,hw⟩:=DataW.trod_string hu h
    exact ⟨_,⟨s,hw,rfl,rfl⟩,rfl,yb7 (.str _)⟩
   | slice e=>
    simp only [Bool.and_eq_true,decide_eq_true_eq] at hk
    obtain ⟨hke,hc0⟩:=hk
    rcases DataW.trod_slice hu h with ⟨rfl,rfl⟩ | ⟨a,len,cap,elems,rest,m,rfl,rfl,rfl,-,hlc,hcap,hlen,hel,-,-⟩
    ·exact ⟨_,.inl ⟨rfl,rfl⟩,rfl,yb7 (.sl false [] none 0 (P.cellsOf e) 0 0 (fun _ _=>default) (Nat.le_refl _) (Nat.zero_le _) (fun h=>by cases h) (fun e h=>by simp at h) (fun h=>absurd rfl h) (fun i e j h=>by simp at h) (fun i e j x h=>by simp at h))⟩
    ·--each element,read
     have hE:∀i,i<len→∃(y:(DataW H×List MemPlace)×List AV),elems[i]? =some y.1∧y.2.length=P.cellsOf e∧Is P k e y.1.1 y.2∧(∀j,j<P.cellsOf e→∃v,w.cell? ((a.add (i*P.cellsOf e)).add j)=some v∧∀x,y.2[j]? =some x→Rel w (okW w) noOb noG x v):=by
      intro i hi
      have h1:=hel i hi
      cases hcs:w.cells? 0 (a.add (i*P.cellsOf e)) (P.cellsOf e) with
      | none=>
       rw [hcs] at h1
       simp only [Option.bind_none] at h1
       have:=List.getElem?_eq_none_iff.1 h1.symm
       omega
      | some cs=>
       rw [hcs] at h1
       simp only [Option.bind_some] at h1
       have hlt:i<elems.length:=by omega
       rw [List.getElem?_eq_getElem hlt] at h1
       obtain ⟨xs,h2,h3,h4⟩:=yfa k m e cs _ hke h1
       obtain ⟨g1,g2⟩:=yy3 hcs
       refine ⟨(elems[i],xs),List.getElem?_eq_getElem hlt,h3.trans g1,h2,fun j hj=> ?_⟩
       obtain ⟨v,g3,g4⟩:=g2 j hj
       exact ⟨v,g4,fun x hx=>h4.2 j x v hx g3⟩
     obtain ⟨ys,hys,hy⟩:=y8w len hE
     have hsp:len≠0→a.spot=none:=fun hl=>by
      obtain ⟨y,-,-,-,h5⟩:=hE 0 (by omega)
      obtain ⟨v,h6,-⟩:=h5 0 hc0
      have h7:=yub h6
      simpa [Addr.add] using h7
     have hcell:∀i j,i<len→j<P.cellsOf e→(a.add (i*P.cellsOf e)).add j=⟨a.block,a.off+(i*P.cellsOf e+j),none⟩:=fun i j hi hj=>by
      have h0:=hsp (by omega)
      rw [yvh h0,yvh rfl,Nat.add_assoc]
     have hl2:(ys.map (·.2)).length=len:=by simpa using hys
     refine ⟨[.sl false (ys.map (·.2))],.inr ⟨_,_,ys.map (·.2),rfl,rfl,by simp [hys,hlen],fun i d' e' hd he=> ?_⟩,rfl,yb7 ?_⟩
     ·rw [List.getElem?_map] at hd he
      cases hyi:ys[i]? with
      | none=>rw [hyi] at he;cases he
      | some y=>
       rw [hyi] at he
       simp only [Option.map_some,Option.some.injEq] at he
       obtain ⟨q1,q2,q3,q4⟩:=hy i y hyi
       rw [q1] at hd
       simp only [Option.map_some,Option.some.injEq] at hd
       subst hd;subst he
       exact ⟨q2,q3⟩
     ·have hR:=Rel.sl (w:=w) (ok:=okW w) (ob:=noOb) (G:=noG) false (ys.map (·.2)) (some a) cap (P.cellsOf e) a.block a.off (fun i j=>(w.cell? ⟨a.block,a.off+(i*P.cellsOf e+j),none⟩).getD default) (by omega) hcap (fun h=>by cases h) (fun e' he=>by
        obtain ⟨y,hy1,rfl⟩:=List.mem_map.1 he
        obtain ⟨i,hi⟩:=List.getElem?_of_mem hy1
        exact (hy i y hi).2.1) (fun hne=>by
        have:len≠0:=fun h0=>hne (List.eq_nil_of_length_eq_zero (by omega))
        have h0:=hsp this
        obtain ⟨ab,ao,as⟩:=a
        simp only at h0
        subst h0
        rfl) (fun i e' j hi hj=>by
        rw [List.getElem?_map] at hi
        cases hyi:ys[i]? with
        | none=>rw [hyi] at hi;cases hi
        | some y=>
         rw [hyi] at hi
         simp only [Option.map_some,Option.some.injEq] at hi
         subst hi
         obtain ⟨q1,q2,q3,q4⟩:=hy i y hyi
         have hil:i<len:=by have:=(List.getElem?_eq_some_iff.1 hyi).1;omega
         obtain ⟨v,q5,q6⟩:=q4 j (by omega)
         rw [hcell i j hil (by omega)] at q5
         refine ⟨by rw [q5];rfl,by unfold okW;rw [q5];rfl⟩) (fun i e' j x hi hx=>by
        rw [List.getElem?_map] at hi
        cases hyi:ys[i]? with
        | none=>rw [hyi] at hi;cases hi
        | some y=>
         rw [hyi] at hi
         simp only [Option.map_some,Option.some.injEq] at hi
         subst hi
         obtain ⟨q1,q2,q3,q4⟩:=hy i y hyi
         have hil:i<len:=by have:=(List.getElem?_eq_some_iff.1 hyi).1;omega
         have hjl:j<P.cellsOf e:=by have:=(List.getElem?_eq_some_iff.1 hx).1;omega
         obtain ⟨v,q5,q6⟩:=q4 j hjl
         rw [hcell i j hil hjl] at q5
         rw [q5]
         exact q6 x hx)
      rw [hl2] at hR
      exact hR
   | struct fs=>
    simp only [Bool.and_eq_true,decide_eq_true_eq,List.all_eq_true] at hk
    obtain ⟨hkf,hrow⟩:=hk
    obtain ⟨ys,m,rfl,rfl,hcl,hyl,hget⟩:=DataW.trod_struct hu h
    have hE:∀i,i<fs.size→∃e':List AV,∀f,fs[i]? =some f→∃y,ys[i]? =some y∧e'.length=P.cellsOf f.type∧Is P k f.type y.1 e'∧RelL w (okW w) noOb noG e' ((cs.drop f.offset).take (P.cellsOf f.type)):=by
     intro i hi
     have hf:fs[i]? =some fs[i]:=by simp [hi]
     have h1:=hget i fs[i] hf
     rw [List.getElem?_eq_getElem (by omega)] at h1
     obtain ⟨xs,h2,h3,h4⟩:=yfa k m _ _ _ (hkf fs[i] (by simp)) h1
     refine ⟨xs,fun f hf'=> ?_⟩
     rw [hf] at hf'
     cases hf'
     refine ⟨_,List.getElem?_eq_getElem (by omega), ?_,h2,h4⟩
     rw [h3,List.length_take,List.length_drop]
     have:=yln fs.toList 0 _ hrow i fs[i] (by simp [hi])
     omega
    obtain ⟨xss,hxl,hx⟩:=y8w fs.size hE
    have hrel:=yl2 (ok:=okW w) (cs:=cs) fs.toList 0 (P.cellsOf t) xss hrow (by omega) (by simpa using hxl) fun i f e hf he=>(hx i e he f (by simpa using hf)).choose_spec.2.2.2
    rw [Nat.sub_zero,List.drop_zero,←hcl,List.take_length] at hrel
    refine ⟨xss.flatten,⟨_,xss,rfl,rfl,by simp [hyl],hxl,fun i f d' e' hf hd he=> ?_⟩,hrel.1,hrel⟩
    obtain ⟨y,q1,q2,q3,q4⟩:=hx i e' he f hf
    rw [List.getElem?_map,q1] at hd
    simp only [Option.map_some,Option.some.injEq] at hd
    subst hd
    exact ⟨q2,q3⟩
   | array m e=>
    simp only [Bool.and_eq_true,decide_eq_true_eq] at hk
    obtain ⟨hke,hrow⟩:=hk
    obtain ⟨ys,j,rfl,rfl,hcl,hyl,hget⟩:=DataW.trod_array hu h
    have hE:∀i,i<m→∃e':List AV,∃y,ys[i]? =some y∧e'.length=P.cellsOf e∧Is P k e y.1 e'∧RelL w (okW w) noOb noG e' ((cs.drop (i*P.cellsOf e)).take (P.cellsOf e)):=by
     intro i hi
     have h1:=hget i hi
     rw [List.getElem?_eq_getElem (by omega)] at h1
     obtain ⟨xs,h2,h3,h4⟩:=yfa k j _ _ _ hke h1
     refine ⟨xs,_,List.getElem?_eq_getElem (by omega), ?_,h2,h4⟩
     rw [h3,List.length_take,List.length_drop]
     have hle:(i+1)*P.cellsOf e≤m*P.cellsOf e:=Nat.mul_le_mul_right _ hi
     rw [Nat.succ_mul] at hle
     omega
    obtain ⟨xss,hxl,hx⟩:=y8w m hE
    have hrel:=yn9 (w:=w) (ok:=okW w) (cs:=cs) (P.cellsOf e) m xss (by omega) hxl fun i e' he=>(hx i e' he).choose_spec.2.2.2
    rw [←hrow,←hcl,List.take_length] at hrel
    refine ⟨xss.flatten,⟨_,xss,rfl,rfl,by simp [hyl],hxl,fun i d' e' hd he=> ?_⟩,hrel.1,hrel⟩
    obtain ⟨y,q1,q2,q3,q4⟩:=hx i e' he
    rw [List.getElem?_map,q1] at hd
    simp only [Option.map_some,Option.some.injEq] at hd
    subst hd
    exact ⟨q2,q3⟩
   | _=>cases hk
end
end Go.Ev
namespace Go.Ev
open Go.RowKit
inductive TD where
 | bool | int (k:IntKind) | str
 | slice (e:TD) | struct (fs:List TD) | array (n:Nat) (e:TD)
mutual
def IsD {H:Type}:TD→DataW H→List AV→Prop
 | .bool,d,xs=>∃b,d=.lit (.bool b)∧xs=[.bool b]
 | .int k,d,xs=>∃z,(Lit.int k z).wf=true∧d=.lit (.int k z)∧xs=[.int k z]
 | .str,d,xs=>∃s:ByteArray,s.size≤maxLen∧d=.lit (.string s.data.toList)∧xs=[.str s]
 | .slice e,d,xs=>(d=.nil∧xs=[.sl false []])∨∃(ds sp:List (DataW H)) (es:List (List AV)),d=.slice ds sp∧xs=[.sl false es]∧es.length=ds.length∧∀(i:Nat) d' e',ds[i]? =some d'→es[i]? =some e'→IsD e d' e'
 | .struct fs,d,xs=>∃ds:List (DataW H),d=.agg ds∧IsDs fs ds xs
 | .array n e,d,xs=>∃(ds:List (DataW H)) (xss:List (List AV)),d=.agg ds∧xs=xss.flatten∧ds.length=n∧xss.length=n∧∀(i:Nat) d' e',ds[i]? =some d'→xss[i]? =some e'→IsD e d' e'
def IsDs {H:Type}:List TD→List (DataW H)→List AV→Prop
 | [],ds,xs=>ds=[]∧xs=[]
 | t::ts,ds,xs=>∃(d:DataW H) (ds':List (DataW H)) (ys zs:List AV),ds=d::ds'∧xs=ys++zs∧IsD t d ys∧IsDs ts ds' zs
end
def tyIs (P:Program):Nat→TypeId→TD→Bool
 | 0,_,_=>false
 | n+1,t,D=>match P.underlying t,D with
  | some .bool,.bool=>true
  | some (.int k),.int k'=>decide (k=k')
  | some .string,.str=>true
  | some (.slice e),.slice E=>tyIs P n e E
  | some (.struct fs),.struct Ds=>Nat.beq fs.toList.length Ds.length&&(fs.toList.zip Ds).all fun p=>tyIs P n p.1.type p.2
  | some (.array m e),.array m' E=>Nat.beq m m'&&tyIs P n e E
  | _,_=>false
theorem yr7 {H:Type} {Q:Field→DataW H→List AV→Prop}:∀(fs:List Field) (Ds:List TD) (ds:List (DataW H)) (xss:List (List AV)),fs.length=Ds.length→ds.length=fs.length→xss.length=fs.length→(∀(i:Nat) D d e,Ds[i]? =some D→ds[i]? =some d→xss[i]? =some e→IsD D d e)→IsDs Ds ds xss.flatten
 | [],[],ds,xss,h1,h2,h3,h=>by
  have e1:ds=[]:=List.eq_nil_of_length_eq_zero h2
  have e2:xss=[]:=List.eq_nil_of_length_eq_zero h3
  subst e1;subst e2
  exact ⟨rfl,rfl⟩
 | f::fs,D::Ds,ds,xss,h1,h2,h3,h=>by
  cases ds with
  | nil=>simp at h2
  | cons d ds=>
   cases xss with
   | nil=>simp at h3
   | cons e xss=>
    exact ⟨d,ds,e,xss.flatten,rfl,rfl,h 0 D d e (by simp) (by simp) (by simp),yr7 (Q:=Q) fs Ds ds xss (by simpa using h1) (by simpa using h2) (by simpa using h3) fun i D d e hD hd he=>h (i+1) D d e (by simpa using hD) (by simpa using hd) (by simpa using he)⟩
theorem yjd {P:Program} {H:Type}:∀(n:Nat) (t:TypeId) (D:TD) (d:DataW H) (xs:List AV),tyIs P n t D=true→Is P n t d xs→IsD D d xs
 | 0,t,D,d,xs,h,hi=>by cases h
 | n+1,t,D,d,xs,h,hi=>by
  unfold tyIs at h
  unfold Is at hi
  cases hu:P.underlying t with
  | none=>rw [hu] at hi;cases hi
  | some u=>
   rw [hu] at hi h
   cases u with
   | bool=>cases D<;>first | exact hi | cases h
   | int k=>
    cases D<;>try cases h
    simp only [decide_eq_true_eq] at h
    subst h
    exact hi
   | string=>cases D<;>first | exact hi | cases h
   | slice e=>
    cases D<;>try cases h
    rcases hi with hi | ⟨ds,sp,es,h1,h2,h3,h4⟩
    ·exact .inl hi
    ·exact .inr ⟨ds,sp,es,h1,h2,h3,fun i d' e' hd he=>yjd n e _ d' e' h (h4 i d' e' hd he).2⟩
   | struct fs=>
    cases D<;>try cases h
    rename_i Ds
    simp only [Bool.and_eq_true,List.all_eq_true] at h
    obtain ⟨ds,xss,rfl,rfl,h2,h3,h4⟩:=hi
    have hl:fs.toList.length=Ds.length:=Nat.eq_of_beq_eq_true h.1
    refine ⟨ds,rfl,yr7 (Q:=fun _ _ _=>True) fs.toList Ds ds xss hl (by simpa using h2) (by simpa using h3) fun i D d e hD hd he=> ?_⟩
    have hi:i<fs.toList.length:=by have:=(List.getElem?_eq_some_iff.1 hD).1;omega
    have hf:fs.toList[i]? =some fs.toList[i]:=by simp [hi]
    have hz:(fs.toList[i],D)∈fs.toList.zip Ds:=by
     refine List.mem_of_getElem? (i:=i) ?_
     rw [List.getElem?_zip_eq_some]
     exact ⟨hf,hD⟩
    exact yjd n _ _ d e (h.2 _ hz) (h4 i fs.toList[i] d e (by simpa using hf) hd he).2
   | array m e=>
    cases D<;>try cases h
    simp only [Bool.and_eq_true] at h
    obtain ⟨ds,xss,rfl,rfl,h2,h3,h4⟩:=hi
    have hm:=Nat.eq_of_beq_eq_true h.1
    subst hm
    exact ⟨ds,xss,rfl,rfl,h2,h3,fun i d' e' hd he=>yjd n e _ d' e' h.2 (h4 i d' e' hd he).2⟩
   | _=>cases hi
def TD.agg:TD→Bool
 | .struct _ | .array _ _=>true
 | _=>false
def TD.sv (D:TD) (xs:List AV):SV:=bif D.agg then .agg xs else .one (xs.headD .nilp)
def IsArgs {H:Type}:List TD→List (DataW H)→List SV→Prop
 | [],ds,svs=>ds=[]∧svs=[]
 | D::Ds,ds,svs=>∃(d:DataW H) (ds':List (DataW H)) (xs:List AV) (svs':List SV),ds=d::ds'∧svs=D.sv xs::svs'∧IsD D d xs∧IsArgs Ds ds' svs'
section
variable {H:Type} {enc:TypeId×Value→H} {P:Program} {W:World}
theorem y13b {k:Nat} {t:TypeId} {D:TD} {v:Value} {d:DataW H} {ps:List MemPlace} {base:Nat} (h1:okT P k t=true) (h2:tyIs P k t D=true) (hv:Value.okWide P W .any base t v) (hd:DataW.Trod enc P W 0 (fun _=>true) true t v d ps):
  ∃xs,IsD D d xs∧RelS W (okW W) noOb noG (D.sv xs) v:=by
 obtain ⟨n,hn⟩:=hd
 obtain ⟨xs,hI,hl,hR⟩:=yfa k n t v.cells.toList (d,ps) h1 hn
 have hD:=yjd k t D d xs h2 hI
 refine ⟨xs,hD, ?_⟩
 have single:∀u:Value,v.cells=#[u]→v=u→RelS W (okW W) noOb noG (.one (xs.headD .nilp)) v:=fun u hu hvu=>by
  rw [hu] at hR hl
  obtain ⟨x,rfl⟩:∃x,xs=[x]:=by
   cases xs with
   | nil=>simp at hl
   | cons x r=>cases r with
    | nil=>exact ⟨x,rfl⟩
    | cons y r=>simp at hl
  rw [hvu]
  exact .one _ _ (hR.2 0 x u (by simp) (by simp))
 have many:∀cs:Array Value,v=.agg cs→RelS W (okW W) noOb noG (.agg xs) v:=fun cs hc=>by
  subst hc
  have hR':RelL W (okW W) noOb noG xs cs.toList:=hR
  exact .agg xs cs.toList hR'
 cases k with
 | zero=>cases h2
 | succ k=>
  unfold tyIs at h2
  cases hu:P.underlying t with
  | none=>rw [hu] at h2;cases h2
  | some u=>
   rw [hu] at h2
   cases u with
   | bool=>
    cases D<;>try cases h2
    obtain ⟨b,rfl⟩:=WideShapes.okWide_bool hu hv
    exact single _ rfl rfl
   | int q=>
    cases D<;>try cases h2
    obtain ⟨b,rfl⟩:=WideShapes.okWide_int hu hv
    exact single _ rfl rfl
   | string=>
    cases D<;>try cases h2
    obtain ⟨b,rfl⟩:=WideShapes.okWide_string hu hv
    exact single _ rfl rfl
   | slice e=>
    cases D<;>try cases h2
    obtain ⟨a,l,c,rfl⟩:=WideShapes.okWide_slice hu hv
    exact single _ rfl rfl
   | struct fs=>
    cases D<;>try cases h2
    obtain ⟨cs,rfl,-⟩:=WideShapes.okWide_struct hu hv
    exact many cs rfl
   | array m e=>
    cases D<;>try cases h2
    unfold Value.okWide at hv
    rw [hu] at hv
    obtain ⟨cs,rfl,-⟩:=hv
    exact many cs rfl
   | _=>cases h2
def RelSs' (W:World):List SV→List Value→Prop:=fun xs vs=>xs.length=vs.length∧∀(j:Nat) (x:SV) (v:Value),xs[j]? =some x→vs[j]? =some v→RelS W (okW W) noOb noG x v
theorem yqn {k base:Nat}:∀{ts:List TypeId} {Ds:List TD} {vs:List Value} {ds:List (DataW H)} {ps:List MemPlace},Ds.length=ts.length→(∀p∈ts.zip Ds,okT P k p.1=true∧tyIs P k p.1 p.2=true)→(∀(j:Nat) t v,ts[j]? =some t→vs[j]? =some v→Value.okWide P W .any base t v)→DataW.TrodAll enc P W 0 (fun _=>true) true ts vs ds ps→
  ∃svs,IsArgs Ds ds svs∧RelSs' W svs vs
 | [],[],vs,ds,ps,hl,ht,hv,h=>by
  obtain ⟨rfl,rfl,rfl⟩:=ChangeShapes.trodAll_nil h
  exact ⟨[],⟨rfl,rfl⟩,rfl,fun j x v h=>by simp at h⟩
 | t::ts,D::Ds,vs,ds,ps,hl,ht,hv,h=>by
  obtain ⟨v,vs',d,ds',p,q,rfl,rfl,rfl,h1,h2⟩:=ChangeShapes.trodAll_cons h
  obtain ⟨g1,g2⟩:=ht (t,D) (by simp)
  obtain ⟨xs,hD,hR⟩:=y13b g1 g2 (hv 0 t v (by simp) (by simp)) h1
  obtain ⟨svs,hA,hRs⟩:=yqn (k:=k) (base:=base) (by simpa using hl) (fun p hp=>ht p (by simp only [List.zip_cons_cons,List.mem_cons];exact .inr hp)) (fun j t v ht hv'=>hv (j+1) t v (by simpa using ht) (by simpa using hv')) h2
  refine ⟨D.sv xs::svs,⟨d,ds',xs,svs,rfl,rfl,hD,hA⟩,by simp [hRs.1],fun j x u hx hu=> ?_⟩
  cases j with
  | zero=>simp only [List.getElem?_cons_zero,Option.some.injEq] at hx hu;subst hx;subst hu;exact hR
  | succ j=>exact hRs.2 j x u (by simpa using hx) (by simpa using hu)
theorem ye1 (hl:laidOutB P=true) {W':World} (hb:Below W.heap.size W W') {sp:Nat→Bool}:∀{ts:List TypeId} {vs:List Value} {ds:List (DataW H)} {ps:List MemPlace},(∀t∈ts,P.readableRec t=true∧t<P.types.size)→DataW.TrodAll enc P W 0 (fun _=>true) true ts vs ds ps→(∀p∈ps,p.block<W.heap.size∧sp p.block=true)→DataW.TrodAll enc P W' 0 sp true ts vs ds ps
 | [],vs,ds,ps,ht,h,hp=>by
  obtain ⟨rfl,rfl,rfl⟩:=ChangeShapes.trodAll_nil h
  exact rfl
 | t::ts,vs,ds,ps,ht,h,hp=>by
  obtain ⟨v,vs',d,ds',p,q,rfl,rfl,rfl,h1,h2⟩:=ChangeShapes.trodAll_cons h
  refine ⟨p,q,WideElems.Trod_stays hl (ht t (by simp)).1 (ht t (by simp)).2 h1 (fun x hx=>hb.same (hp x (List.mem_append_left _ hx)).1) fun x hx=>(hp x (List.mem_append_left _ hx)).2, ?_,rfl⟩
  exact ye1 hl hb (fun t h=>ht t (by simp [h])) h2 fun x hx=>hp x (List.mem_append_right _ hx)
theorem ymc {f:Func} {s:ChangeSpec} {apart fresh handsOn again:Bool} {W':World} {args:Array Value} {ds:List (DataW H)} {before:List MemPlace} {tb:TypeId} (hl:laidOutB P=true)
  (hvars:s.vars=[]) (hts:∀t∈f.params.toList,P.readableRec t=true∧t<P.types.size) (hr:f.resultTypes=#[tb]) (htb:P.underlying tb=some .bool)
  (hfn:s.fn H ds={ results:=[.lit (.bool true)],args:=ds })
  (hW:DataW.Whole enc P f.params.toList s.vars apart W args.toList ds [] before) (hb:Below W.heap.size W W'):
  s.post enc P f apart fresh handsOn again W args (.bool true) W':=by
 have hold:∀p∈before,(fun b=>decide (b<W.heap.size)) p.block=true:=fun p hp=>by simpa using hW.lt p hp
 have hlt:=fun p hp=>hW.lt (p:=p) hp
 obtain ⟨pa,pv,hA,hV,rfl,hz,hn⟩:=id hW
 rw [hvars] at hV
 obtain ⟨-,rfl⟩:[]=([]:List (DataW H))∧pv=[]:=⟨rfl,hV⟩
 rw [List.append_nil] at hold hlt hn hz hW
 have hargs:∀sp:Nat→Bool,(∀p∈pa,sp p.block=true)→DataW.TrodAll enc P W' 0 sp true f.params.toList args.toList ds pa:=fun sp hs=>ye1 hl hb hts hA fun p hp=>⟨hlt p hp,hs p hp⟩
 have hres:∀(b:Nat) (sp:Nat→Bool) (hd:Bool),DataW.TrodAll enc P W' b sp hd f.resultTypes.toList ((Value.bool true).resultList f.resultTypes.size) [.lit (.bool true)] []:=fun b sp hd=>by
  rw [hr]
  exact trodAll_cons_mk (shut_bool htb true) rfl
 refine ⟨ds,[],pa,[],pa,[],by simpa using hW, ?_, ?_, ?_, ?_,fun _=> ?_⟩
 ·rw [List.append_nil,hfn];exact hres _ _ _
 ·rw [List.append_nil,hfn];exact hargs _ hold
 ·rw [List.append_nil,hfn,hvars];rfl
 ·exact World.keptBut_mono (fun p hp=>⟨hp,by simpa using hp⟩) (hb.frame _)
 ·refine ⟨ok_one hr rfl (okWide_bool_mk htb _),.lit (.bool true)::ds,[],[]++pa,⟨[]++pa,[], ?_, ?_,by simp, ?_, ?_⟩, ?_⟩
  ·exact ChangeShapes.trodAll_append (hargs _ (fun _ _=>rfl)) (hres 0 _ true)
  ·rw [hvars];rfl
  ·intro b off hp
   have hp':MemPlace.cell b off∈pa:=by simpa using hp
   rw [hb.frozen (hlt _ hp')]
   exact hz b off hp'
  ·intro ha;simpa using hn ha
  ·intro p hp _;simpa using hp
end
end Go.Ev
