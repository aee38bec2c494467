import Derived.Test.YthghhnhojdmcpaaGreatP4
import Derived.Test.YthghhnhojdmcpaaGreatP1
import Derived.Laws.Strings
set_option linter.all false
namespace Go.Ev
open Go.Dig
theorem canonEs2 {a b:List AV} (ha:CanL a) (hb:CanL b):CanonEs [a,b]:=fun e he x hx=>by
 simp only [List.mem_cons,List.not_mem_nil,or_false] at he
 rcases he with rfl | rfl
 ·exact ha x hx
 ·exact hb x hx
theorem canonEs1 {a:List AV} (ha:CanL a):CanonEs [a]:=fun e he x hx=>by
 simp only [List.mem_cons,List.not_mem_nil,or_false] at he
 subst he
 exact ha x hx
def minQ (a b:Rat):Rat:=if cmpQ b a<0 then b else a
def maxQ (a b:Rat):Rat:=if cmpQ b a>0 then b else a
theorem SmQ.min {S:Nat} {a b:Rat} (ha:SmQ S a) (hb:SmQ S b):SmQ S (minQ a b):=by unfold minQ;split<;>assumption
theorem SmQ.max {S:Nat} {a b:Rat} (ha:SmQ S a) (hb:SmQ S b):SmQ S (maxQ a b):=by unfold maxQ;split<;>assumption
def clampQ (q lo hi:Rat):Rat:=maxQ lo (minQ hi q)
theorem can3 {a b c:SV} (ha:CanS a) (hb:CanS b) (hc:CanS c):∀x∈[a,b,c],CanS x:=fun x hx=>by
 simp only [List.mem_cons,List.not_mem_nil,or_false] at hx
 rcases hx with rfl | rfl | rfl
 ·exact ha
 ·exact hb
 ·exact hc
theorem parts1_ends {S:Nat} (p:Pt) (q:Rat) (hp:SmQ S p.x) (hq:SmQ S q) (hS:S≤2^30):∃N,∀n,N≤n→evV E n Id.wear_Curve_parts_1 [.agg p.c,.agg (qC q)]=some (.one (.int .i64 (cmpQ p.x q))):=by
 obtain ⟨N1,k1⟩:=Cmp_call p.x q hp hq hS
 refine Ends.of N1 fun {n} hn=> ?_
 have k1:=k1 n (by omega)
 rw [evV_succ E_wear_Curve_parts_1]
 obtain ⟨a1,a2,a3,a4,a5,a6,ea,eb,ec⟩:=pt_cells p
 obtain ⟨b1,b2,b3,ed,-,-,-⟩:=qC_cells q
 rw [ea,ed] at k1
 rw [ec,ed]
 simp only [go_sem,Fn.wear_Curve_parts_1,k1]
def bs (l:List Pt) (q:Rat):Nat→Nat→Nat→Nat
 | 0,lo,_=>lo
 | m+1,lo,hi=>if lo<hi then (if cmpQ ((l[(lo+hi) / 2]?).getD ⟨0,0⟩).x q<0 then bs l q m ((lo+hi) / 2+1) hi else bs l q m lo ((lo+hi) / 2)) else lo
theorem bs_le (l:List Pt) (q:Rat):∀m lo hi,lo≤hi→bs l q m lo hi≤hi
 | 0,lo,hi,h=>h
 | m+1,lo,hi,h=>by
  unfold bs
  split
  ·split
   ·exact bs_le l q m _ _ (by omega)
   ·exact Nat.le_trans (bs_le l q m _ _ (by omega)) (by omega)
  ·exact h
theorem bs_loop {n id:Nat} {ob:Nat→Option AObj} {fz:Nat→Nat} {nx:Nat} (l:List Pt) (q:Rat) (hl:l.length<2^60) (hid:id<nx) (hob:ob id=some (.box (qC q))) (hc:∀p∈l,∀(ob:Nat→Option AObj) (fz:Nat→Nat),callV (evF E n) Id.wear_Curve_parts_1 [.agg p.c,.agg (qC q)] ob fz=some (.fzd fz (.one (.int .i64 (cmpQ p.x q))))):∀(m lo hi:Nat),hi-lo≤m→lo≤hi→hi≤l.length→∀(X:List (Nat×SV)) (N:Nat),m<N→∃X',
  loopN (evC (evF E n) n Fn.slices_BinarySearchFunc_wear_Curve_exact_Point_exact_Q_L0) N ⟨env ((0,.one (.sl false (l.map Pt.c)))::(2,.one (.fn Id.wear_Curve_parts_1 [] []))::(4,.one (.box id 0))::(8,.one (.int .i64 (l.length:Int)))::(9,.one (.int .i64 (lo:Int)))::(10,.one (.int .i64 (hi:Int)))::X),ob,fz,nx⟩=
   some (.ext 0,⟨env ((0,.one (.sl false (l.map Pt.c)))::(2,.one (.fn Id.wear_Curve_parts_1 [] []))::(4,.one (.box id 0))::(8,.one (.int .i64 (l.length:Int)))::(9,.one (.int .i64 (bs l q m lo hi:Int)))::X'),ob,fz,nx⟩):=by
 intro m
 induction m with
 | zero=>
  intro lo hi h1 h2 h3 X N hN
  obtain ⟨M,rfl⟩:∃M,N=M+1:=⟨N-1,by omega⟩
  have g:(((lo:Nat):Int)<((hi:Nat):Int))=False:=by simp only [eq_iff_iff,iff_false];omega
  refine ⟨[(10,.one (.int .i64 (hi:Int))),(17,.one (.bool false))],round_ext ?_⟩
  unfold bs
  simp only [go_sem,Fn.slices_BinarySearchFunc_wear_Curve_exact_Point_exact_Q_L0,g]
 | succ m ih=>
  intro lo hi h1 h2 h3 X N hN
  obtain ⟨M,rfl⟩:∃M,N=M+1:=⟨N-1,by omega⟩
  by_cases hlt:lo<hi
  ·have g:(((lo:Nat):Int)<((hi:Nat):Int))=True:=by simp;omega
   have ha:IntKind.i64.wrap ((lo:Int)+(hi:Int))=((lo+hi:Nat):Int):=addi64 _ _ (by omega)
   have hu:IntKind.u64.wrap ((lo+hi:Nat):Int)=((lo+hi:Nat):Int):=w64 (by omega)
   have hs:shiftI .shr .u64 ((lo+hi:Nat):Int) 1=some (.int .u64 (((lo+hi) / 2:Nat):Int)):=shr_nat .u64 (lo+hi) 1 (by decide)
   have hi':IntKind.i64.wrap (((lo+hi) / 2:Nat):Int)=(((lo+hi) / 2:Nat):Int):=wi64 (by omega)
   obtain ⟨h,hh⟩:∃h,h=(lo+hi) / 2:=⟨_,rfl⟩
   have hhl:h<l.length:=by omega
   have m1:hi-(h+1)≤m:=by omega
   have m2:h+1≤hi:=by omega
   have m3:h-lo≤m:=by omega
   have m4:lo≤h:=by omega
   have m5:h≤l.length:=by omega
   have w1:IntKind.i64.wrap ((h+1:Nat):Int)=((h+1:Nat):Int):=wi64 (by omega)
   have okz:okSz 6 (l.map Pt.c)=true:=okSz_map pt_len l
   have hcc:=hc l[h] (by simp)
   have gd:(l.map Pt.c)[h]? =some l[h].c:=by rw [List.getElem?_map,List.getElem?_eq_getElem hhl];rfl
   have gq:l[h]? =some l[h]:=by simp
   unfold bs
   rw [if_pos hlt]
   rw [←hh] at hs hi' ⊢
   rw [gq,Option.getD_some]
   generalize l[h]=p at*
   obtain ⟨a1,a2,a3,a4,a5,a6,-,-,ec⟩:=pt_cells p
   obtain ⟨b1,b2,b3,ed,-,-,-⟩:=qC_cells q
   rw [ec] at gd hcc
   rw [ed] at hcc hob
   have hidT:(id<nx)=True:=by simp [hid]
   generalize lo+hi=lh at*
   generalize cmpQ p.x q=k at*
   by_cases hk:k<0
   ·rw [if_pos hk]
    obtain ⟨X',hX⟩:=ih (h+1) hi m1 m2 h3 [] M (by omega)
    refine ⟨X', ?_⟩
    have hst:evC (evF E n) n Fn.slices_BinarySearchFunc_wear_Curve_exact_Point_exact_Q_L0 ⟨env ((0,.one (.sl false (l.map Pt.c)))::(2,.one (.fn Id.wear_Curve_parts_1 [] []))::(4,.one (.box id 0))::(8,.one (.int .i64 (l.length:Int)))::(9,.one (.int .i64 (lo:Int)))::(10,.one (.int .i64 (hi:Int)))::X),ob,fz,nx⟩=some (.nrm,⟨env [(0,.one (.sl false (l.map Pt.c))),(2,.one (.fn Id.wear_Curve_parts_1 [] [])),(4,.one (.box id 0)),(8,.one (.int .i64 (l.length:Int))),(9,.one (.int .i64 ((h+1:Nat):Int))),(10,.one (.int .i64 (hi:Int)))],ob,fz,nx⟩):=by
     simp only [go_sem,Fn.slices_BinarySearchFunc_wear_Curve_exact_Point_exact_Q_L0,g,ha,hu,hs,hi',gd,okz,hob,hidT,hcc,hk,add1,w1]
    rw [round_nrm hst,hX]
   ·rw [if_neg hk]
    obtain ⟨X',hX⟩:=ih lo h m3 m4 m5 [] M (by omega)
    refine ⟨X', ?_⟩
    have hst:evC (evF E n) n Fn.slices_BinarySearchFunc_wear_Curve_exact_Point_exact_Q_L0 ⟨env ((0,.one (.sl false (l.map Pt.c)))::(2,.one (.fn Id.wear_Curve_parts_1 [] []))::(4,.one (.box id 0))::(8,.one (.int .i64 (l.length:Int)))::(9,.one (.int .i64 (lo:Int)))::(10,.one (.int .i64 (hi:Int)))::X),ob,fz,nx⟩=some (.nrm,⟨env [(0,.one (.sl false (l.map Pt.c))),(2,.one (.fn Id.wear_Curve_parts_1 [] [])),(4,.one (.box id 0)),(8,.one (.int .i64 (l.length:Int))),(9,.one (.int .i64 (lo:Int))),(10,.one (.int .i64 (h:Int)))],ob,fz,nx⟩):=by
     simp only [go_sem,Fn.slices_BinarySearchFunc_wear_Curve_exact_Point_exact_Q_L0,g,ha,hu,hs,hi',gd,okz,hob,hidT,hcc,hk]
    rw [round_nrm hst,hX]
  ·have g:(((lo:Nat):Int)<((hi:Nat):Int))=False:=by simp only [eq_iff_iff,iff_false];omega
   refine ⟨[(10,.one (.int .i64 (hi:Int))),(17,.one (.bool false))],round_ext ?_⟩
   unfold bs
   rw [if_neg hlt]
   simp only [go_sem,Fn.slices_BinarySearchFunc_wear_Curve_exact_Point_exact_Q_L0,g]
def place (l:List Pt) (q:Rat):Nat:=bs l q l.length 0 l.length
theorem place_le (l:List Pt) (q:Rat):place l q≤l.length:=bs_le l q _ _ _ (Nat.zero_le _)
theorem search_ends {S:Nat} (l:List Pt) (q:Rat) (hl:l.length<2^60) (hp:∀p∈l,SmQ S p.x) (hq:SmQ S q) (hS:S≤2^30):∃b,Ends Id.slices_BinarySearchFunc_wear_Curve_exact_Point_exact_Q [.one (.sl false (l.map Pt.c)),.agg (qC q),.one (.fn Id.wear_Curve_parts_1 [] [])] (.tup [.one (.int .i64 (place l q:Int)),.one (.bool b)]):=by
 obtain ⟨N,hN⟩:∃N,∀n,N≤n→∀p∈l,∀(ob:Nat→Option AObj) (fz:Nat→Nat),callV (evF E n) Id.wear_Curve_parts_1 [.agg p.c,.agg (qC q)] ob fz=some (.fzd fz (.one (.int .i64 (cmpQ p.x q)))):=by
  clear hl
  induction l with
  | nil=>exact ⟨0,fun _ _ _ h=>by simp at h⟩
  | cons c r ih=>
   obtain ⟨Na,ka⟩:=(parts1_ends c q (hp c (by simp)) hq hS)
   obtain ⟨Nb,kb⟩:=ih (fun c hc=>hp c (by simp [hc]))
   refine ⟨Na+Nb,fun n hn y hy=> ?_⟩
   rcases List.mem_cons.1 hy with rfl | e
   ·exact callV_can (ka n (by omega)) (can2 (CanL.pt _).agg (canS_q _))
   ·exact kb n (by omega) y e
 have hk:=place_le l q
 refine ⟨if place l q<l.length then cmpQ ((l[place l q]?).getD ⟨0,0⟩).x q==0 else false,Ends.of (N+l.length+1) fun {n} hn=> ?_⟩
 rw [evV_succ E_slices_BinarySearchFunc_wear_Curve_exact_Point_exact_Q]
 have hc:=hN n (by omega)
 obtain ⟨X',hlo⟩:=bs_loop (n:=n) (id:=0) (fz:=fz0) (nx:=3) (ob:=upd ob0 0 (.box (qC q))) l q hl (by decide) (upd_same _ _ _) hc l.length 0 l.length (by omega) (by omega) (Nat.le_refl _) [] n (by omega)
 rw [show bs l q l.length 0 l.length=place l q from rfl,show ((0:Nat):Int)=0 from rfl] at hlo
 have okz:okSz 6 (l.map Pt.c)=true:=okSz_map pt_len l
 obtain ⟨b1,b2,b3,ed,-,-,-⟩:=qC_cells q
 rw [ed] at hc hlo ⊢
 generalize place l q=k at*
 by_cases hlt:k<l.length
 ·have g:(((k:Nat):Int)<((l.length:Nat):Int))=True:=by simp;omega
  have hcc:=hc l[k] (by simp)
  have gd:(l.map Pt.c)[k]? =some l[k].c:=by rw [List.getElem?_map,List.getElem?_eq_getElem hlt];rfl
  have gq:l[k]? =some l[k]:=by simp
  rw [if_pos hlt,gq,Option.getD_some]
  generalize l[k]=p at*
  obtain ⟨a1,a2,a3,a4,a5,a6,-,-,ec⟩:=pt_cells p
  rw [ec] at gd hcc
  simp only [go_sem,Fn.slices_BinarySearchFunc_wear_Curve_exact_Point_exact_Q,List.length_map,hlo,g,gd,okz,hcc]
 ·have g:(((k:Nat):Int)<((l.length:Nat):Int))=False:=by simp only [eq_iff_iff,iff_false];omega
  rw [if_neg hlt]
  simp only [go_sem,Fn.slices_BinarySearchFunc_wear_Curve_exact_Point_exact_Q,List.length_map,hlo,g]
theorem search_call {S:Nat} (l:List Pt) (q:Rat) (hl:l.length<2^60) (hp:∀p∈l,SmQ S p.x) (hq:SmQ S q) (hS:S≤2^30):∃b,Calling Id.slices_BinarySearchFunc_wear_Curve_exact_Point_exact_Q [.one (.sl false (l.map Pt.c)),.agg (qC q),.one (.fn Id.wear_Curve_parts_1 [] [])] (.tup [.one (.int .i64 (place l q:Int)),.one (.bool b)]):=by
 obtain ⟨b,h⟩:=search_ends l q hl hp hq hS
 exact ⟨b,h.call (can3 (.one _ (.sl _)) (canS_q _) (.one _ (.fn _)))⟩
end Go.Ev
namespace Go.Ev
open Go.Dig
theorem Sub_call {S T:Nat} (a b:Rat) (ha:SmQ S a) (hb:SmQ T b) (hS:S+T<2^36):Calling Id.exact_Q_Sub [.agg (qC a),.agg (qC b)] (.agg (qC (a-b))):=
 (Ends.of (K (S+T+1)+4) fun hn=>Sub_run a b ha hb hS hn:Ends Id.exact_Q_Sub [.agg (qC a),.agg (qC b)] (.agg (qC (a-b)))).call (can2 (canS_q _) (canS_q _))
theorem Add_call {S T:Nat} (a b:Rat) (ha:SmQ S a) (hb:SmQ T b) (hS:S+T<2^36):Calling Id.exact_Q_Add [.agg (qC a),.agg (qC b)] (.agg (qC (a+b))):=
 (Ends.of (K (S+T+1)+2) fun hn=>Add_run a b ha hb hS hn:Ends Id.exact_Q_Add [.agg (qC a),.agg (qC b)] (.agg (qC (a+b)))).call (can2 (canS_q _) (canS_q _))
theorem Mul_call {S T:Nat} (a b:Rat) (ha:SmQ S a) (hb:SmQ T b) (hS:S+T<2^36):Calling Id.exact_Q_Mul [.agg (qC a),.agg (qC b)] (.agg (qC (a*b))):=
 (Ends.of (K (S+T)+2) fun hn=>Mul_run a b ha hb hS hn:Ends Id.exact_Q_Mul [.agg (qC a),.agg (qC b)] (.agg (qC (a*b)))).call (can2 (canS_q _) (canS_q _))
theorem Div_call {S T:Nat} (a b:Rat) (h0:b.num≠0) (ha:SmQ S a) (hb:SmQ T b) (hS:S+T<2^36):Calling Id.exact_Q_Div [.agg (qC a),.agg (qC b)] (.tup [.agg (qC (a / b)),.one (.int .i64 0)]):=
 (Ends.of (K (S+T)+4) fun hn=>Div_run a b h0 ha hb hS hn:Ends Id.exact_Q_Div [.agg (qC a),.agg (qC b)] (.tup [.agg (qC (a / b)),.one (.int .i64 0)])).call (can2 (canS_q _) (canS_q _))
theorem Int_call (z:Int) (h1:-9223372036854775808≤z) (h2:z<9223372036854775808):Calling Id.exact_Int [.one (.int .i64 z)] (.agg (qC (Rat.ofInt z))):=
 (Ends.of 8 fun hn=>Int_run z h1 h2 hn:Ends Id.exact_Int [.one (.int .i64 z)] (.agg (qC (Rat.ofInt z)))).call (can1 (canS_int _ _))
theorem SmQ.one:SmQ 1 (Rat.ofInt 1):=⟨by decide,by decide⟩
theorem cmpQ_self (a:Rat):cmpQ a a=0:=by
 unfold cmpQ cmpZ
 rw [if_neg (Int.lt_irrefl _),if_neg (Int.lt_irrefl _)]
theorem sub_num {a b:Rat} (h:cmpQ a b<0):(b-a).num≠0:=by
 intro e
 have h0:b-a=0:=Rat.num_eq_zero.1 e
 have h1:b=a:=by
  have:b-a+a=0+a:=by rw [h0]
  rw [Rat.sub_add_cancel,Rat.zero_add] at this
  exact this
 subst h1
 rw [cmpQ_self] at h
 exact absurd h (by decide)
theorem incC_get:∀(l:List Pt) (k:Nat) (h:k+1<l.length),incC l=true→cmpQ (l[k]'(by omega)).x l[k+1].x<0
 | [],k,h,_=>by simp at h
 | [a],k,h,_=>by simp at h
 | a::b::r,0,h,hi=>by
  simp only [incC,Bool.and_eq_true,decide_eq_true_eq] at hi
  exact hi.1
 | a::b::r,k+1,h,hi=>by
  simp only [incC,Bool.and_eq_true,decide_eq_true_eq] at hi
  exact incC_get (b::r) k (by simpa using h) hi.2
def partC (p:Nat×Rat):List AV:=.int .i64 (p.1:Int)::qC p.2
theorem CanL.part (p:Nat×Rat):CanL (partC p):=.cons (.int _ _) (.q _)
def ptAt (l:List Pt) (k:Nat):Pt:=(l[k]?).getD ⟨0,0⟩
def shareQ (l:List Pt) (q:Rat) (k:Nat):Rat:=(q-(ptAt l (k-1)).x) / ((ptAt l k).x-(ptAt l (k-1)).x)
def partsL (l:List Pt) (q:Rat):List (Nat×Rat):=
 if place l q=l.length then [(place l q-1,Rat.ofInt 1)]
 else if place l q=0 then [(place l q,Rat.ofInt 1)]
 else if cmpQ (ptAt l (place l q)).x q=0 then [(place l q,Rat.ofInt 1)]
 else [(place l q-1,Rat.ofInt 1-shareQ l q (place l q)),(place l q,shareQ l q (place l q))]
theorem frz_row1 {ob:Nat→Option AObj} {id:Nat} {es:List (List AV)} (hc:CanonEs es) (fz:Nat→Nat) (full:Bool):frzS (upd ob id (.row 4 es 0)) fz (.one (.rsl id 0 4 0 es.length full))=some (raise fz id es.length,.one (.sl false es)):=by
 have h1:=frzS_row (sz:=4) (full:=full) fz (rowAt_upd (ob:=ob) (id:=id) (ver:=0) (sz:=4) (es:=es)) (lo:=0) (len:=es.length) (by simp) hc
 simpa only [List.drop_zero,Nat.zero_add,List.take_length] using h1
theorem parts_ends (l:List Pt) (q:Rat) (hl:l.length<2^20) (h1:1≤l.length) (hi:incC l=true) (hp:∀p∈l,SmPt p) (hq:SmQ 256 q):Ends Id.wear_Curve_parts [.one (.sl false (l.map Pt.c)),.agg (qC q)] (.one (.sl false ((partsL l q).map partC))):=by
 obtain ⟨b,N1,k1⟩:=search_call (S:=256) l q (Nat.lt_trans hl (by decide)) (fun p h=>(hp p h).x) hq (by decide)
 obtain ⟨N2,k2⟩:=Int_call 1 (by decide) (by decide)
 have hk:=place_le l q
 have okz:okSz 6 (l.map Pt.c)=true:=okSz_map pt_len l
 have n0:((1:Nat):Int)=1:=rfl
 unfold partsL
 by_cases c1:place l q=l.length
 ·rw [if_pos c1]
  refine .of (N1+N2) fun {n} hn=> ?_
  have k1:=k1 n (by omega)
  have k2:=k2 n (by omega)
  rw [evV_succ E_wear_Curve_parts]
  rw [c1] at k1 ⊢
  have w1:IntKind.i64.wrap ((l.length:Int)-1)=((l.length-1:Nat):Int):=by rw [wrap_i64 (by omega)];omega
  have hf:=fun ob id fz full=>frz_row1 (ob:=ob) (id:=id) (canonEs1 (CanL.part (l.length-1,Rat.ofInt 1))) fz full
  unfold partC at hf
  simp only [List.map_cons,List.map_nil]
  unfold partC
  obtain ⟨a1,a2,a3,ea,-,-,-⟩:=qC_cells q
  obtain ⟨b1,b2,b3,eb,-,-,-⟩:=qC_cells (Rat.ofInt 1)
  dsimp only at hf ⊢
  rw [eb] at hf k2 ⊢
  rw [ea] at k1 ⊢
  simp only [List.length_cons,List.length_nil,Nat.zero_add] at hf
  simp only [go_sem,Fn.wear_Curve_parts,List.length_map,k1,k2,beq_self_eq_true,w1,hf]
 rw [if_neg c1]
 have hkl:place l q<l.length:=by omega
 have e1:(((place l q:Nat):Int)==((l.length:Nat):Int))=false:=by simp only [beq_eq_false_iff_ne,ne_eq];omega
 by_cases c2:place l q=0
 ·rw [if_pos c2]
  refine .of (N1+N2) fun {n} hn=> ?_
  have k1:=k1 n (by omega)
  have k2:=k2 n (by omega)
  rw [evV_succ E_wear_Curve_parts]
  rw [c2] at k1 e1 ⊢
  have hf:=fun ob id fz full=>frz_row1 (ob:=ob) (id:=id) (canonEs1 (CanL.part (0,Rat.ofInt 1))) fz full
  unfold partC at hf
  simp only [List.map_cons,List.map_nil]
  unfold partC
  obtain ⟨a1,a2,a3,ea,-,-,-⟩:=qC_cells q
  obtain ⟨b1,b2,b3,eb,-,-,-⟩:=qC_cells (Rat.ofInt 1)
  dsimp only at hf ⊢
  rw [eb] at hf k2 ⊢
  rw [ea] at k1 ⊢
  have e2:(((0:Nat):Int)==0)=true:=rfl
  simp only [List.length_cons,List.length_nil,Nat.zero_add] at hf
  simp only [go_sem,Fn.wear_Curve_parts,List.length_map,k1,k2,e1,e2,hf]
 rw [if_neg c2]
 have e2:(((place l q:Nat):Int)==0)=false:=by simp only [beq_eq_false_iff_ne,ne_eq];omega
 have gk:l[place l q]? =some l[place l q]:=by simp
 have gk1:l[place l q-1]? =some (l[place l q-1]'(by omega)):=List.getElem?_eq_getElem _
 have pk:ptAt l (place l q)=l[place l q]:=by unfold ptAt;rw [gk];rfl
 have pk1:ptAt l (place l q-1)=l[place l q-1]'(by omega):=by unfold ptAt;rw [gk1];rfl
 have hm:ptAt l (place l q)∈l:=by rw [pk];simp
 have hm1:ptAt l (place l q-1)∈l:=by rw [pk1];simp
 have hk':l[place l q]? =some (ptAt l (place l q)):=by rw [pk,gk]
 have hk1':l[place l q-1]? =some (ptAt l (place l q-1)):=by rw [pk1,gk1]
 have hinc:cmpQ (ptAt l (place l q-1)).x (ptAt l (place l q)).x<0:=by
  have h:=incC_get l (place l q-1) (by omega) hi
  rw [pk,pk1]
  simpa only [Nat.sub_add_cancel (show 1≤place l q by omega)] using h
 have w1:IntKind.i64.wrap ((place l q:Int)-1)=((place l q-1:Nat):Int):=by rw [wrap_i64 (by omega)];omega
 unfold shareQ
 clear pk pk1 gk gk1
 generalize place l q=k at*
 generalize ptAt l k=P at*
 generalize ptAt l (k-1)=P1 at*
 have ge:(l.map Pt.c)[k]? =some P.c:=by rw [List.getElem?_map,hk'];rfl
 have ge1:(l.map Pt.c)[k-1]? =some P1.c:=by rw [List.getElem?_map,hk1'];rfl
 obtain ⟨N3,k3⟩:=Cmp_call P.x q (hp P hm).x hq (by decide)
 by_cases c3:cmpQ P.x q=0
 ·rw [if_pos c3]
  refine .of (N1+N2+N3) fun {n} hn=> ?_
  have k1:=k1 n (by omega)
  have k2:=k2 n (by omega)
  have k3:=k3 n (by omega)
  rw [evV_succ E_wear_Curve_parts]
  have hf:=fun ob id fz full=>frz_row1 (ob:=ob) (id:=id) (canonEs1 (CanL.part (k,Rat.ofInt 1))) fz full
  unfold partC at hf
  simp only [List.map_cons,List.map_nil]
  unfold partC
  obtain ⟨p1,p2,p3,p4,p5,p6,ep,-,ep'⟩:=pt_cells P
  obtain ⟨a1,a2,a3,ea,-,-,-⟩:=qC_cells q
  obtain ⟨b1,b2,b3,eb,-,-,-⟩:=qC_cells (Rat.ofInt 1)
  dsimp only at hf ⊢
  rw [eb] at hf k2 ⊢
  rw [ea] at k1 k3 ⊢
  rw [ep,c3] at k3
  rw [ep'] at ge
  have e3:((0:Int)==0)=true:=rfl
  simp only [List.length_cons,List.length_nil,Nat.zero_add] at hf
  simp only [go_sem,Fn.wear_Curve_parts,List.length_map,k1,k2,k3,e1,e2,e3,ge,okz,hf]
 ·rw [if_neg c3]
  have s1:=(SmQ.sub hq (hp P1 hm1).x)
  have s2:=(SmQ.sub (hp P hm).x (hp P1 hm1).x)
  have s3:=SmQ.div (sub_num hinc) s1 s2
  obtain ⟨N4,k4⟩:=Sub_call q P1.x hq (hp P1 hm1).x (by decide)
  obtain ⟨N5,k5⟩:=Sub_call P.x P1.x (hp P hm).x (hp P1 hm1).x (by decide)
  obtain ⟨N6,k6⟩:=Div_call (q-P1.x) (P.x-P1.x) (sub_num hinc) s1 s2 (by decide)
  obtain ⟨N7,k7⟩:=Sub_call (Rat.ofInt 1) ((q-P1.x) / (P.x-P1.x)) SmQ.one s3 (by decide)
  refine .of (N1+N2+N3+N4+N5+N6+N7) fun {n} hn=> ?_
  have k1:=k1 n (by omega)
  have k2:=k2 n (by omega)
  have k3:=k3 n (by omega)
  have k4:=k4 n (by omega)
  have k5:=k5 n (by omega)
  have k6:=k6 n (by omega)
  have k7:=k7 n (by omega)
  rw [evV_succ E_wear_Curve_parts]
  generalize (q-P1.x) / (P.x-P1.x)=sh at*
  generalize Rat.ofInt 1-sh=os at*
  have hf:=fun ob id fz full=>frz_row1 (ob:=ob) (id:=id) (canonEs2 (CanL.part (k-1,os)) (CanL.part (k,sh))) fz full
  unfold partC at hf
  simp only [List.map_cons,List.map_nil]
  unfold partC
  obtain ⟨p1,p2,p3,p4,p5,p6,ep,-,ep'⟩:=pt_cells P
  obtain ⟨r1,r2,r3,r4,r5,r6,er,-,er'⟩:=pt_cells P1
  obtain ⟨a1,a2,a3,ea,-,-,-⟩:=qC_cells q
  obtain ⟨b1,b2,b3,eb,-,-,-⟩:=qC_cells (Rat.ofInt 1)
  obtain ⟨d1,d2,d3,ed,-,-,-⟩:=qC_cells sh
  obtain ⟨g1,g2,g3,eg,-,-,-⟩:=qC_cells os
  obtain ⟨h1',h2',h3',eh,-,-,-⟩:=qC_cells (q-P1.x)
  obtain ⟨i1,i2,i3,ei,-,-,-⟩:=qC_cells (P.x-P1.x)
  have e3:(cmpQ P.x q==0)=false:=by simpa using c3
  dsimp only at hf ⊢
  rw [ed,eg] at hf ⊢
  rw [eb] at k2
  rw [ea] at k1 k3 ⊢
  rw [ep] at k3
  rw [ea,er,eh] at k4
  rw [ep,er,ei] at k5
  rw [eh,ei,ed] at k6
  rw [eb,ed,eg] at k7
  rw [ep'] at ge
  rw [er'] at ge1
  simp only [List.length_cons,List.length_nil,Nat.zero_add] at hf
  simp only [go_sem,Fn.wear_Curve_parts,List.length_map,k1,k2,k3,k4,k5,k6,k7,e1,e2,e3,ge,ge1,okz,w1,hf]
end Go.Ev
namespace Go.Ev
open Go.Dig
theorem qC_zero:qC 0=[.bool false,.sl false [],.sl false []]:=by
 unfold qC natV
 have e1:((0:Rat).num.natAbs)=0:=rfl
 have e2:((0:Rat).den-1)=0:=rfl
 rw [e1,e2,digs_zero]
 rfl
theorem callV_nils {n:Nat} {f:FuncId} {r y:SV} (h:evV E n f [.agg (qC 0),y]=some r) (hy:CanS y) (ob:Nat→Option AObj) (fz:Nat→Nat):callV (evF E n) f [.agg [.bool false,.nils,.nils],y] ob fz=some (.fzd fz r):=by
 have h2:=callV_can h (can2 (canS_q 0) hy) ob fz
 rw [callV_ev] at h2 ⊢
 have e:mapFz (frzS ob) fz [.agg [.bool false,.nils,.nils],y]=mapFz (frzS ob) fz [.agg (qC 0),y]:=by
  rw [qC_zero]
  simp only [mapFz,frzS_q0,frzS_q]
 rw [e]
 exact h2
def atQ (l:List Pt) (q:Rat):Rat:=(partsL l q).foldl (fun m p=>m+(ptAt l p.1).z*p.2) 0
theorem at_round {n b5:Nat} {ob:Nat→Option AObj} {fz:Nat→Nat} {nx i:Nat} {m1 m2 m3:AV} (l:List Pt) (ps:List (Nat×Rat)) (p:Nat×Rat) (P:Pt) (m':Rat) (gp:ps[i]? =some p) (hi:i<ps.length) (hps:ps.length<2^20) (hk:l[p.1]? =some P) (h5:b5<nx) (o5:ob b5=some (.box [m1,m2,m3]))
  (hm:∀(ob:Nat→Option AObj) (fz:Nat→Nat),callV (evF E n) Id.exact_Q_Mul [.agg (qC P.z),.agg (qC p.2)] ob fz=some (.fzd fz (.agg (qC (P.z*p.2)))))
  (ha:∀(ob:Nat→Option AObj) (fz:Nat→Nat),callV (evF E n) Id.exact_Q_Add [.agg [m1,m2,m3],.agg (qC (P.z*p.2))] ob fz=some (.fzd fz (.agg (qC m')))) (x4:SV) (X:List (Nat×SV)):
  ∃ob':Nat→Option AObj,evC (evF E n) n Fn.wear_Curve_at_L0 ⟨env ((0,.one (.sl false (l.map Pt.c)))::(4,x4)::(5,.one (.box b5 0))::(10,.one (.sl false (ps.map partC)))::(11,.one (.int .i64 (ps.length:Int)))::(12,.one (.int .i64 (i:Int)))::X),ob,fz,nx⟩=
   some (.nrm,⟨env [(0,.one (.sl false (l.map Pt.c))),(4,x4),(5,.one (.box b5 0)),(10,.one (.sl false (ps.map partC))),(11,.one (.int .i64 (ps.length:Int))),(12,.one (.int .i64 ((i+1:Nat):Int)))],ob',fz,nx+4⟩)∧ob' b5=some (.box (qC m'))∧∀id,id<nx→id≠b5→ob' id=ob id:=by
 have h1:(((i:Nat):Int)<((ps.length:Nat):Int))=True:=by simp;omega
 have wk:IntKind.i64.wrap ((i+1:Nat):Int)=((i+1:Nat):Int):=wi64 (by omega)
 have okz:okSz 6 (l.map Pt.c)=true:=okSz_map pt_len l
 have okp:okSz 4 (ps.map partC)=true:=okSz_map (f:=partC) (k:=4) (fun _=>rfl) ps
 have ge:(ps.map partC)[i]? =some (.int .i64 (p.1:Int)::qC p.2):=by rw [List.getElem?_map,gp];rfl
 have gl:(l.map Pt.c)[p.1]? =some P.c:=by rw [List.getElem?_map,hk];rfl
 obtain ⟨k,sh⟩:=p
 dsimp only at*
 obtain ⟨p1,p2,p3,p4,p5,p6,-,ep,ep'⟩:=pt_cells P
 obtain ⟨d1,d2,d3,ed,-,-,-⟩:=qC_cells sh
 obtain ⟨e1,e2,e3,ee,-,-,-⟩:=qC_cells (P.z*sh)
 obtain ⟨g1,g2,g3,eg,-,-,-⟩:=qC_cells m'
 rw [ed] at ge
 rw [ep,ed,ee] at hm
 rw [ee,eg] at ha
 rw [ep'] at gl
 rw [eg]
 have n5:∀k,(b5=nx+k)=False:=fun k=>by simp only [eq_iff_iff,iff_false];omega
 have t5:∀k,(b5<nx+k)=True:=fun k=>by simp only [eq_iff_iff,iff_true];omega
 have n5':∀k,(nx+k=b5)=False:=fun k=>by simp only [eq_iff_iff,iff_false];omega
 obtain ⟨r,hr0⟩:∃r,evC (evF E n) n Fn.wear_Curve_at_L0 ⟨env ((0,.one (.sl false (l.map Pt.c)))::(4,x4)::(5,.one (.box b5 0))::(10,.one (.sl false (ps.map partC)))::(11,.one (.int .i64 (ps.length:Int)))::(12,.one (.int .i64 (i:Int)))::X),ob,fz,nx⟩=r:=⟨_,rfl⟩
 have hr:=hr0
 simp only [go_sem,Fn.wear_Curve_at_L0,h1,ge,gl,okz,okp,o5,n5,n5',t5,hm,ha,add1,wk] at hr
 rw [hr0,←hr]
 refine ⟨_,rfl,upd_same _ _ _,fun id q1 q2=> ?_⟩
 have m0:∀k,(id=nx+k)=False:=fun k=>by simp only [eq_iff_iff,iff_false];omega
 have m2':(id=b5)=False:=by simp [q2]
 simp only [upd_if,m0,m2',if_false]
theorem at_exit {n:Nat} {ob:Nat→Option AObj} {fz:Nat→Nat} {nx i:Nat} (l:List Pt) (ps:List (Nat×Rat)) (hi:i=ps.length) (x4 x5:SV) (X:List (Nat×SV)):∃X',evC (evF E n) n Fn.wear_Curve_at_L0 ⟨env ((0,.one (.sl false (l.map Pt.c)))::(4,x4)::(5,x5)::(10,.one (.sl false (ps.map partC)))::(11,.one (.int .i64 (ps.length:Int)))::(12,.one (.int .i64 (i:Int)))::X),ob,fz,nx⟩=some (.ext 0,⟨env ((0,.one (.sl false (l.map Pt.c)))::(4,x4)::(5,x5)::X'),ob,fz,nx⟩):=by
 have h1:(((i:Nat):Int)<((ps.length:Nat):Int))=False:=by simp only [eq_iff_iff,iff_false];omega
 refine ⟨[(10,.one (.sl false (ps.map partC))),(11,.one (.int .i64 (ps.length:Int))),(12,.one (.int .i64 (i:Int))),(13,.one (.bool false))], ?_⟩
 simp only [go_sem,Fn.wear_Curve_at_L0,h1]
theorem SmQ.zero:SmQ 1 (0:Rat):=⟨by decide,by decide⟩
theorem partsL_ok (l:List Pt) (q:Rat) (h1:1≤l.length) (hi:incC l=true) (hp:∀p∈l,SmPt p) (hq:SmQ 256 q):((∃p,partsL l q=[p])∨∃p p',partsL l q=[p,p'])∧∀p∈partsL l q,p.1<l.length∧SmQ 1028 p.2:=by
 have hk:=place_le l q
 unfold partsL
 split
 ·refine ⟨.inl ⟨_,rfl⟩,fun p h=> ?_⟩
  simp only [List.mem_cons,List.not_mem_nil,or_false] at h
  subst h
  exact ⟨by dsimp only;omega,SmQ.mono SmQ.one (by decide)⟩
 ·split
  ·refine ⟨.inl ⟨_,rfl⟩,fun p h=> ?_⟩
   simp only [List.mem_cons,List.not_mem_nil,or_false] at h
   subst h
   exact ⟨by dsimp only;omega,SmQ.mono SmQ.one (by decide)⟩
  ·split
   ·refine ⟨.inl ⟨_,rfl⟩,fun p h=> ?_⟩
    simp only [List.mem_cons,List.not_mem_nil,or_false] at h
    subst h
    exact ⟨by dsimp only;omega,SmQ.mono SmQ.one (by decide)⟩
   ·rename_i c1 c2 c3
    have pk:ptAt l (place l q)=l[place l q]'(by omega):=by unfold ptAt;rw [List.getElem?_eq_getElem (by omega)];rfl
    have pk1:ptAt l (place l q-1)=l[place l q-1]'(by omega):=by unfold ptAt;rw [List.getElem?_eq_getElem (by omega)];rfl
    have hm:ptAt l (place l q)∈l:=by rw [pk];simp
    have hm1:ptAt l (place l q-1)∈l:=by rw [pk1];simp
    have hinc:cmpQ (ptAt l (place l q-1)).x (ptAt l (place l q)).x<0:=by
     have h:=incC_get l (place l q-1) (by omega) hi
     rw [pk,pk1]
     simpa only [Nat.sub_add_cancel (show 1≤place l q by omega)] using h
    have hs:SmQ 1026 (shareQ l q (place l q)):=SmQ.div (sub_num hinc) (SmQ.sub hq (hp _ hm1).x) (SmQ.sub (hp _ hm).x (hp _ hm1).x)
    refine ⟨.inr ⟨_,_,rfl⟩,fun p h=> ?_⟩
    simp only [List.mem_cons,List.not_mem_nil,or_false] at h
    rcases h with rfl | rfl
    ·exact ⟨by dsimp only;omega,SmQ.sub SmQ.one hs⟩
    ·exact ⟨by dsimp only;omega,SmQ.mono hs (by decide)⟩
def atT:ACode:=match Fn.wear_Curve_at.code with | .seq _ (.seq _ (.seq _ t))=>t | _=>.skip
theorem at_ends (l:List Pt) (q:Rat) (hl:l.length<2^20) (h1:1≤l.length) (hi:incC l=true) (hp:∀p∈l,SmPt p) (hq:SmQ 256 q):Ends Id.wear_Curve_at [.one (.sl false (l.map Pt.c)),.agg (qC q)] (.agg (qC (atQ l q)))∧SmQ 2571 (atQ l q):=by
 obtain ⟨N0,k0⟩:=(parts_ends l q hl h1 hi hp hq).call (can2 (.one _ (.sl _)) (canS_q _))
 obtain ⟨hs,hok⟩:=partsL_ok l q h1 hi hp hq
 have gk:∀k,k<l.length→l[k]? =some (ptAt l k):=fun k hk=>by unfold ptAt;rw [List.getElem?_eq_getElem hk];rfl
 have gm:∀k,k<l.length→ptAt l k∈l:=fun k hk=>by unfold ptAt;rw [List.getElem?_eq_getElem hk];simp
 unfold atQ
 generalize partsL l q=ps at*
 obtain ⟨a1,a2,a3,ea,-,-,-⟩:=qC_cells q
 rw [ea] at k0 ⊢
 have z0:((0:Nat):Int)=0:=rfl
 have fin:∀(n:Nat) (r:Rat),(∀ob fz,callV (evF E n) Id.wear_Curve_parts [.one (.sl false (l.map Pt.c)),.agg [a1,a2,a3]] ob fz=some (.fzd fz (.one (.sl false (ps.map partC)))))→
   (∀ob:Nat→Option AObj,ob 1=some (.box [.bool false,.nils,.nils])→ob 2=some (.box [.bool false,.nils,.nils])→∃(ob':Nat→Option AObj) (nx':Nat) (X':List (Nat×SV)),loopN (evC (evF E n) n Fn.wear_Curve_at_L0) n ⟨env [(0,.one (.sl false (l.map Pt.c))),(4,.one (.box 1 0)),(5,.one (.box 2 0)),(10,.one (.sl false (ps.map partC))),(11,.one (.int .i64 (ps.length:Int))),(12,.one (.int .i64 0))],ob,fz0,3⟩=some (.ext 0,⟨env ((0,.one (.sl false (l.map Pt.c)))::(4,.one (.box 1 0))::(5,.one (.box 2 0))::X'),ob',fz0,nx'⟩)∧ob' 2=some (.box (qC r))∧ob' 1=some (.box [.bool false,.nils,.nils]))→
   evV E (n+1) Id.wear_Curve_at [.one (.sl false (l.map Pt.c)),.agg [a1,a2,a3]]=some (.agg (qC r)):=by
  intro n r k0 hlo
  rw [evV_succ E_wear_Curve_at]
  have key:∀(ob:Nat→Option AObj),ob 1=some (.box [.bool false,.nils,.nils])→ob 2=some (.box [.bool false,.nils,.nils])→finV Fn.wear_Curve_at.res (thenC (evF E n) n atT (blkC 0 (loopN (evC (evF E n) n Fn.wear_Curve_at_L0) n ⟨env [(0,.one (.sl false (l.map Pt.c))),(4,.one (.box 1 0)),(5,.one (.box 2 0)),(10,.one (.sl false (ps.map partC))),(11,.one (.int .i64 (ps.length:Int))),(12,.one (.int .i64 0))],ob,fz0,3⟩)))=some (.agg (qC r)):=by
   intro ob o1 o2
   obtain ⟨ob',nx',X',hl,p2,p1⟩:=hlo ob o1 o2
   obtain ⟨g1,g2,g3,eg,f1,f2,f3⟩:=qC_cells r
   rw [eg] at p2 ⊢
   unfold Fz at*
   unfold atT Fn.wear_Curve_at
   simp only [go_sem,hl,p1,p2,f1,f2,f3]
  unfold Fn.wear_Curve_at
  simp only [go_sem,k0,List.length_map]
  refine key _ ?_ ?_
  ·rfl
  ·rfl
 rcases hs with ⟨p,rfl⟩ | ⟨p,p',rfl⟩
 ·obtain ⟨i1,s1⟩:=hok p (by simp)
  have sm:=SmQ.mul (hp _ (gm _ i1)).z s1
  have sa:=SmQ.add SmQ.zero sm
  obtain ⟨N1,k1⟩:=Mul_call _ _ (hp _ (gm _ i1)).z s1 (by decide)
  have k2:=fun n (hn:K (1+(256+1028)+1)+2≤n)=>callV_nils (Add_run (0:Rat) ((ptAt l p.1).z*p.2) SmQ.zero sm (by decide) (n:=n) hn) (canS_q _)
  refine ⟨.of (N0+N1+K (1+(256+1028)+1)+6) fun {n} hn=> ?_,SmQ.mono sa (by decide)⟩
  refine fin n _ (k0 n (by omega)) fun ob o1 o2=> ?_
  obtain ⟨n,rfl⟩:∃m,n=m+2:=⟨n-2,by omega⟩
  obtain ⟨ob',hr,p5,pf⟩:=at_round (n:=n+2) (ob:=ob) (fz:=fz0) (nx:=3) (i:=0) l [p] p _ (0+(ptAt l p.1).z*p.2) rfl (by simp) (by simp) (gk _ i1) (by decide) o2 (k1 _ (by omega)) (k2 (n+1) (by omega)) (.one (.box 1 0)) []
  obtain ⟨X',he⟩:=at_exit (n:=n+2) (ob:=ob') (fz:=fz0) (nx:=3+4) (i:=0+1) l [p] rfl (.one (.box 1 0)) (.one (.box 2 0)) []
  refine ⟨ob',3+4,X', ?_,p5,by rw [pf 1 (by decide) (by decide)];exact o1⟩
  rw [z0] at hr
  rw [round_nrm hr]
  exact round_ext he
 ·obtain ⟨i1,s1⟩:=hok p (by simp)
  obtain ⟨i2,s2⟩:=hok p' (by simp)
  have sm:=SmQ.mul (hp _ (gm _ i1)).z s1
  have sa:=SmQ.add SmQ.zero sm
  have sm':=SmQ.mul (hp _ (gm _ i2)).z s2
  have sa':=SmQ.add sa sm'
  obtain ⟨N1,k1⟩:=Mul_call _ _ (hp _ (gm _ i1)).z s1 (by decide)
  have k2:=fun n (hn:K (1+(256+1028)+1)+2≤n)=>callV_nils (Add_run (0:Rat) ((ptAt l p.1).z*p.2) SmQ.zero sm (by decide) (n:=n) hn) (canS_q _)
  obtain ⟨N3,k3⟩:=Mul_call _ _ (hp _ (gm _ i2)).z s2 (by decide)
  obtain ⟨N4,k4⟩:=Add_call _ _ sa sm' (by decide)
  refine ⟨.of (N0+N1+N3+N4+K (1+(256+1028)+1)+6) fun {n} hn=> ?_,SmQ.mono sa' (by decide)⟩
  refine fin n _ (k0 n (by omega)) fun ob o1 o2=> ?_
  obtain ⟨n,rfl⟩:∃m,n=m+3:=⟨n-3,by omega⟩
  obtain ⟨ob1,hr,p5,pf⟩:=at_round (n:=n+3) (ob:=ob) (fz:=fz0) (nx:=3) (i:=0) l [p,p'] p _ (0+(ptAt l p.1).z*p.2) rfl (by simp) (by simp) (gk _ i1) (by decide) o2 (k1 _ (by omega)) (k2 (n+2) (by omega)) (.one (.box 1 0)) []
  obtain ⟨c1,c2,c3,ec,-,-,-⟩:=qC_cells (0+(ptAt l p.1).z*p.2)
  rw [ec] at p5 k4
  obtain ⟨ob2,hr2,p52,pf2⟩:=at_round (n:=n+3) (ob:=ob1) (fz:=fz0) (nx:=3+4) (i:=0+1) l [p,p'] p' _ (0+(ptAt l p.1).z*p.2+(ptAt l p'.1).z*p'.2) rfl (by simp) (by simp) (gk _ i2) (by decide) p5 (k3 _ (by omega)) (k4 _ (by omega)) (.one (.box 1 0)) []
  obtain ⟨X',he⟩:=at_exit (n:=n+3) (ob:=ob2) (fz:=fz0) (nx:=3+4+4) (i:=0+1+1) l [p,p'] rfl (.one (.box 1 0)) (.one (.box 2 0)) []
  refine ⟨ob2,3+4+4,X', ?_,p52,by rw [pf2 1 (by decide) (by decide),pf 1 (by decide) (by decide)];exact o1⟩
  rw [z0] at hr
  rw [round_nrm hr,round_nrm hr2]
  exact round_ext he
theorem at_call (l:List Pt) (q:Rat) (hl:l.length<2^20) (h1:1≤l.length) (hi:incC l=true) (hp:∀p∈l,SmPt p) (hq:SmQ 256 q):Calling Id.wear_Curve_at [.one (.sl false (l.map Pt.c)),.agg (qC q)] (.agg (qC (atQ l q))):=(at_ends l q hl h1 hi hp hq).1.call (can2 (.one _ (.sl _)) (canS_q _))
end Go.Ev
namespace Go.Ev
open Go.Dig
def IntKeys (es:List AEnt):Prop:=∀e∈es,∃z:Int,e.key=.int .i64 z
def Rep (es:List AEnt) (cnt:Nat→Nat):Prop:=IntKeys es∧∀i:Nat,(findE (.int .i64 (i:Int)) es 0=some none∧cnt i=0)∨∃j e,findE (.int .i64 (i:Int)) es 0=some (some (j,e))∧e.val=.one (.int .i64 (cnt i:Int))
theorem Rep.nil:Rep [] fun _=>0:=⟨fun _ h=>by simp at h,fun i=>.inl ⟨rfl,rfl⟩⟩
def setN (c:Nat→Nat) (i v:Nat):Nat→Nat:=fun k=>if k=i then v else c k
def seeS (ph:Nat) (s:Samp) (g:Guard) (i:Nat) (c:Nat→Nat) (f:Option Nat):(Nat→Nat)×Option Nat:=
 if g.from_=ph then (if hasBx g.box s=true then (setN c i (c i+1),if g.hold≤((c i+1:Nat):Int)∧f=none then some i else f) else (setN c i 0,f)) else (c,f)
def seeL (ph:Nat) (s:Samp):List Guard→Nat→(Nat→Nat)→Option Nat→(Nat→Nat)×Option Nat
 | [],_,c,f=>(c,f)
 | g::r,i,c,f=>seeL ph s r (i+1) (seeS ph s g i c f).1 (seeS ph s g i c f).2
section
variable {n:Nat} {fz:Nat→Nat}
end
end Go.Ev
namespace Go.Ev
open Go.Dig
def seeW (gs:List Guard) (ph:Nat) (cnt:Nat→Nat) (s:Samp):Nat×(Nat→Nat):=
 match (seeL ph s gs 0 cnt none).2 with
 | none=>(ph,(seeL ph s gs 0 cnt none).1)
 | some k=>(((gs[k]?).map Guard.to).getD 0,fun _=>0)
section
variable {n:Nat} {fz:Nat→Nat}
end
theorem shut_rowk {ob0 ob:Nat→Option AObj} {k sz v:Nat} {es:List (List AV)} (h:ob k=some (.row sz es v)):shut ob0 ob k=some (.row sz es v):=by
 unfold shut;rw [h]
end Go.Ev
namespace Go.Ev
open Go.Dig
def OutB (base:Nat) (ob:Nat→Option AObj) (nx:Nat) (x:AV) (es:List (List AV)):Prop:=
 (es=[]∧x=.nils)∨∃id ver,x=.rsl id ver 4 0 es.length false∧ob id=some (.row 4 es ver)∧id<nx∧base≤id
theorem OutB.frame {base nx nx':Nat} {ob ob':Nat→Option AObj} {x:AV} {es:List (List AV)} (h:OutB base ob nx x es) (hnx:nx≤nx') (hf:∀id,base≤id→id<nx→ob' id=ob id):OutB base ob' nx' x es:=by
 rcases h with h | ⟨id,ver,h1,h2,h3,h4⟩
 ·exact .inl h
 ·exact .inr ⟨id,ver,h1,by rw [hf id h4 h3];exact h2,by omega,h4⟩
end Go.Ev
namespace Go.Ev
open Go.Dig
def MQ (m:Rat) (mc:List AV):Prop:=mc=qC m∨(m=0∧mc=[.bool false,.nils,.nils])
section
variable {n:Nat} {fz:Nat→Nat} {ob:Nat→Option AObj} {nx:Nat}
def stopB (ph:Nat) (m v:Rat):Bool:=decide (ph=4)&&decide (signI (m*v).num>0)
end
end Go.Ev
namespace Go.Ev
open Go.Dig
structure WSt where
 ph:Nat
 cnt:Nat→Nat
 m:Rat
def curveAt (d:Dev) (ph:Nat):List Pt:=(d.curves[ph]?).getD []
def momW (d:Dev) (w:WSt) (s:Samp):Rat:=
 clampQ (clampQ (atQ (curveAt d (seeW d.guards w.ph w.cnt s).1) s.angle) (w.m-(ptAt d.limits (seeW d.guards w.ph w.cnt s).1).z) (w.m+(ptAt d.limits (seeW d.guards w.ph w.cnt s).1).z)) (-(ptAt d.limits (seeW d.guards w.ph w.cnt s).1).x) (ptAt d.limits (seeW d.guards w.ph w.cnt s).1).x
def stopW (d:Dev) (w:WSt) (s:Samp):Bool:=stopB (seeW d.guards w.ph w.cnt s).1 (momW d w s) s.speed
def stepW (d:Dev) (w:WSt) (s:Samp):WSt:=⟨(seeW d.guards w.ph w.cnt s).1,(seeW d.guards w.ph w.cnt s).2,bif stopW d w s then 0 else momW d w s⟩
def rawM (d:Dev) (w:WSt) (s:Samp):List AV:=bif stopW d w s then [.bool false,.nils,.nils] else qC (momW d w s)
def rawA (d:Dev) (w:WSt) (s:Samp):List AV:=.int .u8 ((stepW d w s).ph:Int)::rawM d w s
theorem MQ.cells {m:Rat} {mc:List AV} (h:MQ m mc):∃a b c,mc=[a,b,c]:=by
 rcases h with rfl | ⟨_,rfl⟩
 ·exact ⟨_,_,_,rfl⟩
 ·exact ⟨_,_,_,rfl⟩
structure OkDev (d:Dev):Prop where
 sm:SmDev d
 c5:d.curves.length=5
 l5:d.limits.length=5
 to:∀g∈d.guards,g.to<5
 cr:∀c∈d.curves,incC c=true∧1≤c.length
structure WIds (Own:Nat→Prop) (bd bw mid bm base:Nat):Prop where
 d:bd<base
 w:bw<base
 i:mid<base
 m:bm<base
 dw:bd≠bw
 di:bd≠mid
 dm:bd≠bm
 wi:bw≠mid
 wm:bw≠bm
 im:mid≠bm
 od:¬Own bd
 ow:¬Own bw
 oi:¬Own mid
 om:¬Own bm
 o:∀id,Own id→id<base
theorem dev_cells (d:Dev):∃a b c,qC d.step=[a,b,c]∧d.c=[.sl false (d.guards.map Guard.c),.sl false (d.curves.map fun s=>[.sl false (s.map Pt.c)]),.sl false (d.limits.map Pt.c),a,b,c]:=⟨_,_,_,rfl,rfl⟩
structure Taker (d:Dev) (n0 base lid Smax Lmax:Nat) (fz:Nat→Nat) (Own:Nat→Prop) (Acc:(Nat→Option AObj)→Nat→List (WSt×Samp)→Prop):Prop where
 frame:∀ob ob' nx nx' out,Acc ob nx out→nx≤nx'→(∀id,Own id∨(base≤id∧id<nx)→ob' id=ob id)→Acc ob' nx' out
 step:∀n,n0≤n→∀(w:WSt) (s:Samp) (ob:Nat→Option AObj) (nx:Nat) (out:List (WSt×Samp)),Acc ob nx out→base≤nx→out.length<Lmax→SmSamp s→(stepW d w s).ph<5→SmQ Smax (stepW d w s).m→
  ∃ob' nx',evF E (n+1) (.rnd lid) [.agg s.c,.agg (rawA d w s)] ⟨ob,fz,nx⟩=some (.one (.bool true),⟨ob',fz,nx'⟩)∧nx≤nx'∧Acc ob' nx' (out++[(w,s)])∧∀id,id<base→¬Own id→ob' id=ob id
end Go.Ev
namespace Go.Ev
open Go.Dig
theorem OutB.shut {base nx:Nat} {ob0 ob:Nat→Option AObj} {x:AV} {es:List (List AV)} (h:OutB base ob nx x es):OutB base (shut ob0 ob) nx x es:=by
 rcases h with h | ⟨id,ver,h1,h2,h3,h4⟩
 ·exact .inl h
 ·exact .inr ⟨id,ver,h1,shut_rowk h2,h3,h4⟩
def w0:WSt:=⟨0,fun _=>0,0⟩
theorem OutB.frzR {base nx:Nat} {ob:Nat→Option AObj} {x:AV} {es fs:List (List AV)} (h:OutB base ob nx x es) (hf:∀fz,mapFz (mapFz (Ev.frz ob 7)) fz es=some (fz,fs)) (hl:es=[]→fs=[]):∃g:(Nat→Nat)→(Nat→Nat),∀fz,frzS ob fz (.one x)=some (g fz,.one (.sl false fs)):=by
 rcases h with ⟨h1,rfl⟩ | ⟨id,ver,rfl,hid,_⟩
 ·exact ⟨fun fz=>fz,fun fz=>by rw [hl h1];rfl⟩
 ·refine ⟨fun fz=>raise fz id (0+es.length),fun fz=> ?_⟩
  have hb:Nat.ble (0+es.length) es.length=true:=by simp
  have h1:Ev.frz ob DEPTH fz (.rsl id ver 4 0 es.length false)=some (raise fz id (0+es.length),.sl false fs):=by
   rw [show DEPTH=7+1 from rfl,frz_rsl,rowAt_of hid]
   simp only [hb,cond_true,List.drop_zero,List.take_length,hf]
  simp only [frzS,h1]
end Go.Ev
namespace Go.Ev
def CLe (F F':Caller):Prop:=∀c args s r,F c args s=some r→F' c args s=some r
theorem callV_mono {F F':Caller} (h:CLe F F') {f:FuncId} {args:List SV} {ob:Nat→Option AObj} {fz:Nat→Nat} {e:Eff} (he:callV F f args ob fz=some e):callV F' f args ob fz=some e:=by
 unfold callV at he ⊢
 cases h1:mapFz (frzS ob) fz args with
 | none=>rw [h1] at he;cases he
 | some p=>
  obtain ⟨fz',args'⟩:=p
  rw [h1] at he
  simp only at he ⊢
  cases h2:F (.fn f) args' Sto.empty with
  | none=>rw [h2] at he;cases he
  | some q=>
   rw [h _ _ _ _ h2]
   rw [h2] at he
   exact he
theorem evOp_mono {F F':Caller} (h:CLe F F') {d:Bool} {rb id:Nat} {st:St} {o:AOp} {e:Eff} (he:evOp F d rb id st o=some e):evOp F' d rb id st o=some e:=by
 cases o with
 | call byref f args=>
  simp only [evOp] at he ⊢
  cases byref with
  | true=>
   simp only [cond_true] at he ⊢
   cases h2:F (.fn f) (args.map (·.ev st.sl)) ⟨st.ob,st.fz,st.nx⟩ with
   | none=>rw [h2] at he;cases he
   | some q=>rw [h _ _ _ _ h2];rw [h2] at he;exact he
  | false=>exact callV_mono h he
 | callv x args=>
  simp only [evOp] at he ⊢
  split at he
  ·exact callV_mono h he
  ·rename_i f first caps hne hx
   cases h2:F (.fn f) (first.map .one++args.map (·.ev st.sl)++caps.map .one) ⟨st.ob,st.fz,st.nx⟩ with
   | none=>rw [h2] at he;cases he
   | some q=>rw [h _ _ _ _ h2];rw [h2] at he;exact he
  ·rename_i l hx
   cases h2:F (.rnd l) (args.map (·.ev st.sl)) ⟨st.ob,st.fz,st.nx⟩ with
   | none=>rw [h2] at he;cases he
   | some q=>rw [h _ _ _ _ h2];rw [h2] at he;exact he
  ·cases he
 | _=>exact he
theorem evO_mono {F F':Caller} (h:CLe F F') {d:Bool} {rb i:Nat} {st st':St} {o:AOper} (he:evO F d rb i o st=some st'):evO F' d rb i o st=some st':=by
 unfold evO at he ⊢
 split at he
 ·cases hl:limOk st.sl o.op o.lim with
  | false=>rw [hl] at he;cases he
  | true=>
   rw [hl] at he
   simp only [cond_true] at he ⊢
   cases h2:evOp F d rb (rb+i) st o.op with
   | none=>rw [h2] at he;cases he
   | some q=>rw [evOp_mono h h2];rw [h2] at he;exact he
 ·exact he
 ·cases he
theorem evOps_mono {F F':Caller} (h:CLe F F') {d:Bool} {rb:Nat}:∀{ops:List AOper} {i:Nat} {st st':St},evOps F d rb i ops st=some st'→evOps F' d rb i ops st=some st'
 | [],i,st,st',he=>he
 | o::r,i,st,st',he=>by
  unfold evOps at he ⊢
  cases h2:evO F d rb i o st with
  | none=>rw [h2] at he;cases he
  | some q=>rw [evO_mono h h2];rw [h2] at he;exact evOps_mono h he
theorem loopN_mono {b b':St→Option (Ex×St)} (h:∀st r,b st=some r→b' st=some r):∀{k k':Nat} {st:St} {r:Ex×St},k≤k'→loopN b k st=some r→loopN b' k' st=some r
 | 0,k',st,r,hk,he=>by cases he
 | k+1,0,st,r,hk,he=>by omega
 | k+1,k'+1,st,r,hk,he=>by
  unfold loopN at he ⊢
  cases h2:b st with
  | none=>rw [h2] at he;cases he
  | some q=>
   rw [h _ _ h2]
   rw [h2] at he
   obtain ⟨e,st'⟩:=q
   cases e with
   | nrm=>exact loopN_mono h (by omega) he
   | ext id=>exact he
   | ret=>exact he
theorem evC_mono {F F':Caller} (h:CLe F F') {fuel fuel':Nat} (hf:fuel≤fuel'):∀(a:ACode) {st:St} {r:Ex×St},evC F fuel a st=some r→evC F' fuel' a st=some r
 | .skip,st,r,he=>he
 | .reg d ops na ks,st,r,he=>by
  unfold evC at he ⊢
  cases h2:evOps F d st.nx 0 ops { st with nx:=st.nx+na } with
  | none=>rw [h2] at he;cases he
  | some q=>rw [evOps_mono h h2];rw [h2] at he;exact he
 | .seq a b,st,r,he=>by
  unfold evC at he ⊢
  cases h2:evC F fuel a st with
  | none=>rw [h2] at he;cases he
  | some q=>
   rw [evC_mono h hf a h2]
   rw [h2] at he
   obtain ⟨e,st'⟩:=q
   cases e with
   | nrm=>exact evC_mono h hf b he
   | ext id=>exact he
   | ret=>exact he
 | .cond c a b,st,r,he=>by
  unfold evC at he ⊢
  cases h2:isBool (c.ev st.sl) with
  | none=>rw [h2] at he;cases he
  | some t=>
   rw [h2] at he
   cases t with
   | true=>exact evC_mono h hf a he
   | false=>exact evC_mono h hf b he
 | .block id a,st,r,he=>by
  unfold evC at he ⊢
  cases h2:evC F fuel a st with
  | none=>rw [h2] at he;cases he
  | some q=>rw [evC_mono h hf a h2];rw [h2] at he;exact he
 | .loop a,st,r,he=>by
  unfold evC at he ⊢
  exact loopN_mono (fun st r hr=>evC_mono h hf a hr) hf he
 | .exit id,st,r,he=>he
 | .ret,st,r,he=>he
 | .rangeF g ps asg body,st,r,he=>by
  unfold evC at he ⊢
  split at he
  ·rename_i f first caps hg
   cases h2:F (.fn f) (first.map .one++[.one (.yld (st.nx+1))]++caps.map .one) ⟨upd (upd st.ob st.nx .dfr) (st.nx+1) (.loop ⟨st.sl,ps,asg,body,.ready,none⟩),st.fz,st.nx+2⟩ with
   | none=>rw [h2] at he;cases he
   | some q=>rw [h _ _ _ _ h2];rw [h2] at he;exact he
  ·cases he
theorem evF_step (E:Env):∀n,CLe (evF E n) (evF E (n+1))
 | 0=>fun c args s r h=>by cases c<;>cases h
 | n+1=>fun c args s r h=>by
  have ih:=evF_step E n
  have hC:∀(a:ACode) (st:St) (r:Ex×St),evC (evF E n) n a st=some r→evC (evF E (n+1)) (n+1) a st=some r:=fun a st r hr=>evC_mono ih (Nat.le_succ n) a hr
  cases c with
  | fn f=>
   rw [evF] at h ⊢
   cases hE:E f with
   | none=>rw [hE] at h;cases h
   | some fn=>
    rw [hE] at h
    simp only at h ⊢
    cases h2:evC (evF E n) n fn.code { sl:=env (ofArgs 0 args),ob:=s.ob,fz:=s.fz,nx:=s.nx } with
    | none=>rw [h2] at h;cases h
    | some q=>rw [hC _ _ _ h2];rw [h2] at h;exact h
  | rnd l=>
   rw [evF] at h ⊢
   split at h
   ·rename_i lr hl
    cases hb:(Nat.beq args.length lr.ps.length&&naOk lr.asg&&naOk lr.body) with
    | false=>rw [hb] at h;cases h
    | true=>
     rw [hb] at h
     simp only [cond_true] at h ⊢
     cases h2:evC (evF E n) n lr.asg { sl:=setPs lr.ps args lr.sl,ob:=s.ob,fz:=s.fz,nx:=s.nx } with
     | none=>rw [h2] at h;cases h
     | some q=>
      rw [hC _ _ _ h2]
      rw [h2] at h
      obtain ⟨e,st⟩:=q
      cases e with
      | ext id=>cases h
      | ret=>cases h
      | nrm=>
       simp only at h ⊢
       split at h
       ·rename_i r1 hr1
        split at h
        ·rename_i hst
         cases h3:evC (evF E n) n lr.body { st with ob:=upd st.ob l (.loop { r1 with st:=.busy }) } with
         | none=>rw [h3] at h;cases h
         | some q=>rw [hC _ _ _ h3];rw [h3] at h;exact h
        ·cases h
       ·cases h
   ·cases h
theorem evF_mono (E:Env) {n m:Nat} (h:n≤m):CLe (evF E n) (evF E m):=by
 induction h with
 | refl=>exact fun c args s r h=>h
 | step _ ih=>exact fun c args s r h=>evF_step E _ c args s r (ih c args s r h)
theorem evV_mono {E:Env} {n m:Nat} (h:n≤m) {f:FuncId} {args:List SV} {r:SV} (he:evV E n f args=some r):evV E m f args=some r:=by
 unfold evV at he ⊢
 cases h2:evF E n (.fn f) args Sto.empty with
 | none=>rw [h2] at he;cases he
 | some q=>rw [evF_mono E h _ _ _ _ h2];rw [h2] at he;exact he
end Go.Ev
namespace Go.Ev
open Go.Dig
theorem Leg.sm (g:Leg) (h1:g.gates.length<2^20) (h2:g.curves.length<2^20) (h2':∀c∈g.curves,c.length<2^20) (h3:g.limits.length<2^20) (hg:∀x∈g.gates,x.from_<256∧x.to<256):SmDev g.d:=by
 refine ⟨fun x hx=> ?_,fun c hc p hp=> ?_,fun p hp=> ?_,Num.qS _,by unfold Leg.d;simpa using h1,by unfold Leg.d;simpa using h2,fun c hc=> ?_,by unfold Leg.d;simpa using h3⟩
 ·obtain ⟨y,hy,rfl⟩:=List.mem_map.1 hx
  exact ⟨⟨Beat.sm _,Beat.sm _⟩,(hg y hy).1,(hg y hy).2⟩
 ·obtain ⟨y,hy,rfl⟩:=List.mem_map.1 hc
  obtain ⟨z,hz,rfl⟩:=List.mem_map.1 hp
  exact ⟨Num.qS _,Num.qS _⟩
 ·obtain ⟨z,hz,rfl⟩:=List.mem_map.1 hp
  exact ⟨Num.qS _,Num.qS _⟩
 ·obtain ⟨y,hy,rfl⟩:=List.mem_map.1 hc
  simpa using h2' y hy
theorem leg_cells (g:Leg):∃a b c,g.step.c=[a,b,c]∧g.c=[.sl false (g.gates.map Gate.c),.sl false (g.curves.map fun s=>[.sl false (s.map Spot.c)]),.sl false (g.limits.map Spot.c),a,b,c]:=⟨_,_,_,rfl,rfl⟩
theorem devr_cells (d:Dev):∃a b c e,d.r=[.sl false (d.guards.map Guard.r),.sl false (d.curves.map fun s=>[.sl false (s.map Pt.r)]),.sl false (d.limits.map Pt.r),a,b,c,e]:=⟨_,_,_,_,rfl⟩
end Go.Ev
namespace Go.Ev
theorem cmpZ_gt (a b:Int):(cmpZ a b>0)=(b<a):=by
 unfold cmpZ;rw [eq_iff_iff];(repeat split)<;>omega
theorem cmpZ_lt (a b:Int):(cmpZ a b<0)=(a<b):=by
 unfold cmpZ;rw [eq_iff_iff];(repeat split)<;>omega
theorem cmpQ_gt (a b:Rat):(cmpQ a b>0)=(b<a):=by
 unfold cmpQ;rw [cmpZ_gt,Rat.lt_iff]
theorem cmpQ_lt (a b:Rat):(cmpQ a b<0)=(a<b):=by
 unfold cmpQ;rw [cmpZ_lt,Rat.lt_iff]
theorem cmpQ_ge (a b:Rat):(cmpQ a b≥0)=(b≤a):=by
 have h:=cmpQ_lt a b
 rw [eq_iff_iff] at h ⊢
 rw [←Rat.not_lt,←h];omega
theorem cmpQ_le (a b:Rat):(cmpQ a b≤0)=(a≤b):=by
 have h:=cmpQ_gt a b
 rw [eq_iff_iff] at h ⊢
 rw [←Rat.not_lt,←h];omega
theorem cmpQ_eq (a b:Rat):(cmpQ a b=0)=(a=b):=by
 have h1:=cmpQ_gt a b
 have h2:=cmpQ_lt a b
 rw [eq_iff_iff] at h1 h2 ⊢
 constructor
 ·intro h;rw [h] at h1 h2;simp at h1 h2;exact Rat.le_antisymm (Rat.not_lt.1 h1) (Rat.not_lt.1 h2)
 ·intro h
  have h3:¬b<a:=by rw [h];exact Rat.lt_irrefl
  have h4:¬a<b:=by rw [h];exact Rat.lt_irrefl
  rw [←h1] at h3;rw [←h2] at h4
  omega
theorem num_zero (q:Rat):(q.num=0)=(q=0):=by
 rw [eq_iff_iff]
 constructor
 ·intro h;exact Rat.num_eq_zero.1 h
 ·intro h;rw [h];rfl
end Go.Ev
namespace Go.Ev
open Go.Dig
def FzS (x y:SV):Prop:=∀(ob:Nat→Option AObj) (fz:Nat→Nat),frzS ob fz x=some (fz,y)
theorem FzS.one {x y:SV} (h:FzS x y):∀(ob:Nat→Option AObj) (fz:Nat→Nat),mapFz (frzS ob) fz [x]=some (fz,[y]):=fun ob fz=>by simp only [mapFz,h ob fz]
theorem FzS.two {x y x' y':SV} (h:FzS x y) (h':FzS x' y'):∀(ob:Nat→Option AObj) (fz:Nat→Nat),mapFz (frzS ob) fz [x,x']=some (fz,[y,y']):=fun ob fz=>by simp only [mapFz,h ob fz,h' ob fz]
theorem FzS.three {x y x' y' x2 y2:SV} (h:FzS x y) (h':FzS x' y') (h2:FzS x2 y2):∀(ob:Nat→Option AObj) (fz:Nat→Nat),mapFz (frzS ob) fz [x,x',x2]=some (fz,[y,y',y2]):=fun ob fz=>by simp only [mapFz,h ob fz,h' ob fz,h2 ob fz]
theorem CanS.fzs {x:SV} (h:CanS x):FzS x x:=fun ob fz=>by
 cases h with
 | one v h=>
  have e:Ev.frz ob DEPTH fz v=some (fz,v):=h.frz ob 7 fz
  simp only [frzS,e]
 | agg cs h=>
  have e:mapFz (Ev.frz ob DEPTH) fz cs=some (fz,cs):=mapFz_id cs fun x hx=>(h x hx).frz ob 7 fz
  simp only [frzS,e]
theorem MQ.fzs {m:Rat} {mc:List AV} (h:MQ m mc):FzS (.agg mc) (.agg (qC m)):=by
 rcases h with rfl | ⟨rfl,rfl⟩
 ·exact (canS_q _).fzs
 ·intro ob fz;rw [qC_zero];exact frzS_q0 _ _ _
end Go.Ev
namespace Go.Ev
open Go.Dig
structure Note where
 ph:Nat
 beat:Beat
 mom:Num
structure Rcd where
 ph:Nat
 s:Samp
 m:Rat
def Note.c (x:Note):List AV:=[.int .u8 (x.ph:Int)]++x.beat.c++x.mom.c
def Rcd.c (x:Rcd):List AV:=[.int .u8 (x.ph:Int)]++x.s.c++qC x.m
def Rcd.r (x:Rcd):List AV:=[.int .u8 (x.ph:Int)]++x.s.r++rC x.m
def Note.q (x:Note):Rcd:=⟨x.ph,x.beat.s,x.mom.q⟩
section
variable {fz:Nat→Nat}
end
end Go.Ev
namespace Go.Ev
open Go.Dig
end Go.Ev
namespace Go.Ev
open Go.Dig
end Go.Ev
namespace Go.Ev
open Go.Dig
end Go.Ev
namespace Go.Ev
open Go.Dig
end Go.Ev
namespace Go.Ev
open Go.Dig
@[irreducible] def WKB:Nat:=2^19+514
theorem MQ.frz {m:Rat} {mc:List AV} (h:MQ m mc) (ob:Nat→Option AObj) (k:Nat) (fz:Nat→Nat):mapFz (Ev.frz ob (k+1)) fz mc=some (fz,qC m):=by
 rcases h with rfl | ⟨rfl,rfl⟩
 ·exact mapFz_id _ fun x hx=>(CanL.q m x hx).frz ob k fz
 ·rw [qC_zero];rfl
theorem callV_fz {n:Nat} {f:FuncId} {xs ys:List SV} {r:SV} (h:evV E n f ys=some r) (hx:∀(ob:Nat→Option AObj) (fz:Nat→Nat),mapFz (frzS ob) fz xs=some (fz,ys)) (ob:Nat→Option AObj) (fz:Nat→Nat):callV (evF E n) f xs ob fz=some (.fzd fz r):=by
 rw [callV_ev,hx]
 simp only [h,Option.map_some]
end Go.Ev
namespace Go.Ev
open Go.Dig
def RQ (q:Rat) (cs:List AV):Prop:=cs=rC q∨(q=0∧cs=[.bool false,.sl false [],.bool false,.sl false []])
theorem RQ.self (q:Rat):RQ q (rC q):=.inl rfl
theorem RQ.can {q:Rat} {cs:List AV} (h:RQ q cs):CanS (.agg cs):=by
 rcases h with rfl | ⟨rfl,rfl⟩
 ·exact canS_r q
 ·refine .agg _ fun x hx=> ?_
  simp only [List.mem_cons,List.not_mem_nil,or_false] at hx
  rcases hx with rfl | rfl | rfl | rfl
  ·exact .bool _
  ·exact .sl _
  ·exact .bool _
  ·exact .sl _
theorem RQ.cells {q:Rat} {cs:List AV} (h:RQ q cs):∃e y,cs=[.bool (decide (q.num<0)),zD q.num.natAbs,e,y]:=by
 rcases h with rfl | ⟨rfl,rfl⟩
 ·exact ⟨_,_,rC_eq q⟩
 ·refine ⟨.bool false,.sl false [], ?_⟩
  have h1:((0:Rat).num.natAbs)=0:=rfl
  rw [h1]
  unfold zD
  rw [digs_zero];rfl
theorem rdn {q:Rat} {cs:List AV} (h:RQ q cs) (hd:dlen BT q.den<2^60) {n:Nat} (hn:12≤n) (ob:Nat→Option AObj) (fz:Nat→Nat):callV (evF E n) Id.ambleref01_Q_den [.agg cs] ob fz=some (.fzd fz (sV (q.den:Int))):=by
 obtain ⟨n,rfl⟩:∃k,n=k+1:=⟨n-1,by omega⟩
 refine callV_can ?_ (can1 h.can) ob fz
 rcases h with rfl | ⟨rfl,rfl⟩
 ·exact rden_run q hd (by omega)
 ·rw [evV_succ E_ambleref01_Q_den]
  obtain ⟨n,rfl⟩:∃k,n=k+1:=⟨n-1,by omega⟩
  have hz:=callV_can (zint_run 1 (by decide) (by decide) (n:=n) (by omega)) (can1 (canS_int _ _))
  have e1:((0:Rat).den:Int)=1:=rfl
  have e0:((((0:Nat):Int))==0)=true:=rfl
  rw [e1]
  unfold sV zC zD at hz ⊢
  simp only [go_sem,Fn.ambleref01_Q_den,e0,hz]
theorem rCmp_run (a b:Rat) {ca cb:List AV} (h:RQ a ca) (h':RQ b cb) {S T:Nat} (ha:SmQ S a) (hb:SmQ T b) (hS:S+T<2^36) {n:Nat} (hn:2*(S+T)+20≤n):evV E (n+1) Id.ambleref01_Cmp [.agg ca,.agg cb]=some (.one (.int .i64 (cmpQ a b))):=by
 rw [evV_succ E_ambleref01_Cmp]
 unfold cmpQ
 obtain ⟨n,rfl⟩:∃k,n=k+1:=⟨n-1,by omega⟩
 have da:=dlenT_bits ha.den
 have db:=dlenT_bits hb.den
 have na:=dlenT_bits ha.num
 have nb:=dlenT_bits hb.num
 have d1:=rdn h (by omega) (n:=n+1) (by omega)
 have d2:=rdn h' (by omega) (n:=n+1) (by omega)
 have m1:=callV_can (rmulz_run a.num (b.den:Int) (by omega) (by rw [Int.natAbs_natCast];omega) (n:=n) (by rw [Int.natAbs_natCast];omega)) (can2 (canS_s _) (canS_s _))
 have m2:=callV_can (rmulz_run b.num (a.den:Int) (by omega) (by rw [Int.natAbs_natCast];omega) (n:=n) (by rw [Int.natAbs_natCast];omega)) (can2 (canS_s _) (canS_s _))
 have h1:(a.num*(b.den:Int)).natAbs<2^(S+T):=by rw [Int.natAbs_mul,Int.natAbs_natCast];exact pow_lt2 ha.num hb.den
 have h2:(b.num*(a.den:Int)).natAbs<2^(S+T):=by rw [Int.natAbs_mul,Int.natAbs_natCast,Nat.add_comm];exact pow_lt2 hb.num ha.den
 have l1:=dlenT_bits h1
 have l2:=dlenT_bits h2
 have hc:=callV_can (rzcmp_run (a.num*(b.den:Int)) (b.num*(a.den:Int)) (by omega) (by omega) (n:=n) (by omega)) (can2 (canS_s _) (canS_s _))
 generalize a.num*(b.den:Int)=p at m1 hc ⊢
 generalize b.num*(a.den:Int)=r at m2 hc ⊢
 obtain ⟨e,y,rfl⟩:=h.cells
 obtain ⟨e',y',rfl⟩:=h'.cells
 unfold sV zC at d1 d2 m1 m2 hc
 rw [Int.natAbs_natCast] at d1 d2 m1 m2
 unfold zD at d1 d2 m1 m2 hc ⊢
 simp only [go_sem,Fn.ambleref01_Cmp,d1,d2,m1,m2,hc]
theorem rSign_run (a:Rat) {ca:List AV} (h:RQ a ca) {S:Nat} (ha:SmQ S a) (hS:S<2^36) {n:Nat} (hn:S+20≤n):evV E (n+1) Id.ambleref01_Sign [.agg ca]=some (.one (.int .i64 (signI a.num))):=by
 rw [evV_succ E_ambleref01_Sign]
 obtain ⟨n,rfl⟩:∃k,n=k+1:=⟨n-1,by omega⟩
 have na:=dlenT_bits ha.num
 have hz:dlen BT (0:Int).natAbs=0:=by show (digs BT 0).length=0;rw [digs_zero];rfl
 have hc:=rzcmp_run a.num 0 (by omega) (by omega) (n:=n) (by omega)
 have e:cmpZ a.num 0=signI a.num:=by
  clear hc
  unfold cmpZ signI
  by_cases h3:a.num<0
  ·rw [if_pos h3,if_pos h3]
  ·rw [if_neg h3,if_neg h3]
   by_cases h4:a.num=0
   ·rw [if_neg (show ¬0<a.num by omega),if_pos h4]
   ·rw [if_pos (show 0<a.num by omega),if_neg h4]
 rw [e] at hc
 obtain ⟨e',y,rfl⟩:=h.cells
 have z0:sV 0=.agg [.bool false,.sl false []]:=by
  unfold sV zC zD
  rw [show (0:Int).natAbs=0 from rfl,digs_zero];rfl
 have cz:CanS (.agg [.bool false,.sl false []]):=by rw [←z0];exact canS_s 0
 rw [z0] at hc
 have hc:=fun ob fz=>callV_fz hc (FzS.two (canS_s a.num).fzs (show FzS (.agg [.bool false,.nils]) (.agg [.bool false,.sl false []]) from fun ob fz=>by simp only [go_sem,mapFz,frzS_aggE,frzD_bool,frzD_nils,aggS_some])) ob fz
 unfold sV zC zD at hc
 unfold zD
 simp only [go_sem,Fn.ambleref01_Sign,hc]
theorem rNeg_run (a:Rat) {ca:List AV} (h:RQ a ca) {S:Nat} (ha:SmQ S a) (hS:S<2^36) {n:Nat} (hn:20≤n):evV E (n+1) Id.ambleref01_Neg [.agg ca]=some (rV (-a)):=by
 rw [evV_succ E_ambleref01_Neg]
 obtain ⟨n,rfl⟩:∃k,n=k+1:=⟨n-1,by omega⟩
 have da:=dlenT_bits ha.den
 have d1:=rdn h (by omega) (n:=n+1) (by omega)
 have hg:=callV_can (rneg_run a.num (n:=n) (by omega)) (can1 (canS_s _))
 have e1:(-a).num=-a.num:=Rat.neg_num a
 have e2:(-a).den=a.den:=Rat.neg_den a
 generalize-a=b at e1 e2 ⊢
 rw [←e1] at hg
 unfold rV
 rw [rC_eq b,e2]
 obtain ⟨e,y,rfl⟩:=h.cells
 unfold sV zC at d1 hg
 rw [Int.natAbs_natCast] at d1
 unfold zD at d1 hg ⊢
 simp only [go_sem,Fn.ambleref01_Neg,d1,hg]
theorem rAdd_run (a b:Rat) {ca cb:List AV} (h:RQ a ca) (h':RQ b cb) {S T:Nat} (ha:SmQ S a) (hb:SmQ T b) (hS:S+T<2^35) {n:Nat} (hn:KR (S+T+1)+10≤n):evV E (n+1) Id.ambleref01_Add [.agg ca,.agg cb]=some (rV (a+b)):=by
 rw [evV_succ E_ambleref01_Add,Rat.add_def]
 have hK:=KR_big (S+T+1)
 obtain ⟨n,rfl⟩:∃k,n=k+1:=⟨n-1,by omega⟩
 have da:=dlenT_bits ha.den
 have db:=dlenT_bits hb.den
 have na:=dlenT_bits ha.num
 have nb:=dlenT_bits hb.num
 have d1:=rdn h (by omega) (n:=n+1) (by omega)
 have d2:=rdn h' (by omega) (n:=n+1) (by omega)
 have m1:=callV_can (rmulz_run a.num (b.den:Int) (by omega) (by rw [Int.natAbs_natCast];omega) (n:=n) (by rw [Int.natAbs_natCast];omega)) (can2 (canS_s _) (canS_s _))
 have m2:=callV_can (rmulz_run b.num (a.den:Int) (by omega) (by rw [Int.natAbs_natCast];omega) (n:=n) (by rw [Int.natAbs_natCast];omega)) (can2 (canS_s _) (canS_s _))
 have m3:=callV_can (rmulz_run (a.den:Int) (b.den:Int) (by rw [Int.natAbs_natCast];omega) (by rw [Int.natAbs_natCast];omega) (n:=n) (by rw [Int.natAbs_natCast,Int.natAbs_natCast];omega)) (can2 (canS_s _) (canS_s _))
 have h1:(a.num*(b.den:Int)).natAbs<2^(S+T):=by rw [Int.natAbs_mul,Int.natAbs_natCast];exact pow_lt2 ha.num hb.den
 have h2:(b.num*(a.den:Int)).natAbs<2^(S+T):=by rw [Int.natAbs_mul,Int.natAbs_natCast,Nat.add_comm];exact pow_lt2 hb.num ha.den
 have l1:=dlenT_bits h1
 have l2:=dlenT_bits h2
 have hz:=callV_can (rzadd_run (a.num*(b.den:Int)) (b.num*(a.den:Int)) (by omega) (by omega) (n:=n) (by omega)) (can2 (canS_s _) (canS_s _))
 obtain ⟨s1,s2⟩:=add_size ha hb
 have s2':((a.den:Int)*(b.den:Int)).natAbs<2^(S+T+1):=by rw [Int.natAbs_mul,Int.natAbs_natCast,Int.natAbs_natCast];exact s2
 have hp:(0:Int)<(a.den:Int)*(b.den:Int):=Int.mul_pos (by have:=a.den_pos;omega) (by have:=b.den_pos;omega)
 have hq:=callV_can (rqof_pos (a.num*(b.den:Int)+b.num*(a.den:Int)) ((a.den:Int)*(b.den:Int)) hp s1 s2' (by omega) (n:=n) (by omega) false _ _ (.inl ⟨rfl,rfl,rfl⟩)) (can2 (canS_s _) (canS_s _))
 have en:Rat.normalize (a.num*(b.den:Int)+b.num*(a.den:Int)) ((a.den:Int)*(b.den:Int)).natAbs (by omega)=Rat.normalize (a.num*(b.den:Int)+b.num*(a.den:Int)) (a.den*b.den) (Nat.mul_ne_zero a.den_nz b.den_nz):=by
  congr 1
 rw [en] at hq
 generalize Rat.normalize (a.num*(b.den:Int)+b.num*(a.den:Int)) (a.den*b.den) _=q at hq ⊢
 generalize a.num*(b.den:Int)+b.num*(a.den:Int)=p3 at hz hq
 generalize a.num*(b.den:Int)=p at m1 hz
 generalize b.num*(a.den:Int)=r at m2 hz
 generalize (a.den:Int)*(b.den:Int)=r3 at m3 hq
 obtain ⟨e,y,rfl⟩:=h.cells
 obtain ⟨e',y',rfl⟩:=h'.cells
 unfold rV at hq ⊢
 rw [rC_eq] at hq ⊢
 unfold sV zC at d1 d2 m1 m2 m3 hz hq
 rw [Int.natAbs_natCast] at d1 d2 m1 m2 m3
 try rw [Int.natAbs_natCast] at m3
 unfold zD at d1 d2 m1 m2 m3 hz hq ⊢
 simp only [go_sem,Fn.ambleref01_Add,d1,d2,m1,m2,m3,hz,hq]
theorem rSub_run (a b:Rat) {ca cb:List AV} (h:RQ a ca) (h':RQ b cb) {S T:Nat} (ha:SmQ S a) (hb:SmQ T b) (hS:S+T<2^35) {n:Nat} (hn:KR (S+T+1)+12≤n):evV E (n+1) Id.ambleref01_Sub [.agg ca,.agg cb]=some (rV (a-b)):=by
 rw [evV_succ E_ambleref01_Sub]
 have hK:=KR_big (S+T+1)
 obtain ⟨n,rfl⟩:∃k,n=k+1:=⟨n-1,by omega⟩
 have hg:=callV_can (rNeg_run b h' hb (by omega) (n:=n) (by omega)) (can1 h'.can)
 have hq:=callV_can (rAdd_run a (-b) h (RQ.self _) ha (SmQ.neg hb) hS (n:=n) (by omega)) (can2 h.can (canS_r _))
 rw [←Rat.sub_eq_add_neg] at hq
 obtain ⟨e,y,rfl⟩:=h.cells
 obtain ⟨e',y',rfl⟩:=h'.cells
 unfold rV at hg hq ⊢
 rw [rC_eq (-b)] at hg hq
 rw [rC_eq (a-b)] at hq ⊢
 unfold zD at hg hq ⊢
 simp only [go_sem,Fn.ambleref01_Sub,hg,hq]
theorem ofQ_divInt (z w:Int) (hw:w≠0):ofQ z w hw=Rat.divInt z w:=by
 by_cases h:w<0
 ·rw [ofQ_neg hw h,Rat.normalize_eq_mkRat,←Rat.divInt_ofNat,Rat.divInt_eq_divInt_iff (by omega) hw]
  have:(((-w).natAbs:Nat):Int)=-w:=by omega
  rw [this];grind
 ·rw [ofQ_pos hw h,Rat.normalize_eq_mkRat,←Rat.divInt_ofNat,Rat.divInt_eq_divInt_iff (by omega) hw]
  have:((w.natAbs:Nat):Int)=w:=by omega
  rw [this]
theorem ofQ_div (a b:Rat) (hb:(a.den:Int)*b.num≠0):ofQ (a.num*(b.den:Int)) ((a.den:Int)*b.num) hb=a / b:=by
 rw [ofQ_divInt,Rat.div_def,Rat.inv_def]
 conv=>rhs;rw [←Rat.num_divInt_den a,Rat.divInt_mul_divInt]
theorem rDiv_run (a b:Rat) (h0:b.num≠0) {ca cb:List AV} (h:RQ a ca) (h':RQ b cb) {S T:Nat} (ha:SmQ S a) (hb:SmQ T b) (hS:S+T<2^35) {n:Nat} (hn:KR (S+T)+10≤n):evV E (n+1) Id.ambleref01_Div [.agg ca,.agg cb]=some (rV (a / b)):=by
 have hw:(a.den:Int)*b.num≠0:=Int.mul_ne_zero (by have:=a.den_nz;omega) h0
 rw [evV_succ E_ambleref01_Div,←ofQ_div a b hw]
 have hK:=KR_big (S+T)
 obtain ⟨n,rfl⟩:∃k,n=k+1:=⟨n-1,by omega⟩
 have da:=dlenT_bits ha.den
 have db:=dlenT_bits hb.den
 have na:=dlenT_bits ha.num
 have nb:=dlenT_bits hb.num
 have d1:=rdn h (by omega) (n:=n+1) (by omega)
 have d2:=rdn h' (by omega) (n:=n+1) (by omega)
 have m1:=callV_can (rmulz_run a.num (b.den:Int) (by omega) (by rw [Int.natAbs_natCast];omega) (n:=n) (by rw [Int.natAbs_natCast];omega)) (can2 (canS_s _) (canS_s _))
 have m2:=callV_can (rmulz_run (a.den:Int) b.num (by rw [Int.natAbs_natCast];omega) (by omega) (n:=n) (by rw [Int.natAbs_natCast];omega)) (can2 (canS_s _) (canS_s _))
 have h1:(a.num*(b.den:Int)).natAbs<2^(S+T):=by rw [Int.natAbs_mul,Int.natAbs_natCast];exact pow_lt2 ha.num hb.den
 have h2:((a.den:Int)*b.num).natAbs<2^(S+T):=by rw [Int.natAbs_mul,Int.natAbs_natCast];exact pow_lt2 ha.den hb.num
 have hq:=callV_can (rqof_run (a.num*(b.den:Int)) ((a.den:Int)*b.num) hw h1 h2 (by omega) (n:=n) (by omega)) (can2 (canS_s _) (canS_s _))
 generalize ofQ (a.num*(b.den:Int)) ((a.den:Int)*b.num) hw=q at hq ⊢
 generalize a.num*(b.den:Int)=p at m1 hq
 generalize (a.den:Int)*b.num=r at m2 hq
 obtain ⟨e,y,rfl⟩:=h.cells
 obtain ⟨e',y',rfl⟩:=h'.cells
 unfold rV at hq ⊢
 rw [rC_eq] at hq ⊢
 unfold sV zC at d1 d2 m1 m2 hq
 rw [Int.natAbs_natCast] at d1 d2 m1 m2
 unfold zD at d1 d2 m1 m2 hq ⊢
 simp only [go_sem,Fn.ambleref01_Div,d1,d2,m1,m2,hq]
theorem rInt_run (z:Int) (h1:-9223372036854775808≤z) (h2:z<9223372036854775808) {n:Nat} (hn:12≤n):evV E (n+1) Id.ambleref01_Int [.one (.int .i64 z)]=some (rV (Rat.ofInt z)):=by
 rw [evV_succ E_ambleref01_Int]
 obtain ⟨n,rfl⟩:∃k,n=k+1:=⟨n-1,by omega⟩
 have z1:=callV_can (zint_run z h1 h2 (n:=n) (by omega)) (can1 (canS_int _ _))
 have z2:=callV_can (zint_run 1 (by decide) (by decide) (n:=n) (by omega)) (can1 (canS_int _ _))
 unfold rV
 rw [rC_eq]
 have e1:(Rat.ofInt z).num=z:=rfl
 have e2:(Rat.ofInt z).den=1:=rfl
 rw [e1,e2]
 have e3:(((1:Nat):Int))=1:=rfl
 have e4:(1:Int).natAbs=1:=rfl
 unfold sV zC at z1 z2
 rw [e3]
 rw [e4] at z2
 unfold zD at z1 z2 ⊢
 simp only [go_sem,Fn.ambleref01_Int,z1,z2]
end Go.Ev
namespace Go.Ev
open Go.Dig
theorem ten_ext (c:Nat) (h:c<10):(⟨#[48,49,50,51,52,53,54,55,56,57]⟩:ByteArray).extract c (c+1)=strB [48+c]:=by
 match c,h with
 | 0,_=>rfl
 | 1,_=>rfl
 | 2,_=>rfl
 | 3,_=>rfl
 | 4,_=>rfl
 | 5,_=>rfl
 | 6,_=>rfl
 | 7,_=>rfl
 | 8,_=>rfl
 | 9,_=>rfl
theorem strB_tail (a:Nat) (l:List Nat):(strB (a::l)).extract 1 (l.length+1)=strB l:=by
 apply ByteArray.ext
 rw [ByteArray.data_extract,strB_data,strB_data]
 simp
 exact List.take_of_length_le (by simp)
theorem strB_head (a:Nat) (l:List Nat):(strB (a::l))[0]? =some (UInt8.ofNat a):=by
 have h:0<(strB (a::l)).size:=by rw [strB_size];simp
 rw [getElem?_pos _ 0 h]
 congr 1
 show (strB (a::l)).data[0]'h=_
 simp only [strB_data]
 simp
section
variable {F:Caller} {fuel:Nat} {fz:Nat→Nat} {ob:Nat→Option AObj} {nx:Nat}
set_option maxRecDepth 100000 in
theorem zt_L0 (y1 y4:SV):∀(m k d:Nat) (s:List Nat) (X:List (Nat×SV)),k+m=4→d<10000→s.length+m<2^50→∀N,m<N→
  ∃X',loopN (evC F fuel Fn.ambleref01_ZText_L0) N ⟨env ((1,y1)::(3,.one (.str (strB s)))::(4,y4)::(5,.one (.int .i64 (d:Int)))::(6,.one (.int .i64 (k:Int)))::X),ob,fz,nx⟩=
   some (.ext 2,⟨env ((1,y1)::(3,.one (.str (strB ((chD (padD m d)).reverse++s))))::(4,y4)::X'),ob,fz,nx⟩)
 | 0,k,d,s,X,hk,hd,hs,N,hN=>by
  obtain ⟨N,rfl⟩:∃k,N=k+1:=⟨N-1,by omega⟩
  have h1:(((k:Nat):Int)<4)=False:=by simp;omega
  refine ⟨[(5,.one (.int .i64 (d:Int))),(6,.one (.int .i64 (k:Int))),(24,.one (.bool false))],round_ext ?_⟩
  simp only [go_sem,Fn.ambleref01_ZText_L0,h1,padD,chD,List.map_nil,List.reverse_nil,List.nil_append]
 | m+1,k,d,s,X,hk,hd,hs,N,hN=>by
  obtain ⟨N,rfl⟩:∃k,N=k+1:=⟨N-1,by omega⟩
  have h1:(((k:Nat):Int)<4)=True:=by simp;omega
  have wk:IntKind.i64.wrap ((k+1:Nat):Int)=((k+1:Nat):Int):=wi64 (by omega)
  have t10:((10:Int)=0)=False:=by simp
  have m1:((d:Nat):Int).tmod 10=((d%10:Nat):Int):=by rw [Int.tmod_eq_emod_of_nonneg (by omega)];omega
  have m4:IntKind.i64.wrap (((d:Nat):Int).tdiv 10)=((d / 10:Nat):Int):=by
   rw [Int.tdiv_eq_ediv_of_nonneg (by omega)]
   have:((d:Nat):Int) / 10=((d / 10:Nat):Int):=by omega
   rw [this,wrap_i64 (by omega)]
  have hc:d%10<10:=Nat.mod_lt _ (by decide)
  have e:(chD (padD (m+1) d)).reverse++s=(chD (padD m (d / 10))).reverse++((48+d%10)::s):=by
   have:padD (m+1) d=d%10::padD m (d / 10):=rfl
   rw [this]
   simp [chD]
  rw [e]
  generalize hcc:d%10=c at*
  have w1:IntKind.i64.wrap ((c+1:Nat):Int)=((c+1:Nat):Int):=wi64 (by omega)
  have hx:=ten_ext c hc
  have hadd:=binS_add [48+c] s (by simp;omega)
  have b1:(c≤c+1)=True:=by simp
  have b2:(c+1≤10)=True:=by simp;omega
  have sz:(⟨#[48,49,50,51,52,53,54,55,56,57]⟩:ByteArray).size=10:=rfl
  have hst:evC F fuel Fn.ambleref01_ZText_L0 ⟨env ((1,y1)::(3,.one (.str (strB s)))::(4,y4)::(5,.one (.int .i64 (d:Int)))::(6,.one (.int .i64 (k:Int)))::X),ob,fz,nx⟩=
    some (.nrm,⟨env [(1,y1),(3,.one (.str (strB ((48+c)::s)))),(4,y4),(5,.one (.int .i64 ((d / 10:Nat):Int))),(6,.one (.int .i64 ((k+1:Nat):Int)))],ob,fz,nx⟩):=by
   simp only [go_sem,Fn.ambleref01_ZText_L0,h1,t10,m1,m4,add1,w1,b1,b2,sz,hx,hadd,wk]
  rw [round_nrm hst]
  exact zt_L0 y1 y4 m (k+1) (d / 10) ((48+c)::s) [] (by omega) (by omega) (by simp;omega) N (by omega)
set_option maxRecDepth 100000 in
theorem zt_L2 (y1:SV):∀(m:Nat) (D:List Nat) (X:List (Nat×SV)),D.length=m→(∀d∈D,d<10)→trim D≠[]→D.length<2^50→∀N,m<N→
  ∃X',loopN (evC F fuel Fn.ambleref01_ZText_L2) N ⟨env ((1,y1)::(3,.one (.str (strB (chD D).reverse)))::X),ob,fz,nx⟩=
   some (.ext 4,⟨env ((1,y1)::(3,.one (.str (strB (chD (trim D)).reverse)))::X'),ob,fz,nx⟩):=by
 intro m
 induction m with
 | zero=>
  intro D X hm hd ht hl N hN
  have:D=[]:=List.eq_nil_of_length_eq_zero hm
  subst this
  exact absurd rfl ht
 | succ m ih=>
  intro D X hm hd ht hl N hN
  obtain ⟨N,rfl⟩:∃k,N=k+1:=⟨N-1,by omega⟩
  obtain ⟨l,x,rfl⟩:∃l x,D=l++[x]:=by
   rcases List.eq_nil_or_concat D with h | ⟨l,x,h⟩
   ·rw [h] at hm;simp at hm
   ·exact ⟨l,x,by simpa using h⟩
  have hx:x<10:=hd x (by simp)
  have hrev:(chD (l++[x])).reverse=(48+x)::(chD l).reverse:=by simp [chD]
  have hh:=strB_head (48+x) (chD l).reverse
  have hn:((UInt8.ofNat (48+x)).toNat:Int)=((48+x:Nat):Int):=by
   rw [UInt8.toNat_ofNat'];omega
  have nz:Ev.natOf 0=some 0:=rfl
  by_cases h0:x=0
  ·subst h0
   have hb:(((48+0:Nat):Int)==48)=true:=rfl
   have hll:(chD l).reverse.length=l.length:=by simp [chD]
   have ht1:=strB_tail (48+0) (chD l).reverse
   have hsz:(strB ((48+0)::(chD l).reverse)).size=(chD l).reverse.length+1:=by rw [strB_size];rfl
   have nz1:Ev.natOf 1=some 1:=rfl
   have b1:(1≤(chD l).reverse.length+1)=True:=by simp
   have hst:evC F fuel Fn.ambleref01_ZText_L2 ⟨env ((1,y1)::(3,.one (.str (strB (chD (l++[0])).reverse)))::X),ob,fz,nx⟩=
     some (.nrm,⟨env [(1,y1),(3,.one (.str (strB (chD l).reverse)))],ob,fz,nx⟩):=by
    rw [hrev]
    generalize (chD l).reverse=R at*
    simp only [go_sem,Fn.ambleref01_ZText_L2,nz,hh,hn,hb,nz1,hsz,b1,ht1]
   rw [round_nrm hst,trim_append_zero]
   rw [trim_append_zero] at ht
   exact ih l [] (by simpa using hm) (fun d hd'=>hd d (by simp [hd'])) ht (by simp at hl;omega) N (by omega)
  ·rw [trim_append_pos h0]
   have hb:(((48+x:Nat):Int)==48)=false:=by simp;omega
   refine ⟨[(39,.one (.bool false))],round_ext ?_⟩
   rw [hrev]
   simp only [go_sem,Fn.ambleref01_ZText_L2,nz,hh,hn,hb]
end
end Go.Ev
namespace Go.Ev
open Go.Dig
section
variable {F:Caller} {fuel:Nat} {fz:Nat→Nat} {ob:Nat→Option AObj} {nx:Nat}
def ztP (ds:List Nat):List Nat:=(chD (ds.flatMap (padD 4))).reverse
theorem ztP_snoc (ds:List Nat) (d:Nat):ztP (ds++[d])=(chD (padD 4 d)).reverse++ztP ds:=by
 unfold ztP
 rw [List.flatMap_append]
 simp [chD]
theorem ztP_len (ds:List Nat):(ztP ds).length=4*ds.length:=by
 unfold ztP chD
 rw [List.length_reverse,List.length_map]
 induction ds with
 | nil=>rfl
 | cons d r ih=>rw [List.flatMap_cons,List.length_append,ih,padD_len,List.length_cons];omega
set_option maxRecDepth 100000 in
theorem zt_L1 {sg:AV} (ds:List Nat) (hds:∀d∈ds,d<BT) (hl:ds.length<2^40) (hob:ob 0=some (.box [sg,.sl false (intE ds)])) (hf:5≤fuel):∀(m i:Nat) (X:List (Nat×SV)),i+m=ds.length→∀N,m<N→
  ∃X',loopN (evC F fuel Fn.ambleref01_ZText_L1) N ⟨env ((1,.one (.box 0 0))::(3,.one (.str (strB (ztP (ds.take i)))))::(4,.one (.int .i64 (i:Int)))::X),ob,fz,nx⟩=
   some (.ext 0,⟨env ((1,.one (.box 0 0))::(3,.one (.str (strB (ztP ds))))::X'),ob,fz,nx⟩)
 | 0,i,X,hi,N,hN=>by
  obtain ⟨N,rfl⟩:∃k,N=k+1:=⟨N-1,by omega⟩
  have hi':i=ds.length:=by omega
  subst hi'
  rw [List.take_length]
  have h1:(((ds.length:Nat):Int)<((ds.length:Nat):Int))=False:=by simp
  refine ⟨[(4,.one (.int .i64 (ds.length:Int))),(15,.one (.bool false))],round_ext ?_⟩
  simp only [go_sem,Fn.ambleref01_ZText_L1,hob,intE_len,h1]
 | m+1,i,X,hi,N,hN=>by
  obtain ⟨N,rfl⟩:∃k,N=k+1:=⟨N-1,by omega⟩
  have hil:i<ds.length:=by omega
  have h1:(((i:Nat):Int)<((ds.length:Nat):Int))=True:=by simp;omega
  have wk:IntKind.i64.wrap ((i+1:Nat):Int)=((i+1:Nat):Int):=wi64 (by omega)
  have gd:ds[i]? =some ds[i]:=by simp
  have hd:ds[i]<10000:=hds _ (by simp)
  have td:ds.take (i+1)=ds.take i++[ds[i]]:=by rw [List.take_add_one,gd];rfl
  have okz:okSz 1 (intE ds)=true:=intE_okSz ds
  have ih:=zt_L1 ds hds hl hob hf m (i+1) [] (by omega) N (by omega)
  rw [td,ztP_snoc] at ih
  have hlen:(ztP (ds.take i)).length+4<2^50:=by rw [ztP_len,List.length_take];omega
  generalize ds[i]=d at*
  obtain ⟨X',hX⟩:=zt_L0 (F:=F) (fuel:=fuel) (fz:=fz) (ob:=ob) (nx:=nx) (.one (.box 0 0)) (.one (.int .i64 (i:Int))) 4 0 d (ztP (ds.take i)) [] rfl hd hlen fuel hf
  have z0:((0:Nat):Int)=0:=rfl
  rw [z0] at hX
  generalize ztP (ds.take i)=s at*
  generalize (chD (padD 4 d)).reverse++s=s' at*
  have hst:evC F fuel Fn.ambleref01_ZText_L1 ⟨env ((1,.one (.box 0 0))::(3,.one (.str (strB s)))::(4,.one (.int .i64 (i:Int)))::X),ob,fz,nx⟩=
    some (.nrm,⟨env [(1,.one (.box 0 0)),(3,.one (.str (strB s'))),(4,.one (.int .i64 ((i+1:Nat):Int)))],ob,fz,nx⟩):=by
   simp only [go_sem,Fn.ambleref01_ZText_L1,hob,intE_len,intE_get,gd,okz,h1,hX,add1,wk]
  rw [round_nrm hst]
  exact ih
end
theorem padD_lt:∀(k d:Nat),∀x∈padD k d,x<10
 | 0,d,x,h=>by cases h
 | k+1,d,x,h=>by
  rcases List.mem_cons.1 h with rfl | h
  ·omega
  ·exact padD_lt k _ x h
theorem val_pad:∀(k d:Nat),d<10^k→val 10 (padD k d)=d
 | 0,d,h=>by
  have:d=0:=by simpa using h
  rw [this];rfl
 | k+1,d,h=>by
  show d%10+10*val 10 (padD k (d / 10))=d
  rw [val_pad k (d / 10) (by rw [Nat.pow_succ] at h;omega)];omega
theorem val_flat:∀(ds:List Nat),(∀d∈ds,d<BT)→val 10 (ds.flatMap (padD 4))=val BT ds
 | [],h=>rfl
 | d::r,h=>by
  have hd:d<10^4:=h d (by simp)
  rw [List.flatMap_cons,val_append,val_pad 4 d hd,padD_len,val_flat r fun x hx=>h x (by simp [hx])]
  rfl
theorem flat_trim (ds:List Nat) (h:∀d∈ds,d<BT):trim (ds.flatMap (padD 4))=digs 10 (val BT ds):=by
 rw [trim_eq (show 2≤10 by decide) _ (fun x hx=>by
  obtain ⟨d,_,hd⟩:=List.mem_flatMap.1 hx
  exact padD_lt 4 d x hd),val_flat ds h]
def zL (z:Int):List Nat:=if z<0 then 45::decL z.natAbs else decL z.natAbs
set_option maxRecDepth 100000 in
theorem ZText_run (z:Int) (hz:dlen BT z.natAbs<2^38) {n:Nat} (hn:4*dlen BT z.natAbs+20≤n):evV E (n+1) Id.ambleref01_ZText [sV z]=some (.one (.str (strB (zL z)))):=by
 rw [evV_succ E_ambleref01_ZText]
 unfold zL sV zC zD
 by_cases h0:z.natAbs=0
 ·have hz0:z=0:=by omega
  subst hz0
  have hq:(((digs BT (0:Int).natAbs).length:Int)==0)=true:=by rw [show (0:Int).natAbs=0 from rfl,digs_zero];rfl
  have e:strB (if (0:Int)<0 then 45::decL (0:Int).natAbs else decL (0:Int).natAbs)=⟨#[48]⟩:=by rfl
  rw [e]
  simp only [go_sem,Fn.ambleref01_ZText,intE_len,hq,frzS_str]
 ·have hq:(((digs BT z.natAbs).length:Int)==0)=false:=by
   have:=digs_ne_nil BT2 h0
   have:(digs BT z.natAbs).length≠0:=fun e=>this (List.length_eq_zero_iff.1 e)
   simp only [beq_eq_false_iff_ne,ne_eq];omega
  rw [decL_pos h0]
  unfold dlen at hz hn
  obtain ⟨ob1,hob1⟩:∃o,o=upd ob0 0 (.box [.bool (decide (z<0)),.sl false (intE (digs BT z.natAbs))]):=⟨_,rfl⟩
  have o0:ob1 0=some (.box [.bool (decide (z<0)),.sl false (intE (digs BT z.natAbs))]):=by rw [hob1];exact upd_same _ _ _
  obtain ⟨X1,k1⟩:=zt_L1 (F:=evF E n) (fuel:=n) (fz:=fz0) (ob:=ob1) (nx:=2) (digs BT z.natAbs) (digs_lt BT2 _) (by omega) o0 (by omega) (digs BT z.natAbs).length 0 [] (by omega) n (by omega)
  have hft:=flat_trim (digs BT z.natAbs) (digs_lt BT2 _)
  rw [val_digs BT2] at hft
  have hne:digs 10 z.natAbs≠[]:=digs_ne_nil (by decide) h0
  have hfl:((digs BT z.natAbs).flatMap (padD 4)).length=4*(digs BT z.natAbs).length:=by
   have:=ztP_len (digs BT z.natAbs)
   unfold ztP chD at this
   simpa using this
  obtain ⟨X2,k2⟩:=zt_L2 (F:=evF E n) (fuel:=n) (fz:=fz0) (ob:=ob1) (nx:=2) (.one (.box 0 0)) ((digs BT z.natAbs).flatMap (padD 4)).length ((digs BT z.natAbs).flatMap (padD 4)) X1 rfl (fun x hx=>by
   obtain ⟨d,_,hd⟩:=List.mem_flatMap.1 hx
   exact padD_lt 4 d x hd) (by rw [hft];exact hne) (by omega) n (by omega)
  have e0:strB (ztP ((digs BT z.natAbs).take 0))=⟨#[]⟩:=rfl
  have z0:((0:Nat):Int)=0:=rfl
  rw [e0,z0] at k1
  rw [hft] at k2
  have eP:ztP (digs BT z.natAbs)=(chD ((digs BT z.natAbs).flatMap (padD 4))).reverse:=rfl
  rw [eP] at k1
  have hl10:(digs 10 z.natAbs).length≤4*(digs BT z.natAbs).length:=by
   rw [←hft,←hfl];exact trim_len_le _
  have hadd:=binS_add [45] (chD (digs 10 z.natAbs)).reverse (by simp [chD];omega)
  have hadd:binS .add ⟨#[45]⟩ (strB (chD (digs 10 z.natAbs)).reverse)=some (.str (strB (45::(chD (digs 10 z.natAbs)).reverse))):=hadd
  generalize (chD (digs 10 z.natAbs)).reverse=R at*
  generalize (chD ((digs BT z.natAbs).flatMap (padD 4))).reverse=R2 at*
  by_cases hneg:z<0
  ·rw [if_pos hneg]
   rw [decide_eq_true hneg] at o0 hob1 ⊢
   simp only [go_sem,Fn.ambleref01_ZText,intE_len,hq,←hob1,k1,k2,o0,hadd,frzS_str]
  ·rw [if_neg hneg]
   rw [decide_eq_false hneg] at o0 hob1 ⊢
   simp only [go_sem,Fn.ambleref01_ZText,intE_len,hq,←hob1,k1,k2,o0,frzS_str]
end Go.Ev
namespace Go.Ev
open Go.Dig
theorem strB_toList (l:List Nat):(strB l).toList=l.map fun d=>UInt8.ofNat d:=by
 rw [ByteArray.toList_eq,strB_data]
theorem decL_one (a:Nat):(((decL a).map fun d=>UInt8.ofNat d)=[49])↔a=1:=by
 constructor
 ·intro h
  by_cases h0:a=0
  ·subst h0;exact absurd h (by decide)
  ·rw [decL_pos h0] at h
   have hl:(digs 10 a).length=1:=by
    have:=congrArg List.length h
    simpa [chD] using this
   obtain ⟨d,hd⟩:∃d,digs 10 a=[d]:=List.length_eq_one_iff.1 hl
   have hlt:d<10:=digs_lt (show 2≤10 by decide) a d (by rw [hd];simp)
   have hv:=val_digs (show 2≤10 by decide) a
   rw [hd] at hv h
   have hv:d=a:=by simpa [val] using hv
   have h1:UInt8.ofNat (48+d)=49:=by simpa [chD] using h
   have h2:=congrArg UInt8.toNat h1
   rw [UInt8.toNat_ofNat'] at h2
   have h3:(49:UInt8).toNat=49:=rfl
   rw [h3] at h2
   omega
 ·rintro rfl
  have:decL 1=[49]:=by
   rw [decL_pos (by decide),digs_pos (by decide) (by decide),digs_zero];rfl
  rw [this];rfl
theorem eql_one (a:Nat):binS .eql (strB (decL a)) ⟨#[49]⟩=some (.bool (decide (a=1))):=by
 show some (AV.bool ((strB (decL a)).toList==(⟨#[49]⟩:ByteArray).toList))=_
 have h1:(⟨#[49]⟩:ByteArray).toList=[49]:=by rw [ByteArray.toList_eq]
 rw [h1,strB_toList]
 congr 2
 rw [Bool.eq_iff_iff,beq_iff_eq,decide_eq_true_iff,decL_one]
set_option maxRecDepth 100000 in
theorem rText_run (q:Rat) {ca:List AV} (hq:RQ q ca) {S:Nat} (h:SmQ S q) (hS:S<2^34) {n:Nat} (hn:4*S+100≤n):evV E (n+1) Id.ambleref01_Text [.agg ca]=some (.one (.str (strB (txtL q)))):=by
 rw [evV_succ E_ambleref01_Text]
 obtain ⟨n,rfl⟩:∃j,n=j+1:=⟨n-1,by omega⟩
 have na:=dlenT_bits h.num
 have da:=dlenT_bits h.den
 have k1:=callV_can (ZText_run q.num (by omega) (n:=n) (by omega)) (can1 (canS_s _))
 have k2:=rdn hq (by omega) (n:=n+1) (by omega)
 have k3:=callV_can (ZText_run (q.den:Int) (by rw [Int.natAbs_natCast];omega) (n:=n) (by rw [Int.natAbs_natCast];omega)) (can1 (canS_s _))
 have s1:=decL_len h.num
 have s2:=decL_len h.den
 have ez:zL (q.den:Int)=decL q.den:=by unfold zL;rw [if_neg (by omega),Int.natAbs_natCast]
 rw [ez] at k3
 have ezl:(zL q.num).length≤S+2:=by
  unfold zL
  split
  ·rw [List.length_cons];omega
  ·omega
 have g1:binS .add (strB (zL q.num)) ⟨#[47]⟩=some (.str (strB (zL q.num++[47]))):=binS_add _ [47] (by simp;omega)
 have g2:=binS_add (zL q.num++[47]) (decL q.den) (by simp;omega)
 have g3:=eql_one q.den
 have et:txtL q=zL q.num++(if q.den=1 then [] else 47::decL q.den):=rfl
 rw [et]
 obtain ⟨e,y,rfl⟩:=hq.cells
 generalize zL q.num=A at*
 generalize decL q.den=B at*
 unfold sV zC at k1 k2 k3
 rw [Int.natAbs_natCast] at k2 k3
 unfold zD at k1 k2 k3 ⊢
 by_cases h1:q.den=1
 ·rw [decide_eq_true h1] at g3
  rw [if_pos h1,List.append_nil]
  simp only [go_sem,Fn.ambleref01_Text,k1,k2,k3,g3,frzS_str]
 ·rw [decide_eq_false h1] at g3
  rw [if_neg h1,show A++47::B=A++[47]++B by simp]
  simp only [go_sem,Fn.ambleref01_Text,k1,k2,k3,g1,g2,g3,frzS_str]
theorem Same_run (q:Rat) {ca:List AV} (hq:RQ q ca) {S:Nat} (h:SmQ S q) (hS:S<2^34) {n:Nat} (hn:4*S+110≤n):evV E (n+1) Id.amblelaw01_Same [qV q,.agg ca]=some (.one (.bool true)):=by
 rw [evV_succ E_amblelaw01_Same]
 obtain ⟨n,rfl⟩:∃j,n=j+1:=⟨n-1,by omega⟩
 have k1:=callV_can (Text_run q h hS (n:=n) (by omega)) (can1 (canS_q _))
 have k2:=callV_can (rText_run q hq h hS (n:=n) (by omega)) (can1 hq.can)
 have k3:=binS_self (strB (txtL q))
 obtain ⟨e,y,rfl⟩:=hq.cells
 obtain ⟨a1,a2,a3,ea,-,-,-⟩:=qC_cells q
 unfold qV at k1 ⊢
 rw [ea] at k1 ⊢
 unfold zD at k2 ⊢
 simp only [go_sem,Fn.amblelaw01_Same,k1,k2,k3]
end Go.Ev
namespace Go.Ev
open Go.Dig
theorem ptr_cells (p:Pt):∃a b c d e f g h,rC p.x=[a,b,c,d]∧rC p.z=[e,f,g,h]∧p.r=[a,b,c,d,e,f,g,h]:=⟨_,_,_,_,_,_,_,_,rfl,rfl,rfl⟩
theorem ptr_len (p:Pt):p.r.length=8:=rfl
theorem rCmp_all (S:Nat) (hS:S≤2^30):∃N,∀(a b:Rat) (ca cb:List AV),RQ a ca→RQ b cb→SmQ S a→SmQ S b→∀n,N≤n→∀(ob:Nat→Option AObj) (fz:Nat→Nat),callV (evF E n) Id.ambleref01_Cmp [.agg ca,.agg cb] ob fz=some (.fzd fz (.one (.int .i64 (cmpQ a b)))):=
 ⟨2*(S+S)+21,fun a b ca cb ha hb sa sb n hn=>by
  obtain ⟨m,rfl⟩:∃m,n=m+1:=⟨n-1,by omega⟩
  exact callV_can (rCmp_run a b ha hb sa sb (by omega) (n:=m) (by omega)) (can2 ha.can hb.can)⟩
theorem rcalling_pairs {S:Nat} (hS:S≤2^30) (l:List Rat) (h:∀x∈l,SmQ S x):∃N,∀n,N≤n→∀a∈l,∀b∈l,∀(ob:Nat→Option AObj) (fz:Nat→Nat),callV (evF E n) Id.ambleref01_Cmp [.agg (rC a),.agg (rC b)] ob fz=some (.fzd fz (.one (.int .i64 (cmpQ a b)))):=by
 obtain ⟨N,hN⟩:=rCmp_all S hS
 exact ⟨N,fun n hn a ha b hb=>hN a b _ _ (RQ.self a) (RQ.self b) (h a ha) (h b hb) n hn⟩
theorem rcright_loop {n:Nat} {ob:Nat→Option AObj} {fz:Nat→Nat} {nx:Nat} (l:List Pt) (hl:l.length<2^60) (hc:∀a∈l,∀b∈l,∀(ob:Nat→Option AObj) (fz:Nat→Nat),callV (evF E n) Id.ambleref01_Cmp [.agg (rC a.x),.agg (rC b.x)] ob fz=some (.fzd fz (.one (.int .i64 (cmpQ a.x b.x))))):∀(m j:Nat),j+1+m=l.length→∀(X:List (Nat×SV)) (N:Nat),m<N→
  if incC (l.drop j)=true then ∃X',loopN (evC (evF E n) n Fn.ambleref11_CurveRight_L0) N ⟨env ((0,.one (.sl false (l.map Pt.r)))::(3,.one (.int .i64 ((j+1:Nat):Int)))::X),ob,fz,nx⟩=some (.ext 0,⟨env ((0,.one (.sl false (l.map Pt.r)))::X'),ob,fz,nx⟩)
  else ∃X',loopN (evC (evF E n) n Fn.ambleref11_CurveRight_L0) N ⟨env ((0,.one (.sl false (l.map Pt.r)))::(3,.one (.int .i64 ((j+1:Nat):Int)))::X),ob,fz,nx⟩=some (.ret,⟨env ((2,.one (.bool false))::X'),ob,fz,nx⟩)
 | 0,j,hj,X,N+1,hN=>by
  have h1:(((j+1:Nat):Int)<((l.length:Nat):Int))=False:=by simp only [eq_iff_iff,iff_false];omega
  have e:incC (l.drop j)=true:=by
   rw [List.drop_eq_getElem_cons (show j<l.length by omega),List.drop_eq_nil_of_le (by omega)]
   rfl
  rw [if_pos e]
  refine ⟨[(3,.one (.int .i64 ((j+1:Nat):Int))),(7,.one (.bool false))],round_ext ?_⟩
  simp only [go_sem,Fn.ambleref11_CurveRight_L0,List.length_map,h1]
 | m+1,j,hj,X,N+1,hN=>by
  have hj1:j<l.length:=by omega
  have hj2:j+1<l.length:=by omega
  have h1:(((j+1:Nat):Int)<((l.length:Nat):Int))=True:=by simp only [eq_iff_iff,iff_true];omega
  have wk:IntKind.i64.wrap ((j+1+1:Nat):Int)=((j+1+1:Nat):Int):=wi64 (by omega)
  have w1:IntKind.i64.wrap (((j+1:Nat):Int)-1)=((j:Nat):Int):=by rw [wrap_i64 (by omega)];omega
  obtain ⟨a1,a2,a3,a4,a5,a6,a7,a8,ea,-,ea'⟩:=ptr_cells l[j]
  obtain ⟨b1,b2,b3,b4,b5,b6,b7,b8,eb,-,eb'⟩:=ptr_cells l[j+1]
  have g1:(l.map Pt.r)[j]? =some [a1,a2,a3,a4,a5,a6,a7,a8]:=by rw [List.getElem?_map,List.getElem?_eq_getElem hj1,Option.map_some,ea']
  have g2:(l.map Pt.r)[j+1]? =some [b1,b2,b3,b4,b5,b6,b7,b8]:=by rw [List.getElem?_map,List.getElem?_eq_getElem hj2,Option.map_some,eb']
  have hcc:=hc l[j] (by simp) l[j+1] (by simp)
  rw [ea,eb] at hcc
  have okz:okSz 8 (l.map Pt.r)=true:=okSz_map ptr_len l
  have e:incC (l.drop j)=(decide (cmpQ l[j].x l[j+1].x<0)&&incC (l.drop (j+1))):=by
   rw [List.drop_eq_getElem_cons hj1,List.drop_eq_getElem_cons hj2]
   rfl
  rw [e]
  generalize cmpQ l[j].x l[j+1].x=k at*
  by_cases hk:k<0
  ·rw [decide_eq_true hk,Bool.true_and]
   have g3:(k≥0)=False:=by simp only [eq_iff_iff,iff_false];omega
   have hst:evC (evF E n) n Fn.ambleref11_CurveRight_L0 ⟨env ((0,.one (.sl false (l.map Pt.r)))::(3,.one (.int .i64 ((j+1:Nat):Int)))::X),ob,fz,nx⟩=some (.nrm,⟨env [(0,.one (.sl false (l.map Pt.r))),(3,.one (.int .i64 ((j+1+1:Nat):Int)))],ob,fz,nx⟩):=by
    simp only [go_sem,Fn.ambleref11_CurveRight_L0,List.length_map,h1,w1,g1,g2,okz,hcc,g3,add1,wk]
   rw [round_nrm hst]
   exact rcright_loop l hl hc m (j+1) (by omega) [] N (by omega)
  ·rw [decide_eq_false hk,Bool.false_and,if_neg (by simp)]
   have g3:(k≥0)=True:=by simp only [eq_iff_iff,iff_true];omega
   refine ⟨[],round_ret ?_⟩
   simp only [go_sem,Fn.ambleref11_CurveRight_L0,List.length_map,h1,w1,g1,g2,okz,hcc,g3]
theorem rcright_ends (l:List Pt) (hl:l.length<2^60) (h:∀p∈l,SmPt p):Ends Id.ambleref11_CurveRight [.one (.sl false (l.map Pt.r))] (.one (.bool (rightC l))):=by
 obtain ⟨N,hN⟩:=rcalling_pairs (S:=256) (by decide) (l.map Pt.x) (fun x hx=>by
  obtain ⟨p,hp,rfl⟩:=List.mem_map.1 hx
  exact (h p hp).x)
 refine .of (N+l.length+1) fun {n} hn=> ?_
 have hc:∀a∈l,∀b∈l,∀(ob:Nat→Option AObj) (fz:Nat→Nat),callV (evF E n) Id.ambleref01_Cmp [.agg (rC a.x),.agg (rC b.x)] ob fz=some (.fzd fz (.one (.int .i64 (cmpQ a.x b.x)))):=fun a ha b hb=>hN n (by omega) a.x (List.mem_map_of_mem ha) b.x (List.mem_map_of_mem hb)
 rw [evV_succ E_ambleref11_CurveRight]
 unfold rightC
 have k1:(((l.length:Nat):Int)≥1)=(1≤l.length):=by rw [eq_iff_iff];omega
 have k2:(((l.length:Nat):Int)≤8)=(l.length≤8):=by rw [eq_iff_iff];omega
 rcases l with _ | ⟨p,r⟩
 ·have h1:((1:Int)<((0:Nat):Int))=False:=by simp
  have h2:(((0:Nat):Int)≥1)=False:=by simp
  have hlo:loopN (evC (evF E n) n Fn.ambleref11_CurveRight_L0) n ⟨env [(0,.one (.sl false [])),(3,.one (.int .i64 1))],ob0,fz0,0⟩=some (.ext 0,⟨env [(0,.one (.sl false [])),(3,.one (.int .i64 1)),(7,.one (.bool false))],ob0,fz0,0⟩):=by
   obtain ⟨m,rfl⟩:∃m,n=m+1:=⟨n-1,by omega⟩
   refine round_ext ?_
   simp only [go_sem,Fn.ambleref11_CurveRight_L0,h1]
  have e1:(1≤0)=False:=by simp
  simp only [go_sem,Fn.ambleref11_CurveRight,hlo,h2,e1,incC]
 ·have hlo:=rcright_loop (ob:=ob0) (fz:=fz0) (nx:=0) (p::r) hl hc r.length 0 (by simp;omega) [] n (by simp at hn;omega)
  rw [show ((0+1:Nat):Int)=1 from rfl,List.drop_zero] at hlo
  generalize p::r=l at*
  by_cases hi:incC l=true
  ·rw [if_pos hi] at hlo
   obtain ⟨X',hlo⟩:=hlo
   rw [hi,Bool.true_and]
   by_cases b1:1≤l.length<;>simp only [go_sem,Fn.ambleref11_CurveRight,List.length_map,hlo,k1,k2,b1]
  ·rw [if_neg hi] at hlo
   obtain ⟨X',hlo⟩:=hlo
   rw [Bool.not_eq_true] at hi
   rw [hi]
   simp only [go_sem,Fn.ambleref11_CurveRight,hlo]
theorem rcright_call (l:List Pt) (hl:l.length<2^60) (h:∀p∈l,SmPt p):Calling Id.ambleref11_CurveRight [.one (.sl false (l.map Pt.r))] (.one (.bool (rightC l))):=(rcright_ends l hl h).call (can1 (.one _ (.sl _)))
end Go.Ev
namespace Go.Ev
open Go.Dig
theorem rC4 (q:Rat):∃a b c d,rC q=[a,b,c,d]:=⟨_,_,_,_,rfl⟩
theorem bxr_cells (b:Bx):b.r=rC b.low.load++rC b.low.angle++rC b.low.speed++(rC b.high.load++rC b.high.angle++rC b.high.speed):=rfl
set_option maxRecDepth 100000 in
set_option maxHeartbeats 1000000 in
theorem rbox_ends (b:Bx) (h:SmBx b):Ends Id.ambleref11_BoxRight [.agg b.r] (.one (.bool (rightBx b))):=by
 obtain ⟨N,hN⟩:=rCmp_all 256 (by decide)
 refine .of (N+5) fun {n} hn=> ?_
 have k0:=hN b.low.load b.high.load _ _ (RQ.self _) (RQ.self _) h.low.load h.high.load n (by omega)
 have k1:=hN b.low.angle b.high.angle _ _ (RQ.self _) (RQ.self _) h.low.angle h.high.angle n (by omega)
 have k2:=hN b.low.speed b.high.speed _ _ (RQ.self _) (RQ.self _) h.low.speed h.high.speed n (by omega)
 rw [evV_succ E_ambleref11_BoxRight]
 unfold rightBx
 rw [bxr_cells]
 obtain ⟨a0,a1,a2,a3,e0⟩:=rC4 b.low.load
 obtain ⟨a4,a5,a6,a7,e1⟩:=rC4 b.low.angle
 obtain ⟨a8,a9,a10,a11,e2⟩:=rC4 b.low.speed
 obtain ⟨b0,b1,b2,b3,f0⟩:=rC4 b.high.load
 obtain ⟨b4,b5,b6,b7,f1⟩:=rC4 b.high.angle
 obtain ⟨b8,b9,b10,b11,f2⟩:=rC4 b.high.speed
 rw [e0,f0] at k0
 rw [e1,f1] at k1
 rw [e2,f2] at k2
 rw [e0,e1,e2,f0,f1,f2]
 generalize cmpQ b.low.load b.high.load=c0 at*
 generalize cmpQ b.low.angle b.high.angle=c1 at*
 generalize cmpQ b.low.speed b.high.speed=c2 at*
 obtain ⟨m,rfl⟩:∃m,n=m+4:=⟨n-4,by omega⟩
 have nz:Ev.natOf 0=some 0:=rfl
 have n1:Ev.natOf 1=some 1:=rfl
 have n2:Ev.natOf 2=some 2:=rfl
 have l0:((0:Int)<3)=True:=by simp
 have l1:((1:Int)<3)=True:=by simp
 have l2:((2:Int)<3)=True:=by simp
 have l3:((3:Int)<3)=False:=by simp
 have w1:IntKind.i64.wrap (0+1)=1:=rfl
 have w2:IntKind.i64.wrap (1+1)=2:=rfl
 have w3:IntKind.i64.wrap (2+1)=3:=rfl
 generalize hob:upd ob0 0 (.box ([a0,a1,a2,a3]++[a4,a5,a6,a7]++[a8,a9,a10,a11]++([b0,b1,b2,b3]++[b4,b5,b6,b7]++[b8,b9,b10,b11])))=ob
 have hob':upd ob0 0 (.box [a0,a1,a2,a3,a4,a5,a6,a7,a8,a9,a10,a11,b0,b1,b2,b3,b4,b5,b6,b7,b8,b9,b10,b11])=ob:=hob
 have ho:ob 0=some (.box [a0,a1,a2,a3,a4,a5,a6,a7,a8,a9,a10,a11,b0,b1,b2,b3,b4,b5,b6,b7,b8,b9,b10,b11]):=by rw [←hob];exact upd_same _ _ _
 have fin:∀X,evC (evF E (m+4)) (m+4) Fn.ambleref11_BoxRight_L0 ⟨env ((1,.one (.box 0 0))::(3,.one (.int .i64 3))::X),ob,fz0,2⟩=some (.ext 0,⟨env [(1,.one (.box 0 0)),(3,.one (.int .i64 3)),(5,.one (.bool false))],ob,fz0,2⟩):=fun X=>by
  simp only [go_sem,Fn.ambleref11_BoxRight_L0,l3]
 have r0:∀X,evC (evF E (m+4)) (m+4) Fn.ambleref11_BoxRight_L0 ⟨env ((1,.one (.box 0 0))::(3,.one (.int .i64 0))::X),ob,fz0,2⟩=if c0≤0 then some (.nrm,⟨env [(1,.one (.box 0 0)),(3,.one (.int .i64 1))],ob,fz0,2⟩) else some (.ret,⟨env [(2,.one (.bool false))],ob,fz0,2⟩):=fun X=>by
  by_cases hc:c0≤0
  ·rw [if_pos hc]
   have g:(c0>0)=False:=by simp only [eq_iff_iff,iff_false];omega
   simp only [go_sem,Fn.ambleref11_BoxRight_L0,l0,nz,ho,k0,g,w1]
  ·rw [if_neg hc]
   have g:(c0>0)=True:=by simp only [eq_iff_iff,iff_true];omega
   simp only [go_sem,Fn.ambleref11_BoxRight_L0,l0,nz,ho,k0,g]
 have r1:∀X,evC (evF E (m+4)) (m+4) Fn.ambleref11_BoxRight_L0 ⟨env ((1,.one (.box 0 0))::(3,.one (.int .i64 1))::X),ob,fz0,2⟩=if c1≤0 then some (.nrm,⟨env [(1,.one (.box 0 0)),(3,.one (.int .i64 2))],ob,fz0,2⟩) else some (.ret,⟨env [(2,.one (.bool false))],ob,fz0,2⟩):=fun X=>by
  by_cases hc:c1≤0
  ·rw [if_pos hc]
   have g:(c1>0)=False:=by simp only [eq_iff_iff,iff_false];omega
   simp only [go_sem,Fn.ambleref11_BoxRight_L0,l1,n1,ho,k1,g,w2]
  ·rw [if_neg hc]
   have g:(c1>0)=True:=by simp only [eq_iff_iff,iff_true];omega
   simp only [go_sem,Fn.ambleref11_BoxRight_L0,l1,n1,ho,k1,g]
 have r2:∀X,evC (evF E (m+4)) (m+4) Fn.ambleref11_BoxRight_L0 ⟨env ((1,.one (.box 0 0))::(3,.one (.int .i64 2))::X),ob,fz0,2⟩=if c2≤0 then some (.nrm,⟨env [(1,.one (.box 0 0)),(3,.one (.int .i64 3))],ob,fz0,2⟩) else some (.ret,⟨env [(2,.one (.bool false))],ob,fz0,2⟩):=fun X=>by
  by_cases hc:c2≤0
  ·rw [if_pos hc]
   have g:(c2>0)=False:=by simp only [eq_iff_iff,iff_false];omega
   simp only [go_sem,Fn.ambleref11_BoxRight_L0,l2,n2,ho,k2,g,w3]
  ·rw [if_neg hc]
   have g:(c2>0)=True:=by simp only [eq_iff_iff,iff_true];omega
   simp only [go_sem,Fn.ambleref11_BoxRight_L0,l2,n2,ho,k2,g]
 have hloop:loopN (evC (evF E (m+4)) (m+4) Fn.ambleref11_BoxRight_L0) (m+4) ⟨env [(1,.one (.box 0 0)),(3,.one (.int .i64 0))],ob,fz0,2⟩=
   if c0≤0∧c1≤0∧c2≤0 then some (.ext 0,⟨env [(1,.one (.box 0 0)),(3,.one (.int .i64 3)),(5,.one (.bool false))],ob,fz0,2⟩) else some (.ret,⟨env [(2,.one (.bool false))],ob,fz0,2⟩):=by
  by_cases h0:c0≤0
  ·have q0:=r0 []
   rw [if_pos h0] at q0
   rw [round_nrm q0]
   by_cases h1:c1≤0
   ·have q1:=r1 []
    rw [if_pos h1] at q1
    rw [round_nrm q1]
    by_cases h2:c2≤0
    ·have q2:=r2 []
     rw [if_pos h2] at q2
     rw [round_nrm q2,round_ext (fin []),if_pos ⟨h0,h1,h2⟩]
    ·have q2:=r2 []
     rw [if_neg h2] at q2
     rw [round_ret q2,if_neg (fun h=>h2 h.2.2)]
   ·have q1:=r1 []
    rw [if_neg h1] at q1
    rw [round_ret q1,if_neg (fun h=>h1 h.2.1)]
  ·have q0:=r0 []
   rw [if_neg h0] at q0
   rw [round_ret q0,if_neg (fun h=>h0 h.1)]
 by_cases hall:c0≤0∧c1≤0∧c2≤0
 ·rw [if_pos hall] at hloop
  rw [decide_eq_true hall.1,decide_eq_true hall.2.1,decide_eq_true hall.2.2]
  simp only [go_sem,Fn.ambleref11_BoxRight,hob',hloop,Bool.and_self]
 ·rw [if_neg hall] at hloop
  have e:(decide (c0≤0)&&(decide (c1≤0)&&decide (c2≤0)))=false:=by
   rw [Bool.eq_false_iff]
   intro h
   simp only [Bool.and_eq_true,decide_eq_true_eq] at h
   exact hall h
  rw [e]
  simp only [go_sem,Fn.ambleref11_BoxRight,hob',hloop]
theorem rbox_call (b:Bx) (h:SmBx b):Calling Id.ambleref11_BoxRight [.agg b.r] (.one (.bool (rightBx b))):=(rbox_ends b h).call (can1 (CanL.bxr b).agg)
end Go.Ev
namespace Go.Ev
open Go.Dig
theorem guardr_cells (g:Guard):∃c0 c1 c2 c3 c4 c5 c6 c7 c8 c9 c10 c11 c12 c13 c14 c15 c16 c17 c18 c19 c20 c21 c22 c23,g.box.r=[c0,c1,c2,c3,c4,c5,c6,c7,c8,c9,c10,c11,c12,c13,c14,c15,c16,c17,c18,c19,c20,c21,c22,c23]∧g.r=[.int .u8 (g.from_:Int),.int .u8 (g.to:Int),c0,c1,c2,c3,c4,c5,c6,c7,c8,c9,c10,c11,c12,c13,c14,c15,c16,c17,c18,c19,c20,c21,c22,c23,.int .i64 g.hold]:=
 ⟨_,_,_,_,_,_,_,_,_,_,_,_,_,_,_,_,_,_,_,_,_,_,_,_,rfl,rfl⟩
set_option maxRecDepth 100000 in
theorem rcheck_round {n:Nat} {ob:Nat→Option AObj} {nx i:Nat} (h0:0<nx) (l:List Guard) (w1 w2 s0 s1 s2 s3:AV) (o0:ob 0=some (.box [.sl false (l.map Guard.r),w1,w2,s0,s1,s2,s3])) (hl:l.length<2^20) (g:Guard) (gd:l[i]? =some g) (hil:i<l.length) (hc:∀(ob:Nat→Option AObj) (fz:Nat→Nat),callV (evF E n) Id.ambleref11_BoxRight [.agg g.box.r] ob fz=some (.fzd fz (.one (.bool (rightBx g.box))))) (X:List (Nat×SV)):
  ∃ob':Nat→Option AObj,(∀id,id<nx→ob' id=ob id)∧evC (evF E n) n Fn.ambleref11_Right_L0 ⟨env ((1,.one (.box 0 0))::(3,.one (.int .i64 (i:Int)))::X),ob,fz0,nx⟩=
   if badG g=true then some (.ret,⟨env [(2,.one (.bool false))],ob',fz0,nx+7⟩) else some (.nrm,⟨env [(1,.one (.box 0 0)),(3,.one (.int .i64 ((i+1:Nat):Int)))],ob',fz0,nx+7⟩):=by
 have h1:(((i:Nat):Int)<((l.length:Nat):Int))=True:=by simp;omega
 have wk:IntKind.i64.wrap ((i+1:Nat):Int)=((i+1:Nat):Int):=wi64 (by omega)
 have okz:okSz 27 (l.map Guard.r)=true:=okSz_map (f:=Guard.r) (k:=27) (fun _=>rfl) l
 have ge:(l.map Guard.r)[i]? =some g.r:=by rw [List.getElem?_map,gd];rfl
 obtain ⟨c0,c1,c2,c3,c4,c5,c6,c7,c8,c9,c10,c11,c12,c13,c14,c15,c16,c17,c18,c19,c20,c21,c22,c23,eb,ec⟩:=guardr_cells g
 rw [eb] at hc
 rw [ec] at ge
 refine ⟨upd (upd ob (nx+5) (.box [.int .u8 0,.int .u8 0,.bool false,.nils,.bool false,.nils,.bool false,.nils,.bool false,.nils,.bool false,.nils,.bool false,.nils,.bool false,.nils,.bool false,.nils,.bool false,.nils,.bool false,.nils,.bool false,.nils,.bool false,.nils,.int .i64 0])) (nx+5) (.box [.int .u8 (g.from_:Int),.int .u8 (g.to:Int),c0,c1,c2,c3,c4,c5,c6,c7,c8,c9,c10,c11,c12,c13,c14,c15,c16,c17,c18,c19,c20,c21,c22,c23,.int .i64 g.hold]),fun id h=>by rw [upd_ne (by omega),upd_ne (by omega)], ?_⟩
 unfold badG
 generalize g.from_=fr at*
 generalize g.to=to at*
 generalize rightBx g.box=rb at*
 generalize g.hold=ho at*
 have q1:(((fr:Nat):Int)>4)=(5≤fr):=by rw [eq_iff_iff];omega
 have q2:(((to:Nat):Int)>4)=(5≤to):=by rw [eq_iff_iff];omega
 have q3:(((fr:Nat):Int)==((to:Nat):Int))=decide (fr=to):=by
  by_cases h:fr=to
  ·subst h;simp
  ·rw [decide_eq_false h];simp only [beq_eq_false_iff_ne,ne_eq];omega
 by_cases p1:5≤fr
 ·simp only [go_sem,Fn.ambleref11_Right_L0,List.length_map,o0,h1,ge,okz,hc,q1,p1]
 by_cases p2:5≤to
 ·simp only [go_sem,Fn.ambleref11_Right_L0,List.length_map,o0,h1,ge,okz,hc,q1,q2,p1,p2]
 by_cases p3:fr=to
 ·have p3':(fr=to)=True:=eq_true p3
  simp only [go_sem,Fn.ambleref11_Right_L0,List.length_map,o0,h1,ge,okz,hc,q1,q2,q3,p1,p2,p3']
 cases rb with
 | false=>simp only [go_sem,Fn.ambleref11_Right_L0,List.length_map,o0,h1,ge,okz,hc,q1,q2,q3,p1,p2,p3]
 | true=>
  by_cases p4:ho<1
  ·simp only [go_sem,Fn.ambleref11_Right_L0,List.length_map,o0,h1,ge,okz,hc,q1,q2,q3,p1,p2,p3,p4]
  by_cases p5:ho>8
  ·simp only [go_sem,Fn.ambleref11_Right_L0,List.length_map,o0,h1,ge,okz,hc,q1,q2,q3,p1,p2,p3,p4,p5]
  ·simp only [go_sem,Fn.ambleref11_Right_L0,List.length_map,o0,h1,ge,okz,hc,q1,q2,q3,p1,p2,p3,p4,p5,add1,wk]
theorem rcheck_loop {n:Nat} (l:List Guard) (w1 w2 s0 s1 s2 s3:AV) (hl:l.length<2^20) (hc:∀g∈l,∀(ob:Nat→Option AObj) (fz:Nat→Nat),callV (evF E n) Id.ambleref11_BoxRight [.agg g.box.r] ob fz=some (.fzd fz (.one (.bool (rightBx g.box))))):∀(m i:Nat),i+m=l.length→∀(ob:Nat→Option AObj) (nx:Nat) (X:List (Nat×SV)) (N:Nat),0<nx→ob 0=some (.box [.sl false (l.map Guard.r),w1,w2,s0,s1,s2,s3])→m<N→
  ∃(ob':Nat→Option AObj) (nx':Nat) (X':List (Nat×SV)),(∀id,id<nx→ob' id=ob id)∧nx≤nx'∧((l.drop i).any badG=true→loopN (evC (evF E n) n Fn.ambleref11_Right_L0) N ⟨env ((1,.one (.box 0 0))::(3,.one (.int .i64 (i:Int)))::X),ob,fz0,nx⟩=
   some (.ret,⟨env ((2,.one (.bool false))::X'),ob',fz0,nx'⟩))∧((l.drop i).any badG=false→loopN (evC (evF E n) n Fn.ambleref11_Right_L0) N ⟨env ((1,.one (.box 0 0))::(3,.one (.int .i64 (i:Int)))::X),ob,fz0,nx⟩=some (.ext 0,⟨env ((1,.one (.box 0 0))::X'),ob',fz0,nx'⟩))
 | 0,i,hi,ob,nx,X,N+1,hnx,o0,hN=>by
  have hi':i=l.length:=by omega
  subst hi'
  rw [List.drop_length,List.any_nil]
  have h1:(((l.length:Nat):Int)<((l.length:Nat):Int))=False:=by simp
  refine ⟨ob,nx,[(3,.one (.int .i64 (l.length:Int))),(32,.one (.bool false))],fun _ _=>rfl,Nat.le_refl _,fun h=>by simp at h,fun _=>round_ext ?_⟩
  simp only [go_sem,Fn.ambleref11_Right_L0,List.length_map,o0,h1]
 | m+1,i,hi,ob,nx,X,N+1,hnx,o0,hN=>by
  have hil:i<l.length:=by omega
  obtain ⟨ob1,hf,hr⟩:=rcheck_round (ob:=ob) (nx:=nx) (i:=i) hnx l w1 w2 s0 s1 s2 s3 o0 hl l[i] (by simp) hil (hc _ (by simp)) X
  rw [List.drop_eq_getElem_cons hil,List.any_cons]
  by_cases hb:badG l[i]=true
  ·rw [if_pos hb] at hr
   rw [hb,Bool.true_or]
   exact ⟨ob1,nx+7,[],hf,by omega,fun _=>round_ret hr,fun h=>by simp at h⟩
  ·rw [if_neg hb] at hr
   rw [Bool.not_eq_true] at hb
   rw [hb,Bool.false_or]
   obtain ⟨ob',nx',X',hf',hle,h,h'⟩:=rcheck_loop l w1 w2 s0 s1 s2 s3 hl hc m (i+1) (by omega) ob1 (nx+7) [] N (by omega) (by rw [hf 0 hnx];exact o0) (by omega)
   exact ⟨ob',nx',X',fun id h=>by rw [hf' id (by omega),hf id h],by omega,fun e=>by rw [round_nrm hr];exact h e,fun e=>by rw [round_nrm hr];exact h' e⟩
end Go.Ev
namespace Go.Ev
open Go.Dig
theorem rSign_call (a:Rat) {S:Nat} (ha:SmQ S a) (hS:S<2^36):Calling Id.ambleref01_Sign [.agg (rC a)] (.one (.int .i64 (signI a.num))):=
 (Ends.of (S+20) fun {n} hn=>rSign_run a (RQ.self a) ha hS hn:Ends Id.ambleref01_Sign [.agg (rC a)] (.one (.int .i64 (signI a.num)))).call (can1 (canS_r a))
set_option maxRecDepth 100000 in
theorem rlast_round {n:Nat} {ob:Nat→Option AObj} {nx i:Nat} (C:List (List Pt)) (L:List Pt) (w0 s0 s1 s2 s3:AV) (o0:ob 0=some (.box [w0,.sl false (C.map fun s=>[.sl false (s.map Pt.r)]),.sl false (L.map Pt.r),s0,s1,s2,s3])) (hi:i<5) (c:List Pt) (p:Pt) (gc:C[i]? =some c) (gp:L[i]? =some p)
  (k0:∀(ob:Nat→Option AObj) (fz:Nat→Nat),callV (evF E n) Id.ambleref11_CurveRight [.one (.sl false (c.map Pt.r))] ob fz=some (.fzd fz (.one (.bool (rightC c)))))
  (k1:∀(ob:Nat→Option AObj) (fz:Nat→Nat),callV (evF E n) Id.ambleref01_Sign [.agg (rC p.x)] ob fz=some (.fzd fz (.one (.int .i64 (signI p.x.num)))))
  (k2:∀(ob:Nat→Option AObj) (fz:Nat→Nat),callV (evF E n) Id.ambleref01_Sign [.agg (rC p.z)] ob fz=some (.fzd fz (.one (.int .i64 (signI p.z.num))))) (X:List (Nat×SV)):
  evC (evF E n) n Fn.ambleref11_Right_L1 ⟨env ((1,.one (.box 0 0))::(5,.one (.int .i64 (i:Int)))::X),ob,fz0,nx⟩=
   if (badC c || badL p)=true then some (.ret,⟨env [(2,.one (.bool false))],ob,fz0,nx⟩) else some (.nrm,⟨env [(1,.one (.box 0 0)),(5,.one (.int .i64 ((i+1:Nat):Int)))],ob,fz0,nx⟩):=by
 have h1:(((i:Nat):Int)<5)=True:=by simp;omega
 have wk:IntKind.i64.wrap ((i+1:Nat):Int)=((i+1:Nat):Int):=wi64 (by omega)
 have okc:okSz 1 (C.map fun s=>[AV.sl false (s.map Pt.r)])=true:=okSz_map (f:=fun s=>[AV.sl false (s.map Pt.r)]) (k:=1) (fun _=>rfl) C
 have okl:okSz 8 (L.map Pt.r)=true:=okSz_map ptr_len L
 have g1:(C.map fun s=>[AV.sl false (s.map Pt.r)])[i]? =some [.sl false (c.map Pt.r)]:=by rw [List.getElem?_map,gc];rfl
 obtain ⟨a1,a2,a3,a4,a5,a6,a7,a8,ea,eb,ec⟩:=ptr_cells p
 have g2:(L.map Pt.r)[i]? =some [a1,a2,a3,a4,a5,a6,a7,a8]:=by rw [List.getElem?_map,gp,Option.map_some,ec]
 rw [ea] at k1
 rw [eb] at k2
 unfold badC badL
 generalize rightC c=rc at*
 generalize signI p.x.num=x at*
 generalize signI p.z.num=z at*
 cases rc with
 | false=>
  have e:(!false || (decide (x<0) || decide (z<0)))=true:=rfl
  rw [if_pos e]
  simp only [go_sem,Fn.ambleref11_Right_L1,h1,o0,okc,okl,g1,g2,k0]
 | true=>
  by_cases hx:x<0
  ·have e:(!true || (decide (x<0) || decide (z<0)))=true:=by rw [decide_eq_true hx];rfl
   rw [if_pos e]
   simp only [go_sem,Fn.ambleref11_Right_L1,h1,o0,okc,okl,g1,g2,k0,k1,hx]
  ·by_cases hz:z<0
   ·have e:(!true || (decide (x<0) || decide (z<0)))=true:=by rw [decide_eq_true hz,decide_eq_false hx];rfl
    rw [if_pos e]
    simp only [go_sem,Fn.ambleref11_Right_L1,h1,o0,okc,okl,g1,g2,k0,k1,k2,hx,hz]
   ·have e:¬(!true || (decide (x<0) || decide (z<0)))=true:=by rw [decide_eq_false hz,decide_eq_false hx];simp
    rw [if_neg e]
    simp only [go_sem,Fn.ambleref11_Right_L1,h1,o0,okc,okl,g1,g2,k0,k1,k2,hx,hz,add1,wk]
theorem rlast_loop {n:Nat} {ob:Nat→Option AObj} {nx:Nat} (C:List (List Pt)) (L:List Pt) (hC:C.length=5) (hL:L.length=5) (w0 s0 s1 s2 s3:AV) (o0:ob 0=some (.box [w0,.sl false (C.map fun s=>[.sl false (s.map Pt.r)]),.sl false (L.map Pt.r),s0,s1,s2,s3]))
  (k0:∀c∈C,∀(ob:Nat→Option AObj) (fz:Nat→Nat),callV (evF E n) Id.ambleref11_CurveRight [.one (.sl false (c.map Pt.r))] ob fz=some (.fzd fz (.one (.bool (rightC c)))))
  (k1:∀p∈L,∀(ob:Nat→Option AObj) (fz:Nat→Nat),callV (evF E n) Id.ambleref01_Sign [.agg (rC p.x)] ob fz=some (.fzd fz (.one (.int .i64 (signI p.x.num)))))
  (k2:∀p∈L,∀(ob:Nat→Option AObj) (fz:Nat→Nat),callV (evF E n) Id.ambleref01_Sign [.agg (rC p.z)] ob fz=some (.fzd fz (.one (.int .i64 (signI p.z.num))))):∀(m i:Nat),i+m=5→∀(X:List (Nat×SV)) (N:Nat),m<N→
  ∃X',loopN (evC (evF E n) n Fn.ambleref11_Right_L1) N ⟨env ((1,.one (.box 0 0))::(5,.one (.int .i64 (i:Int)))::X),ob,fz0,nx⟩=
   if ((C.drop i).any badC || (L.drop i).any badL)=true then some (.ret,⟨env ((2,.one (.bool false))::X'),ob,fz0,nx⟩) else some (.ext 2,⟨env ((1,.one (.box 0 0))::X'),ob,fz0,nx⟩)
 | 0,i,hi,X,N,hN=>by
  obtain ⟨N,rfl⟩:∃k,N=k+1:=⟨N-1,by omega⟩
  have e1:C.drop i=[]:=List.drop_eq_nil_of_le (by omega)
  have e2:L.drop i=[]:=List.drop_eq_nil_of_le (by omega)
  have h1:(((i:Nat):Int)<5)=False:=by simp;omega
  rw [e1,e2]
  refine ⟨[(5,.one (.int .i64 (i:Int))),(72,.one (.bool false))], ?_⟩
  rw [if_neg (by simp)]
  refine round_ext ?_
  simp only [go_sem,Fn.ambleref11_Right_L1,h1]
 | m+1,i,hi,X,N,hN=>by
  obtain ⟨N,rfl⟩:∃k,N=k+1:=⟨N-1,by omega⟩
  have hr:=rlast_round (n:=n) (nx:=nx) (i:=i) C L w0 s0 s1 s2 s3 o0 (by omega) C[i] L[i] (by simp) (by simp) (k0 _ (by simp)) (k1 _ (by simp)) (k2 _ (by simp)) X
  rw [List.drop_eq_getElem_cons (show i<C.length by omega),List.drop_eq_getElem_cons (show i<L.length by omega),List.any_cons,List.any_cons]
  by_cases hb:(badC C[i] || badL L[i])=true
  ·rw [if_pos hb] at hr
   have e:(badC C[i] || (C.drop (i+1)).any badC || (badL L[i] || (L.drop (i+1)).any badL))=true:=by
    rcases Bool.or_eq_true_iff.1 hb with h | h<;>simp [h]
   refine ⟨[], ?_⟩
   rw [if_pos e]
   exact round_ret hr
  ·rw [if_neg hb] at hr
   rw [round_nrm hr]
   obtain ⟨X',hX⟩:=rlast_loop C L hC hL w0 s0 s1 s2 s3 o0 k0 k1 k2 m (i+1) (by omega) [] N (by omega)
   rw [Bool.not_eq_true,Bool.or_eq_false_iff] at hb
   rw [hb.1,hb.2,Bool.false_or,Bool.false_or]
   exact ⟨X',hX⟩
theorem calling_on {α:Type} {f:FuncId} {a:α→List SV} {r:α→SV}:∀(l:List α),(∀x∈l,Calling f (a x) (r x))→∃N,∀n,N≤n→∀x∈l,∀(ob:Nat→Option AObj) (fz:Nat→Nat),callV (evF E n) f (a x) ob fz=some (.fzd fz (r x))
 | [],h=>⟨0,fun _ _ _ h=>by simp at h⟩
 | x::l,h=>by
  obtain ⟨N1,h1⟩:=h x (by simp)
  obtain ⟨N2,h2⟩:=calling_on l fun y hy=>h y (by simp [hy])
  refine ⟨N1+N2,fun n hn y hy=> ?_⟩
  rcases List.mem_cons.1 hy with rfl | e
  ·exact h1 n (by omega)
  ·exact h2 n (by omega) y e
set_option maxRecDepth 100000 in
theorem rRight_ends (d:Dev) (h:SmDev d):Ends Id.ambleref11_Right [.agg d.r] (.one (.bool (rightD d))):=by
 obtain ⟨N1,k1⟩:=rSign_call d.step h.st (by decide)
 obtain ⟨N2,k2⟩:=calling_on d.guards fun g hg=>rbox_call g.box (h.gs g hg).box
 obtain ⟨N3,k3⟩:=calling_on d.curves fun c hc=>rcright_call c (Nat.lt_trans (h.cll c hc) (by decide)) (h.cs c hc)
 obtain ⟨N4,k4⟩:=calling_on d.limits fun p hp=>rSign_call p.x (h.ls p hp).x (by decide)
 obtain ⟨N5,k5⟩:=calling_on d.limits fun p hp=>rSign_call p.z (h.ls p hp).z (by decide)
 refine .of (N1+N2+N3+N4+N5+d.guards.length+6) fun {n} hn=> ?_
 have k1:=k1 n (by omega)
 have k2:=k2 n (by omega)
 have k3:=k3 n (by omega)
 have k4:=k4 n (by omega)
 have k5:=k5 n (by omega)
 rw [evV_succ E_ambleref11_Right]
 have hgl:=h.gl
 unfold rightD Dev.r
 obtain ⟨a1,a2,a3,a4,ea⟩:=rC4 d.step
 rw [ea] at k1 ⊢
 generalize signI d.step.num=sg at*
 have q1:(((d.guards.length:Nat):Int)>16)=(16<d.guards.length):=by rw [eq_iff_iff];omega
 have q2:(((d.curves.length:Nat):Int) !=5)=decide (d.curves.length≠5):=by
  by_cases h:d.curves.length=5
  ·simp [h]
  ·rw [decide_eq_true h];simp only [bne_iff_ne,ne_eq];omega
 have q3:(((d.limits.length:Nat):Int) !=5)=decide (d.limits.length≠5):=by
  by_cases h:d.limits.length=5
  ·simp [h]
  ·rw [decide_eq_true h];simp only [bne_iff_ne,ne_eq];omega
 by_cases p1:16<d.guards.length
 ·simp only [go_sem,Fn.ambleref11_Right,List.length_map,q1,p1]
 by_cases p2:d.curves.length≠5
 ·rw [decide_eq_true p2] at q2 ⊢
  simp only [go_sem,Fn.ambleref11_Right,List.length_map,q1,q2,p1]
 rw [decide_eq_false p2] at q2 ⊢
 by_cases p3:d.limits.length≠5
 ·rw [decide_eq_true p3] at q3 ⊢
  simp only [go_sem,Fn.ambleref11_Right,List.length_map,q1,q2,q3,p1]
 rw [decide_eq_false p3] at q3 ⊢
 by_cases p4:sg≤0
 ·simp only [go_sem,Fn.ambleref11_Right,List.length_map,q1,q2,q3,p1,k1,p4]
 have e:(!(decide (16<d.guards.length) || (false || (false || decide (sg≤0))))&&(!d.guards.any badG&&(!d.curves.any badC&& !d.limits.any badL)))=(!d.guards.any badG&&(!d.curves.any badC&& !d.limits.any badL)):=by
  rw [decide_eq_false p1,decide_eq_false p4];rfl
 rw [e]
 obtain ⟨ob,hob⟩:∃o,o=upd ob0 0 (.box [.sl false (d.guards.map Guard.r),.sl false (d.curves.map fun s=>[.sl false (s.map Pt.r)]),.sl false (d.limits.map Pt.r),a1,a2,a3,a4]):=⟨_,rfl⟩
 have o0:ob 0=some (.box [.sl false (d.guards.map Guard.r),.sl false (d.curves.map fun s=>[.sl false (s.map Pt.r)]),.sl false (d.limits.map Pt.r),a1,a2,a3,a4]):=by rw [hob];exact upd_same _ _ _
 obtain ⟨ob',nx',X',hf,hle,hl,hl'⟩:=rcheck_loop (n:=n) d.guards (.sl false (d.curves.map fun s=>[.sl false (s.map Pt.r)])) (.sl false (d.limits.map Pt.r)) a1 a2 a3 a4 hgl k2 d.guards.length 0 (by omega) ob 2 [] n (by omega) o0 (by omega)
 rw [show ((0:Nat):Int)=0 from rfl,List.drop_zero] at hl hl'
 have o0':=(hf 0 (by omega)).trans o0
 cases hg:d.guards.any badG with
 | true=>
  have hl:=hl hg
  simp only [go_sem,Fn.ambleref11_Right,List.length_map,q1,q2,q3,p1,k1,p4,←hob,o0,hl]
 | false=>
  have hl:=hl' hg
  obtain ⟨X2,hL⟩:=rlast_loop (n:=n) (nx:=nx') d.curves d.limits (by omega) (by omega) (.sl false (d.guards.map Guard.r)) a1 a2 a3 a4 o0' k3 k4 k5 5 0 (by omega) [] n (by omega)
  rw [show ((0:Nat):Int)=0 from rfl,List.drop_zero,List.drop_zero] at hL
  cases hc:d.curves.any badC with
  | true=>
   rw [hc,Bool.true_or,if_pos rfl] at hL
   simp only [go_sem,Fn.ambleref11_Right,List.length_map,q1,q2,q3,p1,k1,p4,←hob,o0,hl,hL]
  | false=>
   rw [hc,Bool.false_or] at hL
   cases hm:d.limits.any badL with
   | true=>
    rw [hm,if_pos rfl] at hL
    simp only [go_sem,Fn.ambleref11_Right,List.length_map,q1,q2,q3,p1,k1,p4,←hob,o0,hl,hL]
   | false=>
    rw [hm,if_neg (by simp)] at hL
    simp only [go_sem,Fn.ambleref11_Right,List.length_map,q1,q2,q3,p1,k1,p4,←hob,o0,hl,hL]
theorem rRight_call (d:Dev) (h:SmDev d):Calling Id.ambleref11_Right [.agg d.r] (.one (.bool (rightD d))):=(rRight_ends d h).call (can1 (CanL.devr d).agg)
end Go.Ev
namespace Go.Ev
open Go.Dig
end Go.Ev
namespace Go.Ev
theorem rlt_trans {a b c:Rat} (h:a<b) (k:b<c):a<c:=by grind
theorem rlt_le {a b c:Rat} (h:a<b) (k:b≤c):a<c:=by grind
theorem incC_step:∀(l:List Pt) (k:Nat),k+1<l.length→incC l=true→(ptAt l k).x<(ptAt l (k+1)).x:=by
 intro l k h hi
 have h1:=incC_get l k h hi
 unfold ptAt
 rw [List.getElem?_eq_getElem (by omega),List.getElem?_eq_getElem h]
 rw [cmpQ_lt] at h1
 exact h1
theorem incC_lt {l:List Pt} (hi:incC l=true):∀(m i:Nat),i+1+m<l.length→(ptAt l i).x<(ptAt l (i+1+m)).x
 | 0,i,h=>incC_step l i h hi
 | m+1,i,h=>rlt_trans (incC_lt hi m i (by omega)) (incC_step l (i+1+m) h hi)
theorem incC_lt' {l:List Pt} (hi:incC l=true) {i j:Nat} (h:i<j) (hj:j<l.length):(ptAt l i).x<(ptAt l j).x:=by
 have:=incC_lt hi (j-i-1) i (by omega)
 rw [show i+1+(j-i-1)=j by omega] at this
 exact this
theorem bs_spec {l:List Pt} (hi:incC l=true) (q:Rat):∀(m lo hh:Nat),hh≤lo+m→lo≤hh→hh≤l.length→(∀i,i<lo→(ptAt l i).x<q)→(∀i,hh≤i→i<l.length→q≤(ptAt l i).x)→
  (∀i,i<bs l q m lo hh→(ptAt l i).x<q)∧∀i,bs l q m lo hh≤i→i<l.length→q≤(ptAt l i).x
 | 0,lo,hh,hm,h1,h2,h3,h4=>by
  have:lo=hh:=by omega
  subst this
  exact ⟨h3,h4⟩
 | m+1,lo,hh,hm,h1,h2,h3,h4=>by
  unfold bs
  by_cases hlt:lo<hh
  ·rw [if_pos hlt]
   have hp:((l[(lo+hh) / 2]?).getD ⟨0,0⟩).x=(ptAt l ((lo+hh) / 2)).x:=rfl
   rw [hp]
   have hcq:=cmpQ_lt (ptAt l ((lo+hh) / 2)).x q
   by_cases hc:cmpQ (ptAt l ((lo+hh) / 2)).x q<0
   ·rw [if_pos hc]
    rw [hcq] at hc
    refine bs_spec hi q m _ hh (by omega) (by omega) h2 (fun i hi'=> ?_) h4
    rcases Nat.lt_or_ge i ((lo+hh) / 2) with h | h
    ·exact rlt_trans (incC_lt' hi h (by omega)) hc
    ·have:i=(lo+hh) / 2:=by omega
     subst this;exact hc
   ·rw [if_neg hc]
    rw [hcq] at hc
    refine bs_spec hi q m lo _ (by omega) (by omega) (by omega) h3 (fun i hi' hl=> ?_)
    have hc':=Rat.not_lt.1 hc
    rcases Nat.lt_or_ge ((lo+hh) / 2) i with h | h
    ·exact Rat.le_of_lt (by have:=incC_lt' hi h hl;grind)
    ·have:i=(lo+hh) / 2:=by omega
     subst this;exact hc'
  ·rw [if_neg hlt]
   have:lo=hh:=by omega
   subst this
   exact ⟨h3,h4⟩
theorem place_spec {l:List Pt} (hi:incC l=true) (q:Rat):(∀i,i<place l q→(ptAt l i).x<q)∧∀i,place l q≤i→i<l.length→q≤(ptAt l i).x:=
 bs_spec hi q l.length 0 l.length (by omega) (Nat.zero_le _) (Nat.le_refl _) (fun i h=>by omega) (fun i h h'=>by omega)
def AtS (l:List Pt) (q v:Rat):Prop:=
 (q≤(ptAt l 0).x∧v=(ptAt l 0).z)∨((ptAt l (l.length-1)).x≤q∧v=(ptAt l (l.length-1)).z)∨
 ∃i,i+1<l.length∧(ptAt l i).x≤q∧q≤(ptAt l (i+1)).x∧(v-(ptAt l i).z)*((ptAt l (i+1)).x-(ptAt l i).x)=(q-(ptAt l i).x)*((ptAt l (i+1)).z-(ptAt l i).z)
theorem atQ_cases (l:List Pt) (q:Rat):atQ l q=if place l q=l.length then (ptAt l (l.length-1)).z else if place l q=0 then (ptAt l 0).z else if (ptAt l (place l q)).x=q then (ptAt l (place l q)).z else
  (ptAt l (place l q-1)).z*(1-shareQ l q (place l q))+(ptAt l (place l q)).z*shareQ l q (place l q):=by
 have e1:Rat.ofInt 1=1:=rfl
 unfold atQ partsL
 rw [e1]
 have hcq:=cmpQ_eq (ptAt l (place l q)).x q
 by_cases h1:place l q=l.length
 ·rw [if_pos h1,if_pos h1,h1];simp only [List.foldl_cons,List.foldl_nil];grind
 ·rw [if_neg h1,if_neg h1]
  by_cases h2:place l q=0
  ·rw [if_pos h2,if_pos h2,h2];simp only [List.foldl_cons,List.foldl_nil];grind
  ·rw [if_neg h2,if_neg h2]
   by_cases h3:cmpQ (ptAt l (place l q)).x q=0
   ·rw [if_pos h3,if_pos (by rw [←hcq];exact h3)];simp only [List.foldl_cons,List.foldl_nil];grind
   ·rw [if_neg h3,if_neg (by rw [←hcq];exact h3)];simp only [List.foldl_cons,List.foldl_nil];grind
theorem at_eq {l:List Pt} (hi:incC l=true) (h1:1≤l.length) {q v:Rat} (h:AtS l q v):v=atQ l q:=by
 obtain ⟨g1,g2⟩:=place_spec hi q
 have hle:=place_le l q
 rw [atQ_cases]
 generalize place l q=k at*
 rcases h with ⟨h2,rfl⟩ | ⟨h2,rfl⟩ | ⟨i,h2,h3,h4,h5⟩
 ·have hk:k=0:=by
   rcases Nat.eq_zero_or_pos k with h | h
   ·exact h
   ·exact absurd (g1 0 h) (Rat.not_lt.2 h2)
  subst hk
  rw [if_neg (by omega),if_pos rfl]
 ·by_cases hk:k=l.length
  ·rw [if_pos hk]
  ·have h3:=g2 k (Nat.le_refl _) (by omega)
   have hk':k=l.length-1:=by
    rcases Nat.lt_or_ge k (l.length-1) with h | h
    ·have:=incC_lt' hi h (by omega)
     exact absurd (rlt_le this h2) (Rat.not_lt.2 h3)
    ·omega
   rw [if_neg hk,←hk']
   have hx:(ptAt l k).x=q:=Rat.le_antisymm (by rw [hk'];exact h2) h3
   by_cases h0:k=0
   ·rw [if_pos h0,h0]
   ·rw [if_neg h0,if_pos hx]
 ·have hx:=incC_step l i h2 hi
  have a1:k≤i+1:=by
   rcases Nat.lt_or_ge (i+1) k with h | h
   ·exact absurd (g1 (i+1) h) (Rat.not_lt.2 h4)
   ·exact h
  have a2:i≤k:=by
   rcases Nat.lt_or_ge k i with h | h
   ·have h6:=incC_lt' hi h (by omega)
    have h7:=g2 k (Nat.le_refl _) (by omega)
    exact absurd (rlt_le h6 h3) (Rat.not_lt.2 h7)
   ·exact h
  rw [if_neg (by omega)]
  have cancel:∀a b c:Rat,c≠0→a*c=b*c→a=b:=fun a b c hc h=>by
   have:(a-b)*c=0:=by grind
   rcases Rat.mul_eq_zero.1 this with h | h
   ·grind
   ·exact absurd h hc
  have hd:(ptAt l (i+1)).x-(ptAt l i).x≠0:=by grind
  rcases Nat.lt_or_ge i k with h | h
  ·have hk:k=i+1:=by omega
   subst hk
   rw [if_neg (by omega)]
   have h6:=g1 i (by omega)
   by_cases hq:(ptAt l (i+1)).x=q
   ·rw [if_pos hq]
    refine cancel _ _ _ hd ?_
    grind
   ·rw [if_neg hq]
    unfold shareQ
    rw [Nat.add_sub_cancel]
    refine cancel _ _ _ hd ?_
    have hs:(q-(ptAt l i).x) / ((ptAt l (i+1)).x-(ptAt l i).x)*((ptAt l (i+1)).x-(ptAt l i).x)=q-(ptAt l i).x:=Rat.div_mul_cancel hd
    generalize (q-(ptAt l i).x) / ((ptAt l (i+1)).x-(ptAt l i).x)=s at*
    grind
  ·have hk:k=i:=by omega
   subst hk
   have h6:=g2 k (Nat.le_refl _) (by omega)
   have hq:(ptAt l k).x=q:=Rat.le_antisymm h3 h6
   have hv:v=(ptAt l k).z:=by
    refine cancel _ _ _ hd ?_
    grind
   by_cases h0:k=0
   ·rw [if_pos h0,hv,h0]
   ·rw [if_neg h0,if_pos hq,hv]
end Go.Ev
namespace Go.Ev
open Go.Dig
theorem ptAt_get {l:List Pt} {k:Nat} (h:k<l.length):l[k]? =some (ptAt l k):=by
 unfold ptAt
 rw [List.getElem?_eq_getElem h];rfl
set_option maxRecDepth 100000 in
theorem sh_loop {n ba:Nat} {ob:Nat→Option AObj} {fz:Nat→Nat} {nx:Nat} (c:List Pt) (q:Rat) (hl:c.length<2^40) (hb:ba<nx) (ob1:ob ba=some (.box (rC q))) (hc:∀k,k<c.length→∀(ob:Nat→Option AObj) (fz:Nat→Nat),callV (evF E n) Id.ambleref01_Cmp [.agg (rC (ptAt c k).x),.agg (rC q)] ob fz=some (.fzd fz (.one (.int .i64 (cmpQ (ptAt c k).x q)))))
  (hlast:¬cmpQ (ptAt c (c.length-1)).x q≤0) (v5:SV):∀(m k:Nat),k+2+m=c.length→∀(X:List (Nat×SV)) (N:Nat),m<N→
  ∃k' X',k≤k'∧k'+1<c.length∧(∀j,k≤j→j<k'→cmpQ (ptAt c (j+1)).x q≤0)∧¬cmpQ (ptAt c (k'+1)).x q≤0∧
   loopN (evC (evF E n) n Fn.ambleref11_Shares_L0) N ⟨env ((0,.one (.sl false (c.map Pt.r)))::(3,.one (.box ba 0))::(5,v5)::(7,.one (.int .i64 (k:Int)))::X),ob,fz,nx⟩=
    some (.ext 0,⟨env ((0,.one (.sl false (c.map Pt.r)))::(3,.one (.box ba 0))::(5,v5)::(7,.one (.int .i64 (k':Int)))::X'),ob,fz,nx⟩):=by
 have okz:okSz 8 (c.map Pt.r)=true:=okSz_map ptr_len c
 obtain ⟨s0,s1,s2,s3,es⟩:=rC4 q
 rw [es] at ob1
 have lb:∀k,(ba<nx+k)=True:=fun k=>by simp only [eq_iff_iff,iff_true];omega
 have lb0:(ba<nx)=True:=by simp only [eq_iff_iff,iff_true];omega
 intro m
 induction m with
 | zero=>
  intro k hk X N hN
  obtain ⟨N,rfl⟩:∃j,N=j+1:=⟨N-1,by omega⟩
  have hk1:k+1<c.length:=by omega
  have e:c.length-1=k+1:=by omega
  rw [e] at hlast
  have hcc:=hc (k+1) hk1
  obtain ⟨a1,a2,a3,a4,a5,a6,a7,a8,ea,-,ec⟩:=ptr_cells (ptAt c (k+1))
  have g1:(c.map Pt.r)[k+1]? =some [a1,a2,a3,a4,a5,a6,a7,a8]:=by rw [List.getElem?_map,ptAt_get hk1,Option.map_some,ec]
  rw [ea,es] at hcc
  have wk:IntKind.i64.wrap ((k+1:Nat):Int)=((k+1:Nat):Int):=wi64 (by omega)
  refine ⟨k,[(46,.one (.bool false))],Nat.le_refl _,hk1,fun j h1 h2=>by omega,hlast,round_ext ?_⟩
  generalize cmpQ (ptAt c (k+1)).x q=x at*
  simp only [go_sem,Fn.ambleref11_Shares_L0,add1,wk,okz,g1,ob1,lb,lb0,hcc,hlast]
 | succ m ih=>
  intro k hk X N hN
  obtain ⟨N,rfl⟩:∃j,N=j+1:=⟨N-1,by omega⟩
  have hk1:k+1<c.length:=by omega
  have hcc:=hc (k+1) hk1
  obtain ⟨a1,a2,a3,a4,a5,a6,a7,a8,ea,-,ec⟩:=ptr_cells (ptAt c (k+1))
  have g1:(c.map Pt.r)[k+1]? =some [a1,a2,a3,a4,a5,a6,a7,a8]:=by rw [List.getElem?_map,ptAt_get hk1,Option.map_some,ec]
  rw [ea,es] at hcc
  have wk:IntKind.i64.wrap ((k+1:Nat):Int)=((k+1:Nat):Int):=wi64 (by omega)
  by_cases hx:cmpQ (ptAt c (k+1)).x q≤0
  ·have hst:evC (evF E n) n Fn.ambleref11_Shares_L0 ⟨env ((0,.one (.sl false (c.map Pt.r)))::(3,.one (.box ba 0))::(5,v5)::(7,.one (.int .i64 (k:Int)))::X),ob,fz,nx⟩=
     some (.nrm,⟨env [(0,.one (.sl false (c.map Pt.r))),(3,.one (.box ba 0)),(5,v5),(7,.one (.int .i64 ((k+1:Nat):Int)))],ob,fz,nx⟩):=by
    have hx':=hx
    generalize cmpQ (ptAt c (k+1)).x q=x at hcc hx'
    simp only [go_sem,Fn.ambleref11_Shares_L0,add1,wk,okz,g1,ob1,lb,lb0,hcc,hx']
   obtain ⟨k',X',q1,q2,q3,q4,q5⟩:=ih (k+1) (by omega) [] N (by omega)
   refine ⟨k',X',by omega,q2,fun j h1 h2=> ?_,q4,by rw [round_nrm hst];exact q5⟩
   by_cases e:j=k
   ·subst e;exact hx
   ·exact q3 j (by omega) h2
  ·refine ⟨k,[(46,.one (.bool false))],Nat.le_refl _,hk1,fun j h1 h2=>by omega,hx,round_ext ?_⟩
   generalize cmpQ (ptAt c (k+1)).x q=x at*
   simp only [go_sem,Fn.ambleref11_Shares_L0,add1,wk,okz,g1,ob1,lb,lb0,hcc,hx]
end Go.Ev
namespace Go.Ev
open Go.Dig
theorem rMulQ_run (a b:Rat) {ca cb:List AV} (h:RQ a ca) (h':RQ b cb) {S T:Nat} (ha:SmQ S a) (hb:SmQ T b) (hS:S+T<2^36) {n:Nat} (hn:KR (S+T)+4≤n):evV E (n+1) Id.ambleref01_Mul [.agg ca,.agg cb]=some (rV (a*b)):=by
 rw [evV_succ E_ambleref01_Mul,Rat.mul_def]
 have hK:=KR_big (S+T)
 obtain ⟨n,rfl⟩:∃k,n=k+1:=⟨n-1,by omega⟩
 have da:=dlenT_bits ha.den
 have db:=dlenT_bits hb.den
 have na:=dlenT_bits ha.num
 have nb:=dlenT_bits hb.num
 have d1:=rdn h (by omega) (n:=n+1) (by omega)
 have d2:=rdn h' (by omega) (n:=n+1) (by omega)
 have m1:=callV_can (rmulz_run a.num b.num (by omega) (by omega) (n:=n) (by omega)) (can2 (canS_s _) (canS_s _))
 have m2:=callV_can (rmulz_run (a.den:Int) (b.den:Int) (by rw [Int.natAbs_natCast];omega) (by rw [Int.natAbs_natCast];omega) (n:=n) (by rw [Int.natAbs_natCast,Int.natAbs_natCast];omega)) (can2 (canS_s _) (canS_s _))
 have h1:(a.num*b.num).natAbs<2^(S+T):=by rw [Int.natAbs_mul];exact pow_lt2 ha.num hb.num
 have h2:((a.den:Int)*(b.den:Int)).natAbs<2^(S+T):=by
  rw [Int.natAbs_mul,Int.natAbs_natCast,Int.natAbs_natCast];exact pow_lt2 ha.den hb.den
 have hp:(0:Int)<(a.den:Int)*(b.den:Int):=Int.mul_pos (by have:=a.den_pos;omega) (by have:=b.den_pos;omega)
 have hq:=callV_can (rqof_pos (a.num*b.num) ((a.den:Int)*(b.den:Int)) hp h1 h2 (by omega) (n:=n) (by omega) false _ _ (.inl ⟨rfl,rfl,rfl⟩)) (can2 (canS_s _) (canS_s _))
 have en:Rat.normalize (a.num*b.num) ((a.den:Int)*(b.den:Int)).natAbs (by omega)=Rat.normalize (a.num*b.num) (a.den*b.den) (Nat.mul_ne_zero a.den_nz b.den_nz):=by
  congr 1
 rw [en] at hq
 generalize Rat.normalize (a.num*b.num) (a.den*b.den) _=q at hq ⊢
 generalize a.num*b.num=p at m1 hq
 generalize (a.den:Int)*(b.den:Int)=r at m2 hq
 obtain ⟨e,y,rfl⟩:=h.cells
 obtain ⟨e',y',rfl⟩:=h'.cells
 unfold rV at hq ⊢
 rw [rC_eq] at hq ⊢
 unfold sV zC at d1 d2 m1 m2 hq
 rw [Int.natAbs_natCast] at d1 d2
 rw [Int.natAbs_natCast,Int.natAbs_natCast] at m2
 unfold zD at d1 d2 m1 m2 hq ⊢
 simp only [go_sem,Fn.ambleref01_Mul,d1,d2,m1,m2,hq]
end Go.Ev
namespace Go.Ev
open Go.Dig
def rawQ:Option Rat→List AV
 | some q=>rC q
 | none=>[.bool false,.nils,.bool false,.nils]
def frzQ:Option Rat→List AV
 | some q=>rC q
 | none=>[.bool false,.sl false [],.bool false,.sl false []]
theorem frzQ_rq (o:Option Rat):RQ (o.getD 0) (frzQ o):=by
 cases o with
 | none=>exact .inr ⟨rfl,rfl⟩
 | some q=>exact .inl rfl
theorem frz_rawQ (o:Option Rat) (ob:Nat→Option AObj) (k:Nat) (fz:Nat→Nat):mapFz (Ev.frz ob (k+1)) fz (rawQ o)=some (fz,frzQ o):=by
 cases o with
 | none=>rfl
 | some q=>exact mapFz_id _ fun x hx=>(CanL.r q x hx).frz ob k fz
theorem frz_rawQs (ob:Nat→Option AObj) (k:Nat) (fz:Nat→Nat):∀l:List (Option Rat),mapFz (mapFz (Ev.frz ob (k+1))) fz (l.map rawQ)=some (fz,l.map frzQ)
 | []=>rfl
 | o::r=>by
  rw [List.map_cons,mapFz,frz_rawQ o ob k fz]
  simp only
  rw [frz_rawQs ob k fz r]
  rfl
end Go.Ev
namespace Go.Ev
open Go.Dig
def dotZ:List (Option Rat)→List Pt→Rat→Rat
 | o::L,p::c,m=>dotZ L c (m+o.getD 0*p.z)
 | _,_,m=>m
theorem dotZ_add:∀(L:List (Option Rat)) (c:List Pt) (m x:Rat),dotZ L c (m+x)=dotZ L c m+x
 | [],c,m,x=>rfl
 | o::L,[],m,x=>rfl
 | o::L,p::c,m,x=>by
  unfold dotZ
  rw [show m+x+o.getD 0*p.z=(m+o.getD 0*p.z)+x by grind]
  exact dotZ_add L c _ _
theorem dotZ_none:∀(n:Nat) (c:List Pt) (m:Rat),dotZ (List.replicate n none) c m=m
 | 0,c,m=>rfl
 | n+1,[],m=>rfl
 | n+1,p::c,m=>by
  rw [List.replicate_succ]
  unfold dotZ
  rw [dotZ_none n c,Option.getD_none]
  grind
theorem dotZ_set:∀(L:List (Option Rat)) (c:List Pt) (m:Rat) (k:Nat) (s:Rat),L.length=c.length→L[k]? =some none→dotZ (L.set k (some s)) c m=dotZ L c m+s*(ptAt c k).z
 | [],c,m,k,s,h,hk=>by simp at hk
 | o::L,[],m,k,s,h,hk=>by simp at h
 | o::L,p::c,m,0,s,h,hk=>by
  simp only [List.getElem?_cons_zero,Option.some.injEq] at hk
  subst hk
  rw [List.set_cons_zero]
  unfold dotZ
  rw [Option.getD_some,Option.getD_none,show m+(0:Rat)*p.z=m by grind,dotZ_add]
  rfl
 | o::L,p::c,m,k+1,s,h,hk=>by
  rw [List.set_cons_succ]
  unfold dotZ
  exact dotZ_set L c _ k s (by simpa using h) (by simpa using hk)
structure ShOk (c:List Pt) (q:Rat) (L:List (Option Rat)):Prop where
 len:L.length=c.length
 sm:∀o∈L,SmQ 1100 (o.getD 0)
 eq:dotZ L c 0=atQ c q
theorem sm0 (S:Nat):SmQ (S+1) 0:=⟨Nat.two_pow_pos _,Nat.one_lt_two_pow (by omega)⟩
theorem sm1 (S:Nat):SmQ (S+1) (Rat.ofInt 1):=⟨Nat.one_lt_two_pow (by omega),Nat.one_lt_two_pow (by omega)⟩
theorem mem_set_of {α:Type} {P:α→Prop} {L:List α} {k:Nat} {x:α} (h:∀o∈L,P o) (hx:P x):∀o∈L.set k x,P o:=fun o ho=>by
 rcases List.mem_or_eq_of_mem_set ho with h' | rfl
 ·exact h o h'
 ·exact hx
theorem rep_sm (n:Nat):∀o∈List.replicate n (none:Option Rat),SmQ 1100 (o.getD 0):=fun o ho=>by
 rw [List.eq_of_mem_replicate ho];exact sm0 1099
theorem shOk_first {c:List Pt} {q:Rat} (hi:incC c=true) (h1:1≤c.length) (hq:q≤(ptAt c 0).x):ShOk c q ((List.replicate c.length none).set 0 (some (Rat.ofInt 1))) where
 len:=by simp
 sm:=mem_set_of (rep_sm _) (sm1 1099)
 eq:=by
  rw [dotZ_set _ _ _ _ _ (by simp) (by rw [List.getElem?_replicate,if_pos (by omega)]),dotZ_none]
  refine at_eq hi h1 (.inl ⟨hq, ?_⟩)
  rw [show Rat.ofInt 1=1 from rfl];grind
theorem shOk_last {c:List Pt} {q:Rat} (hi:incC c=true) (h1:1≤c.length) (hq:(ptAt c (c.length-1)).x≤q):ShOk c q ((List.replicate c.length none).set (c.length-1) (some (Rat.ofInt 1))) where
 len:=by simp
 sm:=mem_set_of (rep_sm _) (sm1 1099)
 eq:=by
  rw [dotZ_set _ _ _ _ _ (by simp) (by rw [List.getElem?_replicate,if_pos (by omega)]),dotZ_none]
  refine at_eq hi h1 (.inr (.inl ⟨hq, ?_⟩))
  rw [show Rat.ofInt 1=1 from rfl];grind
theorem shOk_mid {c:List Pt} {q:Rat} (hi:incC c=true) {k:Nat} (hk:k+1<c.length) (h1:(ptAt c k).x≤q) (h2:q≤(ptAt c (k+1)).x) {s:Rat} (hs:s=(q-(ptAt c k).x) / ((ptAt c (k+1)).x-(ptAt c k).x)) (s1:SmQ 1100 s) (s2:SmQ 1100 (Rat.ofInt 1-s)):
  ShOk c q (((List.replicate c.length none).set (k+1) (some s)).set k (some (Rat.ofInt 1-s))) where
 len:=by simp
 sm:=mem_set_of (mem_set_of (rep_sm _) s1) s2
 eq:=by
  rw [dotZ_set _ _ _ _ _ (by simp) (by rw [List.getElem?_set_ne (by omega),List.getElem?_replicate,if_pos (by omega)]),dotZ_set _ _ _ _ _ (by simp) (by rw [List.getElem?_replicate,if_pos hk]),dotZ_none]
  refine at_eq hi (by omega) (.inr (.inr ⟨k,hk,h1,h2, ?_⟩))
  have hx:=incC_step c k hk hi
  have hd:(ptAt c (k+1)).x-(ptAt c k).x≠0:=by grind
  have e:s*((ptAt c (k+1)).x-(ptAt c k).x)=q-(ptAt c k).x:=by rw [hs];exact Rat.div_mul_cancel hd
  rw [show Rat.ofInt 1=1 from rfl]
  grind
end Go.Ev
namespace Go.Ev
open Go.Dig
def RW (q:Rat) (cs:List AV):Prop:=RQ q cs∨(q=0∧cs=[.bool false,.nils,.bool false,.nils])
theorem RQ.w {q:Rat} {cs:List AV} (h:RQ q cs):RW q cs:=.inl h
theorem RW.self (q:Rat):RW q (rC q):=.inl (.self q)
theorem RW.zero:RW 0 [.bool false,.nils,.bool false,.nils]:=.inr ⟨rfl,rfl⟩
theorem RW.fz {q:Rat} {cs:List AV} (h:RW q cs):∃cs',RQ q cs'∧FzS (.agg cs) (.agg cs'):=by
 rcases h with h | ⟨rfl,rfl⟩
 ·exact ⟨cs,h,h.can.fzs⟩
 ·exact ⟨[.bool false,.sl false [],.bool false,.sl false []],.inr ⟨rfl,rfl⟩,fun ob fz=>rfl⟩
theorem RW.cells4 {q:Rat} {cs:List AV} (h:RW q cs):∃a b c d,cs=[a,b,c,d]:=by
 rcases h with (rfl | ⟨-,rfl⟩) | ⟨-,rfl⟩
 ·exact rC4 q
 ·exact ⟨_,_,_,_,rfl⟩
 ·exact ⟨_,_,_,_,rfl⟩
theorem callV_ends {f:FuncId} {xs ys:List SV} {r:SV} {n:Nat} (h:evV E n f ys=some r) (hx:∀(ob:Nat→Option AObj) (fz:Nat→Nat),mapFz (frzS ob) fz xs=some (fz,ys)) (ob:Nat→Option AObj) (fz:Nat→Nat):callV (evF E n) f xs ob fz=some (.fzd fz r):=by
 rw [callV_ev,hx]
 simp only [h,Option.map_some]
section
variable {a b:Rat} {ca cb:List AV} {S T:Nat}
theorem rAdd_all (S T:Nat) (hS:S+T<2^35):∃N,∀(a b:Rat) (ca cb:List AV),RW a ca→RW b cb→SmQ S a→SmQ T b→∀n,N≤n→∀(ob:Nat→Option AObj) (fz:Nat→Nat),callV (evF E n) Id.ambleref01_Add [.agg ca,.agg cb] ob fz=some (.fzd fz (.agg (rC (a+b)))):=
 ⟨KR (S+T+1)+11,fun a b ca cb ha hb sa sb n hn ob fz=>by
  obtain ⟨m,rfl⟩:∃m,n=m+1:=⟨n-1,by omega⟩
  obtain ⟨ca',ha,fa⟩:=ha.fz
  obtain ⟨cb',hb,fb⟩:=hb.fz
  exact callV_ends (rAdd_run a b ha hb sa sb hS (n:=m) (by omega)) (fa.two fb) ob fz⟩
theorem rSub_all (S T:Nat) (hS:S+T<2^35):∃N,∀(a b:Rat) (ca cb:List AV),RW a ca→RW b cb→SmQ S a→SmQ T b→∀n,N≤n→∀(ob:Nat→Option AObj) (fz:Nat→Nat),callV (evF E n) Id.ambleref01_Sub [.agg ca,.agg cb] ob fz=some (.fzd fz (.agg (rC (a-b)))):=
 ⟨KR (S+T+1)+13,fun a b ca cb ha hb sa sb n hn ob fz=>by
  obtain ⟨m,rfl⟩:∃m,n=m+1:=⟨n-1,by omega⟩
  obtain ⟨ca',ha,fa⟩:=ha.fz
  obtain ⟨cb',hb,fb⟩:=hb.fz
  exact callV_ends (rSub_run a b ha hb sa sb hS (n:=m) (by omega)) (fa.two fb) ob fz⟩
theorem rSub_call (h:RW a ca) (h':RW b cb) (ha:SmQ S a) (hb:SmQ T b) (hS:S+T<2^35):Calling Id.ambleref01_Sub [.agg ca,.agg cb] (.agg (rC (a-b))):=by
 obtain ⟨N,hN⟩:=rSub_all S T hS
 exact ⟨N,hN a b ca cb h h' ha hb⟩
theorem rMul_all (S T:Nat) (hS:S+T<2^36):∃N,∀(a b:Rat) (ca cb:List AV),RW a ca→RW b cb→SmQ S a→SmQ T b→∀n,N≤n→∀(ob:Nat→Option AObj) (fz:Nat→Nat),callV (evF E n) Id.ambleref01_Mul [.agg ca,.agg cb] ob fz=some (.fzd fz (.agg (rC (a*b)))):=
 ⟨KR (S+T)+5,fun a b ca cb ha hb sa sb n hn ob fz=>by
  obtain ⟨m,rfl⟩:∃m,n=m+1:=⟨n-1,by omega⟩
  obtain ⟨ca',ha,fa⟩:=ha.fz
  obtain ⟨cb',hb,fb⟩:=hb.fz
  exact callV_ends (rMulQ_run a b ha hb sa sb hS (n:=m) (by omega)) (fa.two fb) ob fz⟩
theorem rDiv_all (S T:Nat) (hS:S+T<2^35):∃N,∀(a b:Rat) (ca cb:List AV),b.num≠0→RW a ca→RW b cb→SmQ S a→SmQ T b→∀n,N≤n→∀(ob:Nat→Option AObj) (fz:Nat→Nat),callV (evF E n) Id.ambleref01_Div [.agg ca,.agg cb] ob fz=some (.fzd fz (.agg (rC (a / b)))):=
 ⟨KR (S+T)+11,fun a b ca cb h0 ha hb sa sb n hn ob fz=>by
  obtain ⟨m,rfl⟩:∃m,n=m+1:=⟨n-1,by omega⟩
  obtain ⟨ca',ha,fa⟩:=ha.fz
  obtain ⟨cb',hb,fb⟩:=hb.fz
  exact callV_ends (rDiv_run a b h0 ha hb sa sb hS (n:=m) (by omega)) (fa.two fb) ob fz⟩
theorem rDiv_call (h0:b.num≠0) (h:RW a ca) (h':RW b cb) (ha:SmQ S a) (hb:SmQ T b) (hS:S+T<2^35):Calling Id.ambleref01_Div [.agg ca,.agg cb] (.agg (rC (a / b))):=by
 obtain ⟨N,hN⟩:=rDiv_all S T hS
 exact ⟨N,hN a b ca cb h0 h h' ha hb⟩
theorem rInt_call (z:Int) (h1:-9223372036854775808≤z) (h2:z<9223372036854775808):Calling Id.ambleref01_Int [.one (.int .i64 z)] (.agg (rC (Rat.ofInt z))):=
 (Ends.of 12 fun {n} hn=>rInt_run z h1 h2 hn:Ends Id.ambleref01_Int [.one (.int .i64 z)] (.agg (rC (Rat.ofInt z)))).call (can1 (canS_int _ _))
end
theorem frzS_raw {ob:Nat→Option AObj} {id ver sz z len:Nat} {full:Bool} (L:List (Option Rat)) (fz:Nat→Nat) (hr:rowAt ob id ver=some (z,L.map rawQ)) (hl:len=L.length):
  frzS ob fz (.one (.rsl id ver sz 0 len full))=some (raise fz id len,.one (.sl false (L.map frzQ))):=by
 subst hl
 have hb:Nat.ble (0+L.length) (L.map rawQ).length=true:=by simp
 have h1:Ev.frz ob DEPTH fz (.rsl id ver sz 0 L.length full)=some (raise fz id L.length,.sl false (L.map frzQ)):=by
  rw [show DEPTH=6+1+1 from rfl,frz_rsl,hr]
  simp only [hb,cond_true]
  rw [Nat.zero_add,List.drop_zero,List.take_of_length_le (by simp),frz_rawQs]
 simp only [frzS,h1]
theorem rawQ_rep (n:Nat):List.replicate n [AV.bool false,.nils,.bool false,.nils]=(List.replicate n (none:Option Rat)).map rawQ:=by
 rw [List.map_replicate];rfl
theorem rawQ_set (L:List (Option Rat)) (k:Nat) (q:Rat):(L.map rawQ).set k (rC q)=(L.set k (some q)).map rawQ:=by
 rw [List.map_set];rfl
theorem frzQ4 (o:Option Rat):∃a b c d,frzQ o=[a,b,c,d]:=by
 cases o with
 | none=>exact ⟨_,_,_,_,rfl⟩
 | some q=>exact rC4 q
end Go.Ev
namespace Go.Ev
open Go.Dig
theorem first_of (P:Nat→Prop) [DecidablePred P] (n:Nat) (h:P n):∃k,k≤n∧P k∧∀j,j<k→¬P j:=by
 induction n using Nat.strongRecOn with
 | ind n ih=>
  by_cases h':∃j,j<n∧P j
  ·obtain ⟨j,hj,hp⟩:=h'
   obtain ⟨k,h1,h2,h3⟩:=ih j hj hp
   exact ⟨k,by omega,h2,h3⟩
  ·exact ⟨n,Nat.le_refl _,h,fun j hj hp=>h' ⟨j,hj,hp⟩⟩
theorem num_ne {a:Rat} (h:a≠0):a.num≠0:=fun e=>h ((num_zero a).mp e)
set_option maxRecDepth 100000 in
theorem rShares_ends (c:List Pt) (q:Rat) (h0:1≤c.length) (hl:c.length<2^20) (hi:incC c=true) (hp:∀p∈c,SmPt p) (hq:SmQ 256 q):∃L,ShOk c q L∧Ends Id.ambleref11_Shares [.one (.sl false (c.map Pt.r)),.agg (rC q)] (.one (.sl false (L.map frzQ))):=by
 have hpt:∀k,k<c.length→SmPt (ptAt c k):=fun k hk=>hp _ (by unfold ptAt;rw [List.getElem?_eq_getElem hk];simp)
 obtain ⟨N,hN⟩:=rCmp_all 256 (by decide)
 have wl:IntKind.i64.wrap (((c.length:Nat):Int)-1)=((c.length-1:Nat):Int):=by rw [wrap_i64 (by omega)];omega
 have mk1:(c.length≤9223372036854775807)=True:=by simp;omega
 have mk2:(64*c.length≤281474976710656)=True:=by simp;omega
 have okz:okSz 8 (c.map Pt.r)=true:=okSz_map ptr_len c
 have n0:Ev.natOf 0=some 0:=rfl
 obtain ⟨s0,s1,s2,s3,es⟩:=rC4 q
 obtain ⟨i0,i1,i2,i3,ei⟩:=rC4 (Rat.ofInt 1)
 obtain ⟨N1,k1⟩:=rInt_call 1 (by decide) (by decide)
 rw [ei] at k1
 obtain ⟨a1,a2,a3,a4,a5,a6,a7,a8,ea,-,ec⟩:=ptr_cells (ptAt c 0)
 have g0:(c.map Pt.r)[0]? =some [a1,a2,a3,a4,a5,a6,a7,a8]:=by rw [List.getElem?_map,ptAt_get (by omega),Option.map_some,ec]
 obtain ⟨b1,b2,b3,b4,b5,b6,b7,b8,eb,-,ed⟩:=ptr_cells (ptAt c (c.length-1))
 have gl:(c.map Pt.r)[c.length-1]? =some [b1,b2,b3,b4,b5,b6,b7,b8]:=by rw [List.getElem?_map,ptAt_get (by omega),Option.map_some,ed]
 have hf:fz0 4=0:=rfl
 have p0:(0<c.length)=True:=by simp;omega
 have gr:∀k,k<c.length→(List.replicate c.length [AV.bool false,.nils,.bool false,.nils])[k]? =some [AV.bool false,.nils,.bool false,.nils]:=fun k hk=>by rw [List.getElem?_replicate,if_pos hk]
 have gr0:=gr 0 (by omega)
 by_cases c0:cmpQ q (ptAt c 0).x≤0
 ·refine ⟨_,shOk_first hi h0 (by rw [cmpQ_le] at c0;exact c0),.of (N+N1) fun {n} hn=> ?_⟩
  have hcc:=hN q (ptAt c 0).x _ _ (RQ.self _) (RQ.self _) hq (hpt 0 (by omega)).x n (by omega)
  have k1:=k1 n (by omega)
  rw [evV_succ E_ambleref11_Shares]
  rw [es,ea] at hcc
  rw [es]
  generalize cmpQ q (ptAt c 0).x=x at hcc c0
  simp only [go_sem,Fn.ambleref11_Shares,List.length_map,List.length_replicate,wl,mk1,mk2,okz,n0,g0,hcc,c0,k1,p0,gr0,hf]
  rw [←ei,rawQ_rep,rawQ_set]
  rw [frzS_raw _ _ rowAt_upd (by simp)]
  rfl
 ·by_cases c1:cmpQ q (ptAt c (c.length-1)).x≥0
  ·refine ⟨_,shOk_last hi h0 (by rw [cmpQ_ge] at c1;exact c1),.of (N+N1) fun {n} hn=> ?_⟩
   have hcc:=hN q (ptAt c 0).x _ _ (RQ.self _) (RQ.self _) hq (hpt 0 (by omega)).x n (by omega)
   have hcd:=hN q (ptAt c (c.length-1)).x _ _ (RQ.self _) (RQ.self _) hq (hpt _ (by omega)).x n (by omega)
   have k1:=k1 n (by omega)
   have pl:(c.length-1<c.length)=True:=by simp;omega
   have gr1:=gr (c.length-1) (by omega)
   have hz:Ev.natOf ((c.length-1:Nat):Int)=some (c.length-1):=natOf_cast _
   rw [evV_succ E_ambleref11_Shares]
   rw [es,ea] at hcc
   rw [es,eb] at hcd
   rw [es]
   generalize cmpQ q (ptAt c 0).x=x at hcc c0
   generalize cmpQ q (ptAt c (c.length-1)).x=y at hcd c1
   generalize c.length-1=l at*
   simp only [go_sem,Fn.ambleref11_Shares,List.length_map,List.length_replicate,wl,mk1,mk2,okz,n0,g0,gl,hcc,hcd,c0,c1,k1,pl,gr1,hf]
   rw [←ei,rawQ_rep,rawQ_set]
   rw [frzS_raw _ _ rowAt_upd (by simp)]
   rfl
  ·have hlast:¬cmpQ (ptAt c (c.length-1)).x q≤0:=by
    rw [cmpQ_le];rw [cmpQ_ge] at c1;exact c1
   have h2:2≤c.length:=by
    rcases Nat.lt_or_ge c.length 2 with h | h
    ·have:c.length-1=0:=by omega
     rw [this] at c1
     omega
    ·exact h
   have hcq:∀n,N≤n→∀k,k<c.length→∀(ob:Nat→Option AObj) (fz:Nat→Nat),callV (evF E n) Id.ambleref01_Cmp [.agg (rC (ptAt c k).x),.agg (rC q)] ob fz=some (.fzd fz (.one (.int .i64 (cmpQ (ptAt c k).x q)))):=fun n hn k hk=>hN _ q _ _ (RQ.self _) (RQ.self _) (hpt k hk).x hq n hn
   obtain ⟨k,hk,hb,ha⟩:∃k,k+1<c.length∧(∀j,j<k→cmpQ (ptAt c (j+1)).x q≤0)∧¬cmpQ (ptAt c (k+1)).x q≤0:=by
    obtain ⟨k,h3,h4,h5⟩:=first_of (fun k=>¬cmpQ (ptAt c (k+1)).x q≤0) (c.length-2) (by show ¬cmpQ (ptAt c (c.length-2+1)).x q≤0;rw [show c.length-2+1=c.length-1 by omega];exact hlast)
    exact ⟨k,by omega,fun j hj=>Decidable.not_not.1 (h5 j hj),h4⟩
   have hx:=incC_step c k hk hi
   have hle1:(ptAt c k).x≤q:=by
    rcases Nat.eq_zero_or_pos k with rfl | hkp
    ·rw [cmpQ_le] at c0;grind
    ·have:=hb (k-1) (by omega)
     rw [cmpQ_le,show k-1+1=k by omega] at this
     exact this
   have hle2:q≤(ptAt c (k+1)).x:=by
    rw [cmpQ_le] at ha;grind
   have sk:=(hpt k (by omega)).x
   have sk1:=(hpt (k+1) hk).x
   have d1:=hq.sub sk
   have d2:=sk1.sub sk
   have hne:((ptAt c (k+1)).x-(ptAt c k).x).num≠0:=num_ne (by grind)
   have d3:=SmQ.div hne d1 d2
   have d4:=(sm1 63).sub d3
   obtain ⟨N2,k2⟩:=rSub_call (RW.self q) (RW.self (ptAt c k).x) hq sk (by decide)
   obtain ⟨N3,k3⟩:=rSub_call (RW.self (ptAt c (k+1)).x) (RW.self (ptAt c k).x) sk1 sk (by decide)
   obtain ⟨N4,k4⟩:=rDiv_call hne (RW.self _) (RW.self _) d1 d2 (by decide)
   obtain ⟨N5,k5⟩:=rSub_call (RW.self _) (RW.self _) (sm1 63) d3 (by decide)
   refine ⟨_,shOk_mid hi hk hle1 hle2 rfl (d3.mono (by decide)) (d4.mono (by decide)),.of (N+N1+N2+N3+N4+N5+c.length) fun {n} hn=> ?_⟩
   have hcc:=hN q (ptAt c 0).x _ _ (RQ.self _) (RQ.self _) hq (hpt 0 (by omega)).x n (by omega)
   have hcd:=hN q (ptAt c (c.length-1)).x _ _ (RQ.self _) (RQ.self _) hq (hpt _ (by omega)).x n (by omega)
   have k1:=k1 n (by omega)
   have k2:=k2 n (by omega)
   have k3:=k3 n (by omega)
   have k4:=k4 n (by omega)
   have k5:=k5 n (by omega)
   have pl:(c.length-1<c.length)=True:=by simp;omega
   obtain ⟨k',X',-,l2,l3,l4,hlo⟩:=sh_loop (n:=n) (ba:=0) (ob:=upd (upd ob0 0 (.box (rC q))) 4 (.row 4 (List.replicate c.length [AV.bool false,.nils,.bool false,.nils]) 0)) (fz:=fz0) (nx:=6) c q (Nat.lt_trans hl (by decide)) (by decide) (by rw [upd_ne (by decide)];exact upd_same _ _ _) (hcq n (by omega)) hlast (.one (.rsl 4 0 4 0 c.length false)) (c.length-2) 0 (by omega) [] n (by omega)
   have e:k'=k:=by
    rcases Nat.lt_trichotomy k' k with h | h | h
    ·exact absurd (hb k' h) l4
    ·exact h
    ·exact absurd (l3 k (Nat.zero_le _) h) ha
   subst e
   rw [show ((0:Nat):Int)=0 from rfl] at hlo
   have wk:IntKind.i64.wrap ((k'+1:Nat):Int)=((k'+1:Nat):Int):=wi64 (by omega)
   obtain ⟨p1,p2,p3,p4,p5,p6,p7,p8,ep,-,eq⟩:=ptr_cells (ptAt c k')
   have gp:(c.map Pt.r)[k']? =some [p1,p2,p3,p4,p5,p6,p7,p8]:=by rw [List.getElem?_map,ptAt_get (by omega),Option.map_some,eq]
   obtain ⟨r1,r2,r3,r4,r5,r6,r7,r8,er,-,es'⟩:=ptr_cells (ptAt c (k'+1))
   have gq:(c.map Pt.r)[k'+1]? =some [r1,r2,r3,r4,r5,r6,r7,r8]:=by rw [List.getElem?_map,ptAt_get hk,Option.map_some,es']
   have pk:(k'<c.length)=True:=by simp;omega
   have pk1:(k'+1<c.length)=True:=by simp;omega
   have gk1:=gr (k'+1) hk
   obtain ⟨m,hm⟩:∃m,m=(q-(ptAt c k').x) / ((ptAt c (k'+1)).x-(ptAt c k').x):=⟨_,rfl⟩
   rw [←hm] at k4 k5 ⊢
   obtain ⟨m0,m1,m2,m3,em⟩:=rC4 m
   obtain ⟨u0,u1,u2,u3,eu⟩:=rC4 (q-(ptAt c k').x)
   obtain ⟨v0,v1,v2,v3,ev⟩:=rC4 ((ptAt c (k'+1)).x-(ptAt c k').x)
   obtain ⟨t0,t1,t2,t3,et⟩:=rC4 (Rat.ofInt 1-m)
   have gs:((List.replicate c.length [AV.bool false,.nils,.bool false,.nils]).set (k'+1) [m0,m1,m2,m3])[k'+1]? =some [m0,m1,m2,m3]:=by rw [List.getElem?_set_self (by simpa using hk)]
   have gs':((List.replicate c.length [AV.bool false,.nils,.bool false,.nils]).set (k'+1) [m0,m1,m2,m3])[k']? =some [AV.bool false,.nils,.bool false,.nils]:=by rw [List.getElem?_set_ne (by omega)];exact gr k' (by omega)
   rw [evV_succ E_ambleref11_Shares]
   rw [es,ea] at hcc
   rw [es,eb] at hcd
   rw [es,ep,eu] at k2
   rw [er,ep,ev] at k3
   rw [eu,ev,em] at k4
   rw [ei,em,et] at k5
   rw [es] at hlo ⊢
   generalize cmpQ q (ptAt c 0).x=x at hcc c0
   generalize cmpQ q (ptAt c (c.length-1)).x=y at hcd c1
   generalize c.length-1=l at*
   simp only [go_sem,Fn.ambleref11_Shares,List.length_map,List.length_replicate,List.length_set,wl,mk1,mk2,okz,n0,g0,gl,hcc,hcd,c0,c1,hlo,add1,wk,gp,gq,k1,k2,k3,k4,k5,pl,pk,pk1,gk1,gs,gs',hf]
   rw [←em,←et,rawQ_rep,rawQ_set,rawQ_set]
   rw [frzS_raw _ _ rowAt_upd (by simp)]
   rfl
theorem rShares_call (c:List Pt) (q:Rat) (h0:1≤c.length) (hl:c.length<2^20) (hi:incC c=true) (hp:∀p∈c,SmPt p) (hq:SmQ 256 q):∃L,ShOk c q L∧Calling Id.ambleref11_Shares [.one (.sl false (c.map Pt.r)),.agg (rC q)] (.one (.sl false (L.map frzQ))):=by
 obtain ⟨L,h1,h2⟩:=rShares_ends c q h0 hl hi hp hq
 exact ⟨L,h1,h2.call (can2 (.one _ (.sl _)) (canS_r q))⟩
end Go.Ev
namespace Go.Ev
open Go.Dig
theorem RQ.cells4 {q:Rat} {cs:List AV} (h:RQ q cs):∃a b c d,cs=[a,b,c,d]:=by
 rcases h with rfl | ⟨-,rfl⟩
 ·exact rC4 q
 ·exact ⟨_,_,_,_,rfl⟩
end Go.Ev
namespace Go.Ev
open Go.Dig
set_option maxRecDepth 100000 in
theorem at_loop {n bm S:Nat} {fz:Nat→Nat} {nx:Nat} (hb:bm<nx) (c:List Pt) (L:List (Option Rat)) (hLc:L.length=c.length) (hcl:c.length<2^20) (hsL:∀o∈L,SmQ 1100 (o.getD 0)) (hsc:∀p∈c,SmPt p)
  (hm:∀(a b:Rat) (ca cb:List AV),RW a ca→RW b cb→SmQ 1100 a→SmQ 256 b→∀(ob:Nat→Option AObj) (fz:Nat→Nat),callV (evF E n) Id.ambleref01_Mul [.agg ca,.agg cb] ob fz=some (.fzd fz (.agg (rC (a*b)))))
  (ha:∀(a b:Rat) (ca cb:List AV),RW a ca→RW b cb→SmQ S a→SmQ 1356 b→∀(ob:Nat→Option AObj) (fz:Nat→Nat),callV (evF E n) Id.ambleref01_Add [.agg ca,.agg cb] ob fz=some (.fzd fz (.agg (rC (a+b))))) (x4:SV):∀(r i:Nat),i+r=c.length→∀(m:Rat) (mc:List AV) (T:Nat),RW m mc→SmQ T m→T+1357*r≤S→∀(ob:Nat→Option AObj) (X:List (Nat×SV)) (N:Nat),r<N→ob bm=some (.box mc)→
  ∃mc' X' ob',RW (dotZ (L.drop i) (c.drop i) m) mc'∧(mc=rC m∨1≤r→mc'=rC (dotZ (L.drop i) (c.drop i) m))∧(∀id,id≠bm→ob' id=ob id)∧ob' bm=some (.box mc')∧SmQ S (dotZ (L.drop i) (c.drop i) m)∧
   loopN (evC (evF E n) n Fn.ambleref11_At_L0) N ⟨env ((0,.one (.sl false (c.map Pt.r)))::(4,x4)::(5,.one (.box bm 0))::(6,.one (.sl false (L.map frzQ)))::(7,.one (.int .i64 (i:Int)))::X),ob,fz,nx⟩=
    some (.ext 0,⟨env ((0,.one (.sl false (c.map Pt.r)))::(4,x4)::(5,.one (.box bm 0))::X'),ob',fz,nx⟩)
 | 0,i,hi,m,mc,T,hr,hT,hTS,ob,X,N,hN,hob=>by
  obtain ⟨N,rfl⟩:∃k,N=k+1:=⟨N-1,by omega⟩
  have e1:L.drop i=[]:=List.drop_eq_nil_of_le (by omega)
  have h1:(((i:Nat):Int)<((c.length:Nat):Int))=False:=by simp;omega
  rw [e1]
  refine ⟨mc,[(6,.one (.sl false (L.map frzQ))),(7,.one (.int .i64 (i:Int))),(14,.one (.bool false))],ob,hr,fun h=>(h.resolve_right (by omega)),fun _ _=>rfl,hob,hT.mono (by omega),round_ext ?_⟩
  simp only [go_sem,Fn.ambleref11_At_L0,List.length_map,h1]
 | r+1,i,hi,m,mc,T,hr,hT,hTS,ob,X,N,hN,hob=>by
  obtain ⟨N,rfl⟩:∃k,N=k+1:=⟨N-1,by omega⟩
  have hic:i<c.length:=by omega
  have hiL:i<L.length:=by omega
  have h1:(((i:Nat):Int)<((c.length:Nat):Int))=True:=by simp;omega
  have wk:IntKind.i64.wrap ((i+1:Nat):Int)=((i+1:Nat):Int):=wi64 (by omega)
  have sL:=hsL L[i] (by simp)
  have sc:=(hsc c[i] (by simp)).z
  have hmm:=hm (L[i].getD 0) c[i].z _ _ (frzQ_rq L[i]).w (RW.self _) sL sc
  have sm:=sL.mul sc
  have haa:=ha m (L[i].getD 0*c[i].z) _ _ hr (RW.self _) (hT.mono (by omega)) sm
  obtain ⟨q0,q1,q2,q3,eq⟩:=frzQ4 L[i]
  obtain ⟨m0,m1,m2,m3,rfl⟩:=hr.cells4
  obtain ⟨p0,p1,p2,p3,p4,p5,p6,p7,-,ez,ep⟩:=ptr_cells c[i]
  obtain ⟨u0,u1,u2,u3,eu⟩:=rC4 (L[i].getD 0*c[i].z)
  obtain ⟨v0,v1,v2,v3,ev⟩:=rC4 (m+L[i].getD 0*c[i].z)
  have gL:(L.map frzQ)[i]? =some [q0,q1,q2,q3]:=by rw [List.getElem?_map,List.getElem?_eq_getElem hiL,Option.map_some,eq]
  have gc:(c.map Pt.r)[i]? =some [p0,p1,p2,p3,p4,p5,p6,p7]:=by rw [List.getElem?_map,List.getElem?_eq_getElem hic,Option.map_some,ep]
  rw [eq,ez,eu] at hmm
  rw [eu,ev] at haa
  have okc:okSz 8 (c.map Pt.r)=true:=okSz_map ptr_len c
  have okL:okSz 4 (L.map frzQ)=true:=okSz_map (f:=frzQ) (k:=4) (fun o=>by obtain ⟨a,b,x,d,e⟩:=frzQ4 o;rw [e];rfl) L
  have lb0:(bm<nx)=True:=by simp;omega
  have hst:evC (evF E n) n Fn.ambleref11_At_L0 ⟨env ((0,.one (.sl false (c.map Pt.r)))::(4,x4)::(5,.one (.box bm 0))::(6,.one (.sl false (L.map frzQ)))::(7,.one (.int .i64 (i:Int)))::X),ob,fz,nx⟩=
    some (.nrm,⟨env [(0,.one (.sl false (c.map Pt.r))),(4,x4),(5,.one (.box bm 0)),(6,.one (.sl false (L.map frzQ))),(7,.one (.int .i64 ((i+1:Nat):Int)))],upd ob bm (.box (rC (m+L[i].getD 0*c[i].z))),fz,nx⟩):=by
   rw [ev]
   simp only [go_sem,Fn.ambleref11_At_L0,List.length_map,h1,lb0,hob,gL,gc,okc,okL,hmm,haa,add1,wk]
  rw [round_nrm hst,List.drop_eq_getElem_cons hiL,List.drop_eq_getElem_cons hic]
  unfold dotZ
  obtain ⟨mc',X',ob',k1,k2,k3,k4,k5,k6⟩:=at_loop hb c L hLc hcl hsL hsc hm ha x4 r (i+1) (by omega) (m+L[i].getD 0*c[i].z) (rC (m+L[i].getD 0*c[i].z)) (T+1356+1) (RW.self _) (hT.add sm) (by omega) (upd ob bm (.box (rC (m+L[i].getD 0*c[i].z)))) [] N (by omega) (upd_same _ _ _)
  exact ⟨mc',X',ob',k1,fun _=>k2 (.inl rfl),fun id hid=>(k3 id hid).trans (upd_ne hid),k4,k5,k6⟩
theorem rAt_ends (c:List Pt) (q:Rat) (h0:1≤c.length) (hl:c.length<2^20) (hi:incC c=true) (hp:∀p∈c,SmPt p) (hq:SmQ 256 q):Ends Id.ambleref11_At [.one (.sl false (c.map Pt.r)),.agg (rC q)] (.agg (rC (atQ c q))):=by
 obtain ⟨L,hL,N1,k1⟩:=rShares_call c q h0 hl hi hp hq
 obtain ⟨N2,k2⟩:=rMul_all 1100 256 (by decide)
 obtain ⟨N3,k3⟩:=rAdd_all (1+1357*c.length) 1356 (by omega)
 refine .of (N1+N2+N3+c.length+1) fun {n} hn=> ?_
 have k1:=k1 n (by omega)
 obtain ⟨s0,s1,s2,s3,es⟩:=rC4 q
 obtain ⟨mc',X',ob',q1,q2,q3,q4,q5,hlo⟩:=at_loop (n:=n) (bm:=2) (S:=1+1357*c.length) (fz:=fz0) (nx:=3) (by decide) c L hL.len hl hL.sm hp (fun a b ca cb ha hb sa sb=>k2 a b ca cb ha hb sa sb n (by omega)) (fun a b ca cb ha hb sa sb=>k3 a b ca cb ha hb sa sb n (by omega)) (.one (.box 1 0)) c.length 0 (by omega) 0 [.bool false,.nils,.bool false,.nils] 1 RW.zero (sm0 0) (by omega)
  (upd (upd (upd ob0 0 (.box [s0,s1,s2,s3])) 1 (.box [.bool false,.nils,.bool false,.nils])) 2 (.box [.bool false,.nils,.bool false,.nils])) [] n (by omega) (upd_same _ _ _)
 have q2:=q2 (.inr h0)
 rw [List.drop_zero,List.drop_zero,hL.eq] at q2
 subst q2
 rw [show ((0:Nat):Int)=0 from rfl] at hlo
 have q3:=q3 1 (by decide)
 rw [upd_ne (by decide),upd_same] at q3
 obtain ⟨v0,v1,v2,v3,ev,f0,f1,f2,f3⟩:=rC_cells (atQ c q)
 rw [ev] at q4 ⊢
 rw [es] at k1 ⊢
 unfold Fz at f0 f1 f2 f3
 rw [evV_succ E_ambleref11_At]
 simp only [go_sem,Fn.ambleref11_At,k1,hlo,q3,q4,f0,f1,f2,f3]
theorem rAt_call (c:List Pt) (q:Rat) (h0:1≤c.length) (hl:c.length<2^20) (hi:incC c=true) (hp:∀p∈c,SmPt p) (hq:SmQ 256 q):Calling Id.ambleref11_At [.one (.sl false (c.map Pt.r)),.agg (rC q)] (.agg (rC (atQ c q))):=
 (rAt_ends c q h0 hl hi hp hq).call (can2 (.one _ (.sl _)) (canS_r q))
end Go.Ev
namespace Go.Ev
set_option maxRecDepth 100000 in
theorem awake_run:evV E 200 Id.amblelaw11_awake []=some (.one (.bool true)):=by kernel_rfl
theorem awake_ends:Ends Id.amblelaw11_awake [] (.one (.bool true)):=⟨200,fun n hn=>evV_mono hn awake_run⟩
theorem awake_call:Calling Id.amblelaw11_awake [] (.one (.bool true)):=awake_ends.call fun x h=>by cases h
end Go.Ev
namespace Go.Ev
open Go.Dig
theorem rightC_inc {l:List Pt} (h:rightC l=true):incC l=true∧1≤l.length:=by
 unfold rightC at h
 simp only [Bool.and_eq_true,decide_eq_true_eq] at h
 exact ⟨h.1,h.2.1⟩
theorem wAt_ends (l:List Pt) (q:Rat) (hl:l.length<2^20) (hp:∀p∈l,SmPt p) (hq:SmQ 256 q):Ends Id.wear_At [.one (.sl false (l.map Pt.c)),.agg (qC q)] (.tup [.agg (qC (if rightC l=true then atQ l q else 0)),.one (.int .i64 (if rightC l=true then 0 else 2))]):=by
 obtain ⟨N1,k1⟩:=cright_call l (Nat.lt_trans hl (by decide)) hp
 obtain ⟨s0,s1,s2,es,-,-,-⟩:=qC_cells q
 cases hr:rightC l with
 | false=>
  refine .of N1 fun {n} hn=> ?_
  have k1:=k1 n (by omega)
  rw [hr] at k1
  rw [evV_succ E_wear_At,if_neg (by simp),if_neg (by simp),qC_zero,es]
  simp only [go_sem,Fn.wear_At,k1]
 | true=>
  obtain ⟨hi,h1⟩:=rightC_inc hr
  obtain ⟨N2,k2⟩:=at_call l q hl h1 hi hp hq
  refine .of (N1+N2) fun {n} hn=> ?_
  have k1:=k1 n (by omega)
  have k2:=k2 n (by omega)
  rw [hr] at k1
  obtain ⟨v0,v1,v2,ev,f0,f1,f2⟩:=qC_cells (atQ l q)
  unfold Fz at f0 f1 f2
  rw [ev,es] at k2
  rw [evV_succ E_wear_At,if_pos rfl,if_pos rfl,es,ev]
  simp only [go_sem,Fn.wear_At,k1,k2,f0,f1,f2]
theorem wAt_call (l:List Pt) (q:Rat) (hl:l.length<2^20) (hp:∀p∈l,SmPt p) (hq:SmQ 256 q):Calling Id.wear_At [.one (.sl false (l.map Pt.c)),.agg (qC q)] (.tup [.agg (qC (if rightC l=true then atQ l q else 0)),.one (.int .i64 (if rightC l=true then 0 else 2))]):=
 (wAt_ends l q hl hp hq).call (can2 (.one _ (.sl _)) (canS_q q))
theorem Same_call (q:Rat) {S:Nat} (h:SmQ S q) (hS:S<2^34):Calling Id.amblelaw01_Same [.agg (qC q),.agg (rC q)] (.one (.bool true)):=
 (Ends.of (4*S+110) fun {n} hn=>Same_run q (RQ.self q) h hS hn:Ends Id.amblelaw01_Same [.agg (qC q),.agg (rC q)] (.one (.bool true))).call (can2 (canS_q q) (canS_r q))
set_option maxRecDepth 100000 in
theorem Checks_ends (g:Leg) (h1:g.gates.length<2^20) (h2:g.curves.length<2^20) (h2':∀c∈g.curves,c.length<2^20) (h3:g.limits.length<2^20) (hg:∀x∈g.gates,x.from_<256∧x.to<256) (l:List Spot) (hl:l.length<2^20) (a:Num):
  Ends Id.amblelaw11_WearChecks [.agg g.c,.one (.sl false (l.map Spot.c)),.agg a.c] (.one (.bool true)):=by
 have hd:=Leg.sm g h1 h2 h2' h3 hg
 obtain ⟨N1,k1⟩:=Leg_call g h1 h2 h2' h3
 obtain ⟨N2,k2⟩:=small_call g h2
 obtain ⟨N3,k3⟩:=Check_call g.d hd
 obtain ⟨N4,k4⟩:=awake_call
 obtain ⟨N5,k5⟩:=spots_call l hl
 have hp:∀p∈l.map Spot.p,SmPt p:=fun p hp=>by obtain ⟨s,_,rfl⟩:=List.mem_map.1 hp;exact s.sm
 have hlm:(l.map Spot.p).length<2^20:=by simpa using hl
 obtain ⟨N6,k6⟩:=Both_call a
 obtain ⟨N7,k7⟩:=wAt_call (l.map Spot.p) a.q hlm hp a.qS
 obtain ⟨N8,k8⟩:=rRight_call g.d hd
 obtain ⟨N9,k9⟩:=rcright_call (l.map Spot.p) (Nat.lt_trans hlm (by decide)) hp
 obtain ⟨N10,k10⟩:=Sign_call 0
 obtain ⟨b1,b2,b3,-,eg⟩:=leg_cells g
 obtain ⟨d1,d2,d3,-,ed⟩:=dev_cells g.d
 obtain ⟨r1,r2,r3,r4,er⟩:=devr_cells g.d
 obtain ⟨x1,x2,x3,ex,-,-,-⟩:=qC_cells a.q
 obtain ⟨y1,y2,y3,y4,ey,-,-,-,-⟩:=rC_cells a.q
 have ea:a.c=[.int .i64 a.n,.int .i64 a.d,.int .u8 (a.p:Int)]:=rfl
 have m1:(l.map fun s=>s.p.c)=(l.map Spot.p).map Pt.c:=by rw [List.map_map];rfl
 have m2:(l.map fun s=>s.p.r)=(l.map Spot.p).map Pt.r:=by rw [List.map_map];rfl
 rw [m1,m2] at k5
 rw [eg] at k1 k2 ⊢
 rw [ed] at k1 k3
 rw [er] at k1 k8
 rw [ea] at k6 ⊢
 rw [ex,ey] at k6
 rw [ex] at k7
 have q10:(((l.length:Nat):Int)>10)=(10<l.length):=by rw [eq_iff_iff];omega
 by_cases p1:smallB g=true
 case neg=>
  rw [Bool.not_eq_true] at p1
  rw [p1] at k2
  refine .of (N1+N2+N3+N4) fun {n} hn=> ?_
  have k1:=k1 n (by omega)
  have k2:=k2 n (by omega)
  have k4:=k4 n (by omega)
  rw [evV_succ E_amblelaw11_WearChecks]
  simp only [go_sem,Fn.amblelaw11_WearChecks,k1,k2,k4]
 rw [p1] at k2
 by_cases p2:10<l.length
 ·refine .of (N1+N2+N3+N4) fun {n} hn=> ?_
  have k1:=k1 n (by omega)
  have k2:=k2 n (by omega)
  have k4:=k4 n (by omega)
  rw [evV_succ E_amblelaw11_WearChecks]
  simp only [go_sem,Fn.amblelaw11_WearChecks,k1,k2,k4,List.length_map,q10,p2]
 have e00:((0:Int) !=0)=false:=rfl
 have e22:((2:Int) !=2)=false:=rfl
 have t00:((0:Int)==0)=true:=rfl
 have t22:((2:Int)==2)=true:=rfl
 have s0:signI (0:Rat).num=0:=rfl
 rw [s0,qC_zero] at k10
 unfold errD at k3
 cases hr:rightC (l.map Spot.p) with
 | false=>
  rw [hr] at k7 k9
  rw [if_neg (by simp),if_neg (by simp),qC_zero] at k7
  refine .of (N1+N2+N3+N4+N5+N6+N7+N8+N9+N10) fun {n} hn=> ?_
  have k1:=k1 n (by omega)
  have k2:=k2 n (by omega)
  have k3:=k3 n (by omega)
  have k4:=k4 n (by omega)
  have k5:=k5 n (by omega)
  have k6:=k6 n (by omega)
  have k7:=k7 n (by omega)
  have k8:=k8 n (by omega)
  have k9:=k9 n (by omega)
  have k10:=k10 n (by omega)
  rw [evV_succ E_amblelaw11_WearChecks]
  cases hd2:rightD g.d with
  | true=>
   rw [hd2] at k8
   rw [hd2,if_pos rfl] at k3
   simp only [go_sem,Fn.amblelaw11_WearChecks,k1,k2,k3,k4,k5,k6,k7,k8,k9,k10,List.length_map,q10,p2,e00,e22,t00,t22]
  | false=>
   rw [hd2] at k8
   rw [hd2,if_neg (by simp)] at k3
   simp only [go_sem,Fn.amblelaw11_WearChecks,k1,k2,k3,k4,k5,k6,k7,k8,k9,k10,List.length_map,q10,p2,e00,e22,t00,t22]
 | true=>
  rw [hr] at k7 k9
  rw [if_pos rfl,if_pos rfl] at k7
  obtain ⟨hi,hl1⟩:=rightC_inc hr
  obtain ⟨N11,k11⟩:=rAt_call (l.map Spot.p) a.q hl1 hlm hi hp a.qS
  obtain ⟨N12,k12⟩:=Same_call (atQ (l.map Spot.p) a.q) (at_ends (l.map Spot.p) a.q hlm hl1 hi hp a.qS).2 (by decide)
  obtain ⟨v1,v2,v3,ev,-,-,-⟩:=qC_cells (atQ (l.map Spot.p) a.q)
  obtain ⟨u1,u2,u3,u4,eu,-,-,-,-⟩:=rC_cells (atQ (l.map Spot.p) a.q)
  rw [ev] at k7 k12
  rw [eu] at k11 k12
  rw [ey] at k11
  refine .of (N1+N2+N3+N4+N5+N6+N7+N8+N9+N10+N11+N12) fun {n} hn=> ?_
  have k1:=k1 n (by omega)
  have k2:=k2 n (by omega)
  have k3:=k3 n (by omega)
  have k4:=k4 n (by omega)
  have k5:=k5 n (by omega)
  have k6:=k6 n (by omega)
  have k7:=k7 n (by omega)
  have k8:=k8 n (by omega)
  have k9:=k9 n (by omega)
  have k11:=k11 n (by omega)
  have k12:=k12 n (by omega)
  rw [evV_succ E_amblelaw11_WearChecks]
  cases hd2:rightD g.d with
  | true=>
   rw [hd2] at k8
   rw [hd2,if_pos rfl] at k3
   simp only [go_sem,Fn.amblelaw11_WearChecks,k1,k2,k3,k4,k5,k6,k7,k8,k9,k11,k12,List.length_map,q10,p2,e00,e22,t00,t22]
  | false=>
   rw [hd2] at k8
   rw [hd2,if_neg (by simp)] at k3
   simp only [go_sem,Fn.amblelaw11_WearChecks,k1,k2,k3,k4,k5,k6,k7,k8,k9,k11,k12,List.length_map,q10,p2,e00,e22,t00,t22]
end Go.Ev
