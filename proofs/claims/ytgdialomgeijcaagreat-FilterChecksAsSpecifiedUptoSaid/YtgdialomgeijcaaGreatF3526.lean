import Derived.Test.YtgdialomgeijcaaGreatF3525
set_option linter.all false
section
open Go Go.Proofs Aq Pq
namespace Sh
inductive NF:Pred->Prop
 |leaf (x:Pred) (h2:x.Op≠2) (h3:x.Op≠3) (h4:x.Op≠4):NF x
 |neg (x:Pred) (h2:x.Op≠2) (h3:x.Op≠3) (h4:x.Op≠4):NF (notP x)
 |join (c:Int) (L:List Pred) (hc:c=2\/c=3) (hL:∀y∈L,NF y) (ho:∀y∈L,y.Op≠c) (ht:∀y∈L,∀b,y≠constP b) (hs:SS L) (hn:2<=L.length):NF ⟨c,[],0,0,[],L⟩
theorem NF.const (b:Bool):NF (constP b):=by
 cases b
 .exact .neg _ (by decide) (by decide) (by decide)
 .exact .leaf _ (by decide) (by decide) (by decide)
theorem const_op (b:Bool):(constP b).Op=1\/(constP b).Op=4:=by cases b<;>decide
theorem NF.of_op {y:Pred} {c:Int} (hc:c=2\/c=3) (h:NF y) (ho:y.Op=c):∃L,y=⟨c,[],0,0,[],L⟩/\(∀y∈L,NF y)/\(∀y∈L,y.Op≠c)/\(∀y∈L,∀b,y≠constP b)/\SS L/\2<=L.length:=by
 cases h with
 |leaf _ h2 h3 h4=>exact absurd ho (by omega)
 |neg x h2 h3 h4=>have:(4:Int)=c:=ho;omega
 |join c' L hc' hL ho' ht hs hn=>
  have e:c'=c:=ho
  subst e
  exact⟨L,rfl,hL,ho',ht,hs,hn⟩
theorem constP_ne {b b':Bool} (h:b≠b'):constP b≠constP b':=by
 cases b<;>cases b'<;>first|exact absurd rfl h|decide
theorem flat1_op {c:Int} {y:Pred} (h:y.Op=c):flat1 c y=y.Subs:=by unfold flat1;rw[if_pos h]
theorem flat1_neu {c:Int} {y:Pred} (h:y.Op≠c) (k:y=neuP c):flat1 c y=[]:=by unfold flat1;rw[if_neg h,if_pos k]
theorem flat1_one {c:Int} {y:Pred} (h:y.Op≠c) (k:y≠neuP c):flat1 c y=[y]:=by unfold flat1;rw[if_neg h,if_neg k]
theorem flat_mem {c:Int} (hc:c=2\/c=3) {ys:List Pred} (h:∀y∈ys,NF y) {z:Pred} (hz:z∈flatS c ys):NF z/\z.Op≠c/\z≠neuP c:=by
 obtain⟨y,hy,hz⟩:=List.mem_flatMap.1 hz
 by_cases ho:y.Op=c
 .obtain⟨L,e,hL,hO,hT,_⟩:=(h y hy).of_op hc ho
  rw[flat1_op ho] at hz
  subst e
  exact⟨hL z hz,hO z hz,hT z hz _⟩
 .by_cases k:y=neuP c
  .rw[flat1_neu ho k] at hz;cases hz
  .rw[flat1_one ho k] at hz
   have e:=Ql.1 hz
   subst e
   exact⟨h z hy,ho,k⟩
theorem endS_two {c:Int} {L:List Pred} (h:2<=L.length):endS c L=⟨c,[],0,0,[],L⟩:=by
 match L,h with
 |_::_::_,_=>rfl
theorem not_const {c:Int} {x:Pred} (h1:x≠neuP c) (h2:x≠absP c) (b:Bool):x≠constP b:=by
 unfold neuP at h1;unfold absP at h2
 by_cases e:b=decide (c=2)
 .rw[e];exact h1
 .have:b= !decide (c=2):=by cases b<;>cases h:decide (c=2)<;>simp_all
  rw[this];exact h2
theorem joinNF {c:Int} (hc:c=2\/c=3) {ys:List Pred} (h:∀y∈ys,NF y):NF (joinS c ys):=by
 unfold joinS
 split
 .exact NF.const _
 .rename_i ha
  have hm:∀z∈srtU (flatS c ys),NF z/\z.Op≠c/\z≠neuP c:=fun z hz=>flat_mem hc h ((srtU_mem z _).1 hz)
  have hs:=srtU_ss (flatS c ys)
  generalize srtU (flatS c ys)=L at*
  match L with
  | []=>exact NF.const _
  | [x]=>exact(hm x (Qa ..)).1
  |x::y::L=>exact .join c _ hc (fun z hz=>(hm z hz).1) (fun z hz=>(hm z hz).2.1) (fun z hz=>not_const (hm z hz).2.2 (fun e=>ha (e▸hz))) hs (by simp)
theorem opS_val (op:Int) (o:Bool):opS op o=2\/opS op o=3:=by
 unfold opS;split<;>simp
mutual
theorem nfNF:∀(p:Pred) (o:Bool),NF (nf p o)
 | ⟨op,name,a,b,s,subs⟩,o=>by
   rw[nf]
   split
   .exact nfHNF subs (!o)
   .split
    .exact joinNF (opS_val op o) (nfLNF subs o)
    .rename_i h4 h23
     have h2:op≠2:=fun e=>h23 (.inl e)
     have h3:op≠3:=fun e=>h23 (.inr e)
     split
     .exact .neg _ h2 h3 h4
     .exact .leaf _ h2 h3 h4
theorem nfLNF:∀(l:List Pred) (o:Bool),∀y∈nfL l o,NF y
 | [],o=>by rw[nfL];intro y hy;cases hy
 |p::l,o=>by
  rw[nfL]
  intro y hy
  rcases P9.1 hy with e|hy
  .rw[e];exact nfNF p o
  .exact nfLNF l o y hy
theorem nfHNF:∀(l:List Pred) (o:Bool),NF (nfH l o)
 | [],o=>by rw[nfH];exact NF.const _
 |p::l,o=>by rw[nfH];exact nfNF p o
end
theorem nf_leaf {x:Pred} (h2:x.Op≠2) (h3:x.Op≠3) (h4:x.Op≠4) (o:Bool):nf x o=if o then notP x else x:=by
 cases x
 rw[nf,if_neg h4,if_neg (by intro h;rcases h with h|h;exact h2 h;exact h3 h)]
theorem nf_notP (x:Pred) (o:Bool):nf (notP x) o=nf x (!o):=by
 unfold notP
 rw[nf,if_pos rfl,nfH]
theorem nf_join {c:Int} (hc:c=2\/c=3) (L:List Pred) (o:Bool):nf ⟨c,[],0,0,[],L⟩ o=joinS (opS c o) (L.map fun x=>nf x o):=by
 rw[nf,if_neg (by omega),if_pos hc,nfL_map]
theorem opS_false {c:Int} (hc:c=2\/c=3):opS c false=c:=by rcases hc with rfl|rfl<;>rfl
theorem opS_true {c:Int} (hc:c=2\/c=3):opS c true=5-c:=by rcases hc with rfl|rfl<;>rfl
theorem opS_not (op:Int) (o:Bool):opS op (!o)=5-opS op o:=by
 unfold opS;cases o<;>cases h:decide (op=2)<;>rfl
theorem flat_id {c:Int}:∀{L:List Pred},(∀y∈L,y.Op≠c)->(∀y∈L,∀b,y≠constP b)->flatS c L=L
 | [],_,_=>rfl
 |y::L,h,k=>by
  show flat1 c y++flatS c L=_
  rw[flat1_one (h y (Qa ..)) (k y (Qa ..) _),flat_id (fun z hz=>h z (Qb _ hz)) (fun z hz=>k z (Qb _ hz))]
  rfl
theorem join_id {c:Int} {L:List Pred} (ho:∀y∈L,y.Op≠c) (ht:∀y∈L,∀b,y≠constP b) (hn:2<=(srtU L).length):joinS c L=⟨c,[],0,0,[],srtU L⟩:=by
 unfold joinS
 have h:¬absP c∈srtU L:=fun h=>ht _ ((srtU_mem _ _).1 h) _ rfl
 rw[flat_id ho ht,if_neg h,endS_two hn]
noncomputable def du (x:Pred):Pred:=nf x true
theorem du_const (b:Bool):du (constP b)=constP (!b):=by
 unfold du
 cases b
 .show nf (notP _) true=_
  rw[nf_notP,nf_leaf (by decide) (by decide) (by decide)];rfl
 .show nf ⟨1,[],0,0,[],[]⟩ true=_
  rw[nf_leaf (by decide) (by decide) (by decide)];rfl
theorem two_of {L:List Pred} {x y:Pred} (hx:x∈L) (hy:y∈L) (h:x≠y):2<=L.length:=by
 match L with
 | []=>cases hx
 | [z]=>exact absurd ((Ql.1 hx).trans (Ql.1 hy).symm) h
 |_::_::_=>simp
structure DuOK (x:Pred):Prop where
 back:du (du x)=x
 op:∀c,c=2\/c=3->((du x).Op=5-c↔x.Op=c)
theorem DuOK.const {x:Pred} (h:DuOK x) {b:Bool} (e:du x=constP b):x=constP (!b):=by
 rw[<-h.back,e,du_const]
theorem du_map {c:Int} (hc:c=2\/c=3) {L:List Pred} (hd:∀y∈L,DuOK y) (ho:∀y∈L,y.Op≠c) (ht:∀y∈L,∀b,y≠constP b) (hn:∃x∈L,∃y∈L,x≠y):joinS (5-c) (L.map du)=⟨5-c,[],0,0,[],srtU (L.map du)⟩/\2<=(srtU (L.map du)).length:=by
 have h1:2<=(srtU (L.map du)).length:=by
  obtain⟨x,hx,y,hy,hxy⟩:=hn
  refine two_of (x:=du x) (y:=du y) ((srtU_mem _ _).2 (List.mem_map_of_mem hx)) ((srtU_mem _ _).2 (List.mem_map_of_mem hy)) fun e=>hxy ?_
  rw[<-(hd x hx).back,e,(hd y hy).back]
 refine⟨join_id (fun z hz=>?_) (fun z hz b e=>?_) h1,h1⟩
 .obtain⟨y,hy,rfl⟩:=Qp.1 hz
  exact fun e=>ho y hy (((hd y hy).op c hc).1 e)
 .obtain⟨y,hy,rfl⟩:=Qp.1 hz
  exact ht y hy _ ((hd y hy).const e)
theorem SS.ne {L:List Pred} (h:SS L) (hn:2<=L.length):∃x∈L,∃y∈L,x≠y:=by
 match L,h,hn with
 |x::y::L,h,_=>
  refine⟨x,Qa ..,y,Qb _ (Qa ..),fun e=>?_⟩
  have:=(List.pairwise_cons.1 h).1 y (Qa ..)
  rw[e] at this
  exact cmp_irr this
theorem du_join {c:Int} (hc:c=2\/c=3) {L:List Pred} (hd:∀y∈L,DuOK y) (ho:∀y∈L,y.Op≠c) (ht:∀y∈L,∀b,y≠constP b) (hs:SS L) (hn:2<=L.length):du ⟨c,[],0,0,[],L⟩=⟨5-c,[],0,0,[],srtU (L.map du)⟩:=by
 unfold du
 rw[nf_join hc,opS_true hc]
 exact(du_map hc hd ho ht (hs.ne hn)).1
theorem duOK {x:Pred} (h:NF x):DuOK x:=by
 induction h with
 |leaf x h2 h3 h4=>
  have e:du x=notP x:=by unfold du;rw[nf_leaf h2 h3 h4];rfl
  refine⟨?_,fun c hc=>?_⟩
  .rw[e];unfold du;rw[nf_notP,nf_leaf h2 h3 h4];rfl
  .rw[e]
   show (4:Int)=5-c↔_
   constructor
   .intro h;omega
   .intro h;omega
 |neg x h2 h3 h4=>
  have e:du (notP x)=x:=by unfold du;rw[nf_notP,nf_leaf h2 h3 h4];rfl
  refine⟨?_,fun c hc=>?_⟩
  .rw[e];unfold du;rw[nf_leaf h2 h3 h4];rfl
  .rw[e]
   show _↔(4:Int)=c
   constructor
   .intro h;omega
   .intro h;omega
 |join c L hc hL ho ht hs hn ih=>
  have e:=du_join hc ih ho ht hs hn
  have hc':5-c=2\/5-c=3:=by omega
  refine⟨?_,fun c' hc''=>?_⟩
  .rw[e]
   have hmem:∀z,z∈srtU (L.map du)->∃y∈L,du y=z:=fun z hz=>Qp.1 ((srtU_mem _ _).1 hz)
   have hd2:∀z∈srtU (L.map du),DuOK z:=fun z hz=>by
    obtain⟨y,hy,rfl⟩:=hmem z hz
    refine⟨by rw[(ih y hy).back],fun c2 hc2=>?_⟩
    rw[(ih y hy).back]
    have:=(ih y hy).op (5-c2) (by omega)
    rw[<-this]
    have:(5:Int)-(5-c2)=c2:=by omega
    rw[this]
   have e2:=du_join hc' hd2 (fun z hz=>?_) (fun z hz b hb=>?_) (srtU_ss _) (du_map hc ih ho ht (hs.ne hn)).2
   .rw[e2]
    have e3:srtU ((srtU (L.map du)).map du)=L:=srtU_of hs fun z=>by
     constructor
     .intro hz
      refine Qp.2 ⟨du z,(srtU_mem _ _).2 (List.mem_map_of_mem hz),(ih z hz).back⟩
     .intro hz
      obtain⟨w,hw,rfl⟩:=Qp.1 hz
      obtain⟨y,hy,rfl⟩:=hmem w hw
      rw[(ih y hy).back];exact hy
    rw[e3]
    have:(5:Int)-(5-c)=c:=by omega
    rw[this]
   .obtain⟨y,hy,rfl⟩:=hmem z hz
    exact fun e=>ho y hy (((ih y hy).op c hc).1 e)
   .obtain⟨y,hy,rfl⟩:=hmem z hz
    exact ht y hy _ ((ih y hy).const hb)
  .rw[e]
   show (5:Int)-c=5-c'↔c=c'
   omega
theorem srtU_congr {l m:List Pred} (h:∀x,x∈l↔x∈m):srtU l=srtU m:=
 (srtU_ss l).uniq (srtU_ss m) fun x=>(srtU_mem x l).trans ((h x).trans (srtU_mem x m).symm)
theorem neu_du {c:Int} (hc:c=2\/c=3):du (neuP c)=neuP (5-c):=by
 unfold neuP;rw[du_const];rcases hc with rfl|rfl<;>rfl
theorem abs_du {c:Int} (hc:c=2\/c=3):du (absP c)=absP (5-c):=by
 unfold absP;rw[du_const];rcases hc with rfl|rfl<;>rfl
theorem du_inj {x y:Pred} (hx:DuOK x) (hy:DuOK y) (h:du x=du y):x=y:=by rw[<-hx.back,h,hy.back]
theorem flat_du {c:Int} (hc:c=2\/c=3) {ys:List Pred} (h:∀y∈ys,NF y) (z:Pred):z∈flatS (5-c) (ys.map du)↔z∈(flatS c ys).map du:=by
 have one:∀y,NF y->(z∈flat1 (5-c) (du y)↔z∈(flat1 c y).map du):=fun y hy=>by
  by_cases ho:y.Op=c
  .have hk:=((duOK hy).op c hc).2 ho
   rw[flat1_op hk,flat1_op ho]
   obtain⟨L,e,hL,hO,hT,hS,hN⟩:=hy.of_op hc ho
   subst e
   rw[du_join hc (fun w hw=>duOK (hL w hw)) hO hT hS hN]
   exact srtU_mem z _
  .have hk:¬(du y).Op=5-c:=fun e=>ho (((duOK hy).op c hc).1 e)
   by_cases k:y=neuP c
   .rw[flat1_neu ho k,flat1_neu hk (by rw[k,neu_du hc])];rfl
   .have k2:du y≠neuP (5-c):=fun e=>k (du_inj (duOK hy) (duOK (NF.const _)) (e.trans (neu_du hc).symm))
    rw[flat1_one ho k,flat1_one hk k2];rfl
 constructor
 .intro hz
  obtain⟨w,hw,hz⟩:=List.mem_flatMap.1 hz
  obtain⟨y,hy,rfl⟩:=Qp.1 hw
  obtain⟨v,hv,e⟩:=Qp.1 ((one y (h y hy)).1 hz)
  exact Qp.2 ⟨v,List.mem_flatMap.2 ⟨y,hy,hv⟩,e⟩
 .intro hz
  obtain⟨v,hv,e⟩:=Qp.1 hz
  obtain⟨y,hy,hv⟩:=List.mem_flatMap.1 hv
  exact List.mem_flatMap.2 ⟨du y,List.mem_map_of_mem hy,(one y (h y hy)).2 (Qp.2 ⟨v,hv,e⟩)⟩
theorem joinDu {c:Int} (hc:c=2\/c=3) {ys:List Pred} (h:∀y∈ys,NF y):joinS (5-c) (ys.map du)=du (joinS c ys):=by
 have e1:srtU (flatS (5-c) (ys.map du))=srtU ((srtU (flatS c ys)).map du):=srtU_congr fun z=>by
  rw[flat_du hc h z]
  constructor
  .intro hz
   obtain⟨v,hv,e⟩:=Qp.1 hz
   exact Qp.2 ⟨v,(srtU_mem _ _).2 hv,e⟩
  .intro hz
   obtain⟨v,hv,e⟩:=Qp.1 hz
   exact Qp.2 ⟨v,(srtU_mem _ _).1 hv,e⟩
 have hm:∀z∈srtU (flatS c ys),NF z/\z.Op≠c/\z≠neuP c:=fun z hz=>flat_mem hc h ((srtU_mem z _).1 hz)
 have hs:=srtU_ss (flatS c ys)
 have ea:absP (5-c)∈srtU ((srtU (flatS c ys)).map du)↔absP c∈srtU (flatS c ys):=by
  rw[srtU_mem,<-abs_du hc]
  constructor
  .intro hz
   obtain⟨v,hv,e⟩:=Qp.1 hz
   have e':v=absP c:=du_inj (duOK (hm v hv).1) (duOK (NF.const _)) e
   rw[<-e'];exact hv
  .exact fun hz=>List.mem_map_of_mem hz
 unfold joinS
 rw[e1]
 by_cases ha:absP c∈srtU (flatS c ys)
 .rw[if_pos ha,if_pos (ea.2 ha),abs_du hc]
 .rw[if_neg ha,if_neg (fun k=>ha (ea.1 k))]
  clear e1 ea
  generalize srtU (flatS c ys)=L at*
  match L,hm,hs,ha with
  | [],_,_,_=>exact(neu_du hc).symm
  | [x],_,_,_=>rfl
  |x::y::L,hm,hs,ha=>
   have hT:∀z∈x::y::L,∀b,z≠constP b:=fun z hz=>not_const (hm z hz).2.2 (fun e=>ha (e▸hz))
   have hD:∀z∈x::y::L,DuOK z:=fun z hz=>duOK (hm z hz).1
   have hO:∀z∈x::y::L,z.Op≠c:=fun z hz=>(hm z hz).2.1
   rw[endS_two (du_map hc hD hO hT (hs.ne (by simp))).2]
   exact(du_join hc hD hO hT hs (by simp)).symm
mutual
theorem nf_du:∀(p:Pred) (o:Bool),du (nf p o)=nf p (!o)
 | ⟨op,name,a,b,s,subs⟩,o=>by
   by_cases h4:op=4
   .rw[nf,nf,if_pos h4,if_pos h4]
    exact nfH_du subs (!o)
   .by_cases h23:op=2\/op=3
    .rw[nf,nf,if_neg h4,if_neg h4,if_pos h23,if_pos h23,opS_not,<-nfL_du subs o]
     exact(joinDu (opS_val op o) (nfLNF subs o)).symm
    .have h2:op≠2:=fun e=>h23 (.inl e)
     have h3:op≠3:=fun e=>h23 (.inr e)
     have e:=fun o=>nf_leaf (x:=⟨op,name,a,b,s,subs⟩) h2 h3 h4 o
     rw[e,e]
     unfold du
     cases o
     .rw[if_neg (by decide),e];rfl
     .rw[if_pos rfl,nf_notP,e]
theorem nfL_du:∀(l:List Pred) (o:Bool),(nfL l o).map du=nfL l (!o)
 | [],o=>by rw[nfL,nfL];rfl
 |p::l,o=>by rw[nfL,nfL,Qd,nf_du p o,nfL_du l o]
theorem nfH_du:∀(l:List Pred) (o:Bool),du (nfH l o)=nfH l (!o)
 | [],o=>by rw[nfH,nfH,du_const]
 |p::l,o=>by rw[nfH,nfH,nf_du p o]
end
mutual
def wf:Pred->Prop
 | ⟨op,_,_,_,_,subs⟩=>(op=4->subs.length<=1)/\wfL subs
def wfL:List Pred->Prop
 | []=>True
 |p::l=>wf p/\wfL l
end
def quS (l:List Attr) (c:Int) (ys:List Pred):Bool:=if c=2 then allS l ys else anyS l ys
theorem holds_join (l:List Attr) {c:Int} (hc:c=2\/c=3) (name:List UInt8) (a b:Int) (s:List UInt8) (L:List Pred):holdsS l ⟨c,name,a,b,s,L⟩=quS l c L:=by
 rcases hc with rfl|rfl<;>rw[holdsS]<;>rfl
theorem holds_const (l:List Attr) (b:Bool):holdsS l (constP b)=b:=by
 cases b<;>simp[constP,notP,holdsS,anyS]
theorem holds_notP (l:List Attr) (x:Pred):holdsS l (notP x)= !holdsS l x:=by
 unfold notP;rw[holdsS];simp[anyS]
theorem qu_true {l:List Attr} {c:Int} (hc:c=2\/c=3) {ys:List Pred}:quS l c ys=(!decide (c=2))↔∃y∈ys,holdsS l y= !decide (c=2):=by
 rcases hc with rfl|rfl
 .show allS l ys=false↔∃y∈ys,holdsS l y=false
  rw[allS_eq];simp
 .show anyS l ys=true↔∃y∈ys,holdsS l y=true
  rw[anyS_eq];simp
theorem qu_eq {l:List Attr} {c:Int} (hc:c=2\/c=3) {ys zs:List Pred} (h:(∃y∈ys,holdsS l y= !decide (c=2))↔∃y∈zs,holdsS l y= !decide (c=2)):quS l c ys=quS l c zs:=by
 rw[<-qu_true hc,<-qu_true hc] at h
 generalize (!decide (c=2))=d at h
 generalize quS l c ys=u at*
 generalize quS l c zs=v at*
 cases d<;>cases u<;>cases v<;>simp_all
theorem qu_mem {l:List Attr} {c:Int} (hc:c=2\/c=3) {ys zs:List Pred} (h:∀x,x∈ys↔x∈zs):quS l c ys=quS l c zs:=by
 refine qu_eq hc ?_
 constructor
 .rintro⟨y,hy,e⟩;exact⟨y,(h y).1 hy,e⟩
 .rintro⟨y,hy,e⟩;exact⟨y,(h y).2 hy,e⟩
theorem holds_end (l:List Attr) {c:Int} (hc:c=2\/c=3):∀L:List Pred,holdsS l (endS c L)=quS l c L
 | []=>by
   show holdsS l (neuP c)=_
   unfold neuP;rw[holds_const];rcases hc with rfl|rfl<;>rfl
 | [x]=>by
   show holdsS l x=_
   rcases hc with rfl|rfl
   .show _=allS l [x];rw[allS_eq];simp
   .show _=anyS l [x];rw[anyS_eq];simp
 |x::y::L=>holds_join l hc [] 0 0 [] _
theorem flat_qu (l:List Attr) {c:Int} (hc:c=2\/c=3) (ys:List Pred):quS l c (flatS c ys)=quS l c ys:=by
 refine qu_eq hc ?_
 constructor
 .rintro⟨z,hz,e⟩
  obtain⟨y,hy,hz2⟩:=List.mem_flatMap.1 hz
  refine⟨y,hy,?_⟩
  by_cases ho:y.Op=c
  .rw[flat1_op ho] at hz2
   cases y with
   |mk op name a b s subs=>
    have ho:op=c:=ho
    subst ho
    rw[holds_join l hc]
    exact(qu_true hc).2 ⟨z,hz2,e⟩
  .by_cases k:y=neuP c
   .rw[flat1_neu ho k] at hz2;cases hz2
   .rw[flat1_one ho k] at hz2
    have:=Ql.1 hz2
    rw[<-this];exact e
 .rintro⟨y,hy,e⟩
  by_cases ho:y.Op=c
  .have e':holdsS l y=quS l c y.Subs:=by
    cases y with
    |mk op name a b s subs=>
     have ho:op=c:=ho
     subst ho
     exact holds_join l hc _ _ _ _ _
   rw[e'] at e
   obtain⟨z,hz,e⟩:=(qu_true hc).1 e
   exact⟨z,List.mem_flatMap.2 ⟨y,hy,by rw[flat1_op ho];exact hz⟩,e⟩
  .by_cases k:y=neuP c
   .rw[k] at e
    unfold neuP at e
    rw[holds_const] at e
    cases h:decide (c=2)<;>rw[h] at e<;>cases e
   .exact⟨y,List.mem_flatMap.2 ⟨y,hy,by rw[flat1_one ho k];exact Qa ..⟩,e⟩
theorem join_qu (l:List Attr) {c:Int} (hc:c=2\/c=3) (ys:List Pred):holdsS l (joinS c ys)=quS l c ys:=by
 rw[<-flat_qu l hc ys,<-qu_mem hc (fun x=>srtU_mem x (flatS c ys))]
 unfold joinS
 split
 .rename_i h
  have e:holdsS l (absP c)= !decide (c=2):=holds_const l _
  rw[e]
  exact((qu_true hc).2 ⟨_,h,e⟩).symm
 .exact holds_end l hc _
theorem qu_not (l:List Attr) {c:Int} (hc:c=2\/c=3) {ys zs:List Pred} (f:Pred->Pred) (e:zs=ys.map f) (h:∀y∈ys,holdsS l (f y)= !holdsS l y):quS l (5-c) zs= !quS l c ys:=by
 subst e
 rcases hc with rfl|rfl
 .show anyS l (ys.map f)= !allS l ys
  rw[anyS_eq,allS_eq]
  induction ys with
  |nil=>rfl
  |cons y ys ih=>
   rw[Qd,List.any_cons,List.all_cons,ih fun z hz=>h z (Qb _ hz),h y (Qa ..)]
   cases holdsS l y<;>rfl
 .show allS l (ys.map f)= !anyS l ys
  rw[anyS_eq,allS_eq]
  induction ys with
  |nil=>rfl
  |cons y ys ih=>
   rw[Qd,List.any_cons,List.all_cons,ih fun z hz=>h z (Qb _ hz),h y (Qa ..)]
   cases holdsS l y<;>rfl
theorem qu_map (l:List Attr) (c:Int) {ys:List Pred} (f:Pred->Pred) (h:∀y∈ys,holdsS l (f y)=holdsS l y):quS l c (ys.map f)=quS l c ys:=by
 unfold quS
 rw[allS_eq,anyS_eq,allS_eq,anyS_eq,List.all_map,List.any_map]
 have e0:∀{ys:List Pred},(∀y∈ys,holdsS l (f y)=holdsS l y)->ys.all (holdsS l∘f)=ys.all (holdsS l):=fun {ys} h=>by
  induction ys with
  |nil=>rfl
  |cons y ys ih=>rw[List.all_cons,List.all_cons,ih fun z hz=>h z (Qb _ hz)];rw[show (holdsS l∘f) y=holdsS l y from h y (Qa ..)]
 have e1:ys.all (holdsS l∘f)=ys.all (holdsS l):=by
  induction ys with
  |nil=>rfl
  |cons y ys ih=>rw[List.all_cons,List.all_cons,ih fun z hz=>h z (Qb _ hz)];rw[show (holdsS l∘f) y=holdsS l y from h y (Qa ..)]
 clear e1
 have e2:ys.any (holdsS l∘f)=ys.any (holdsS l):=by
  induction ys with
  |nil=>rfl
  |cons y ys ih=>rw[List.any_cons,List.any_cons,ih (fun z hz=>h z (Qb _ hz))];rw[show (holdsS l∘f) y=holdsS l y from h y (Qa ..)]
 rw[e0 h,e2]
mutual
theorem nf_holds (l:List Attr):∀(p:Pred) (o:Bool),wf p->holdsS l (nf p o)=(holdsS l p !=o)
 | ⟨op,name,a,b,s,subs⟩,o,hw=>by
   rw[wf] at hw
   by_cases h4:op=4
   .rw[nf,if_pos h4,holdsS]
    subst h4
    rw[nfH_holds l subs (!o) (hw.1 rfl) hw.2]
    cases anyS l subs<;>cases o<;>rfl
   .by_cases h23:op=2\/op=3
    .rw[nf,if_neg h4,if_pos h23,join_qu l (opS_val op o),holds_join l h23,nfL_map]
     have hh:=nfL_holds l subs o hw.2
     cases o
     .rw[opS_false h23,qu_map l op _ (fun y hy=>(hh y hy).trans (by simp))];simp
     .rw[opS_true h23,qu_not l h23 _ rfl (fun y hy=>(hh y hy).trans (by simp))];simp
    .have h2:op≠2:=fun e=>h23 (.inl e)
     have h3:op≠3:=fun e=>h23 (.inr e)
     rw[nf_leaf h2 h3 h4]
     cases o
     .rw[if_neg (by decide)];simp
     .rw[if_pos rfl,holds_notP];simp
theorem nfL_holds (l:List Attr):∀(ys:List Pred) (o:Bool),wfL ys->∀y∈ys,holdsS l (nf y o)=(holdsS l y !=o)
 | [],o,_=>by intro y hy;cases hy
 |p::ys,o,hw=>by
  rw[wfL] at hw
  intro y hy
  rcases P9.1 hy with e|hy
  .rw[e];exact nf_holds l p o hw.1
  .exact nfL_holds l ys o hw.2 y hy
theorem nfH_holds (l:List Attr):∀(ys:List Pred) (o:Bool),ys.length<=1->wfL ys->holdsS l (nfH ys o)=(anyS l ys !=o)
 | [],o,_,_=>by rw[nfH,holds_const,anyS];cases o<;>rfl
 | [p],o,_,hw=>by
   rw[wfL] at hw
   rw[nfH,nf_holds l p o hw.1]
   simp[anyS]
 |_::_::_,_,h,_=>by simp at h
end
end Sh
end
section
open Go Go.Proofs Aq Pq
namespace Sh
def OkP (n:Nat) (x:Pred):Prop:=2*szP x<n/\szP x<2^62
theorem Compare_fil {n:Nat} {x y:Pred} (hn:8<n) (hx:2*szP x<n) (hx2:szP x<2^62) (hy:szP y<2^62):Zf n (x,y)=some (cmpP x y):=by
 have e1:Zf n (x,y)=Zf_m n n (x,y):=by unfold Zf;rfl
 rw[e1]
 exact Zf_m_spec hn (szP x) n x y (mF _) (by omega) (by omega) hx2 hy
theorem cmp_ok {n:Nat} (hn:8<n):CmpO (OkP n) (fun x y=>cmpP x y<0) (KP n):=
 fun a b ha hb=>⟨decide (cmpP a b<0),by simp,fun f=>bs (show Zf n (a.re,b.re)=some (cmpP a b) by rw[Pred.re_eq,Pred.re_eq];exact Compare_fil hn ha.1 ha.2 hb.2) rfl⟩
theorem cmp_ord:Ord fun x y=>cmpP x y<0 where
 asym:=fun x y h k=>by have:=cmpP_anti x y;omega
 neg:=fun x y z h k=>by
  have h1:=cmpP_anti x y
  have h2:=cmpP_anti y z
  have h3:=cmpP_anti x z
  have:=cmpP_law.trans z y x (by omega) (by omega)
  omega
theorem same_spec {n:Nat} (hn:8<n) {x y:Pred} (hx:OkP n x) (hy:OkP n y):Xp n (x,y)=some (eqP x y):=by
 rw[Xp_eq]
 simp only[Pred.re_eq]
 exact bs (Compare_fil hn hx.1 hx.2 hy.2) rfl
theorem eqP_iff {x y:Pred}:eqP x y=true↔x=y:=by
 unfold eqP
 constructor
 .intro h;exact cmpP_zero x y (by simpa using h)
 .intro h;rw[h,cmpP_self];rfl
theorem constant_spec {n:Nat} (b:Bool):XH n b=some (constP b):=by
 rw[XH_eq]
 cases b
 .rw[cond_false]
  refine bs (XG_eq ..) ?_
  simp only[Pred.re_eq];rfl
 .rfl
theorem compact_api_Pred {n:Nat} (hn:400<n) {l:List Pred} (hl:l.length<256) (hal:Al (OkP n) l):∃r:(Int×Int)×List Pred,Zl n ((),(),()) l=some r/\r.1.1=0/\0<=r.1.2/\r.1.2<=r.2.length/\r.2.take r.1.2.toNat=comp eqP l:=
 cptAll (n:=n) (neuP 2) (e:=eqP) (Ok:=OkP n) (sm:=Xp n) (fun a b ha hb=>same_spec (by omega) ha hb) (C9:=Zl_L9 n) (C4:=Zl_L4 n) (cpt:=Zl n)
  (by intros;refine Eq.trans (Zl_L9_s ..) ?_;(try simp only[Pred.re_eq]);(first|done|rfl)) (by intros;refine Eq.trans (Zl_L4_s ..) ?_;(try simp only[Pred.re_eq]);(first|done|rfl)) (by intros;refine Eq.trans (Zl_eq ..) ?_;(try simp only[Pred.re_eq]);(first|done|rfl)) (by omega) hal (by omega)
theorem contains_spec {n:Nat} (hn:400<n) {l:List Pred} {y:Pred} (hl:l.length<256) (hal:Al (OkP n) l) (hy:OkP n y):Xq n (l,(),y.Op,y.Name,y.N,y.M,y.S,y.Subs)=some (l.any fun x=>eqP x y):=by
 have hb:∀x∈l,XB n (x,y.Op,y.Name,y.N,y.M,y.S,y.Subs)=some (eqP x y):=fun x hx=>by
  rw[XB_eq]
  simp only[Pred.re_eq]
  have e:(⟨y.Op,y.Name,y.N,y.M,y.S,y.Subs⟩:Pred)=y:=by cases y;rfl
  rw[e]
  exact bs (same_spec (by omega) (hal x hx) hy) rfl
 have:=loop_ix (L:=fun m i=>ZU_L2 n l y.Op y.Name y.N y.M y.S y.Subs m i) (l:=l) (fun x i r=>bif eqP x y then some (.inr (i:Int)) else r) (some (.inl ()))
  (fun m i x hx=>by
    have hlt:=lt_of_get hx
    rw[ZU_L2_s,dec_of hx,idxL_of hx,wrap_succ (by omega)]
    simp only[cond_true,Option.bind_some,Pred.re_eq]
    rw[hb x (Qw hx)];rfl)
  (fun m=>by rw[ZU_L2_s,dec_end];rfl) (show l.length<n by omega)
 rw[Xq_eq,ZU_eq,this,foldI_find (fun x=>eqP x y) (fun i=>(Sum.inr (i:Int):PUnit⊕Int)) (.inl ())]
 cases hf:l.findIdx? (fun x=>eqP x y) with
 |none=>
  rw[List.findIdx?_eq_none_iff] at hf
  have:l.any (fun x=>eqP x y)=false:=by rw[List.any_eq_false];intro z hz;simpa using hf z hz
  rw[this];rfl
 |some j=>
  obtain⟨hj,h2,_⟩:=List.findIdx?_eq_some_iff_getElem.1 hf
  have:l.any (fun x=>eqP x y)=true:=by rw[List.any_eq_true];exact⟨l[j],QM hj,h2⟩
  rw[this]
  show some (decide (((0+j:Nat):Int)>=(0:Int)))=some true
  rw[decide_eq_true (by omega)]
theorem any_eqP (l:List Pred) (y:Pred):(l.any fun x=>eqP x y)=decide (y∈l):=by
 by_cases h:y∈l
 .rw[decide_eq_true h,List.any_eq_true];exact⟨y,h,eqP_iff.2 rfl⟩
 .rw[decide_eq_false h,List.any_eq_false]
  intro x hx e
  exact h (eqP_iff.1 e▸hx)
theorem const_ok {n:Nat} (hn:400<n) (b:Bool):OkP n (constP b):=by
 have:=const_sz b
 exact⟨by omega,by omega⟩
theorem flatS_cons (c:Int) (y:Pred) (ys:List Pred):flatS c (y::ys)=flat1 c y++flatS c ys:=rfl
theorem join_loop {n g:Nat} {p:Pred} {o:Bool} {c:Int} {r5:Pred} (hn:600<n) (hN:∀x∈p.Subs,Zk_m n g (x,o)=some (nf x o)) (hz:szL p.Subs<=127):∀(k i m:Nat) (s:List Pred),i+k=p.Subs.length->k<m->s.length+szL (nfL (p.Subs.drop i) o)<=254->
 Ze_m_L8 n g p o c (neuP c) r5 m (((),(i:Int)),s)=some ((),s++flatS c (nfL (p.Subs.drop i) o))
 |0,i,m,s,hi,hm,_=>by
  obtain⟨m,rfl⟩:∃m',m=m'+1:=⟨m-1,by omega⟩
  have e:i=p.Subs.length:=by omega
  rw[Ze_m_L8_s,dec_ge (by omega),cond_false,e,List.drop_length,nfL]
  show some ((),s)=some ((),s++[])
  rw[QI]
 |k+1,i,m,s,hi,hm,hs=>by
  obtain⟨m,rfl⟩:∃m',m=m'+1:=⟨m-1,by omega⟩
  have hlt:i<p.Subs.length:=by omega
  have hx:p.Subs[i]? =some p.Subs[i]:=Qh hlt
  have hlen:=szL_len p.Subs
  have hmem:p.Subs[i]∈p.Subs:=QM hlt
  have hsz:=nf_sz p.Subs[i] o
  have hsm:=szL_mem hmem
  have hok:OkP n (nf p.Subs[i] o):=⟨by omega,by omega⟩
  rw[Qq hlt,nfL] at hs⊢
  simp only[szL] at hs
  rw[Ze_m_L8_s,dec_of hx,cond_true]
  refine bs (idxL_of hx) ?_
  simp only[Pred.re_eq]
  refine bs (hN _ hmem) ?_
  rw[flatS_cons,wrap_succ (by omega)]
  have hf:=flat1_sz c (nf p.Subs[i] o)
  have hfl:=szL_len (flat1 c (nf p.Subs[i] o))
  by_cases ho:(nf p.Subs[i] o).Op=c
  .rw[flat1_op ho] at hf hfl⊢
   have e:((nf p.Subs[i] o).Op==c)=true:=by rw[ho];exact beq_self_eq_true _
   rw[e,cond_true,room_2000 (by omega),cond_true,join_loop hn hN hz k (i+1) m _ (by omega) (by omega) (by rw[Qc];omega),Qt]
  .have e:((nf p.Subs[i] o).Op==c)=false:=by simpa using ho
   rw[e,cond_false]
   refine bs (same_spec (by omega) hok (const_ok (by omega) _)) ?_
   by_cases hk:nf p.Subs[i] o=neuP c
   .rw[flat1_neu ho hk]
    have e2:eqP (nf p.Subs[i] o) (neuP c)=true:=eqP_iff.2 hk
    rw[e2]
    show Ze_m_L8 n g p o c (neuP c) r5 m (((),((i+1:Nat):Int)),s)=_
    rw[join_loop hn hN hz k (i+1) m _ (by omega) (by omega) (by omega)];rfl
   .rw[flat1_one ho hk]
    have e2:eqP (nf p.Subs[i] o) (neuP c)=false:=by
     cases h:eqP (nf p.Subs[i] o) (neuP c)
     .rfl
     .exact absurd (eqP_iff.1 h) hk
    rw[e2]
    show (bif roomOK (s.length+1) 80 then Ze_m_L8 n g p o c (neuP c) r5 m (((),((i+1:Nat):Int)),s++[nf p.Subs[i] o]) else none)=_
    have:=szP_pos (nf p.Subs[i] o)
    rw[room_2000 (by omega),cond_true,join_loop hn hN hz k (i+1) m _ (by omega) (by omega) (by rw[Qc,List.length_singleton];omega),Qt]
theorem join_spec {n g:Nat} {p:Pred} {o:Bool} (hn:600<n) (hp:p.Op=2\/p.Op=3) (hN:∀x∈p.Subs,Zk_m n g (x,o)=some (nf x o)) (hz:szL p.Subs<=127):Ze_m n (g+1) (p,o)=some (joinS (opS p.Op o) (nfL p.Subs o)):=by
 have hlen:=szL_len p.Subs
 have hsz:=nfL_sz p.Subs o
 rw[Ze_m_eq]
 simp only[Pred.re_eq]
 unfold joinS
 have e1:(!((p.Op==(2:Int))==o))=decide (opS p.Op o=2):=by
  unfold opS
  have:(p.Op==(2:Int))=decide (p.Op=2):=rfl
  rw[this]
  cases decide (p.Op=2)<;>cases o<;>rfl
 have e0:(bif decide (opS p.Op o=2) then some (2:Int) else some 3)=some (opS p.Op o):=by
  rcases opS_val p.Op o with h|h<;>rw[h]<;>rfl
 rw[e1]
 refine bs e0 ?_
 generalize opS p.Op o=c
 refine bs (constant_spec _) (bs (constant_spec _) ?_)
 have hL:=join_loop (n:=n) (g:=g) (p:=p) (o:=o) (c:=c) (r5:=absP c) hn hN hz p.Subs.length 0 n [] (by omega) (by omega) (by rw[Qu];simp only[List.length_nil];omega)
 rw[Qu,List.nil_append] at hL
 refine bs hL ?_
 have hfs:=flatS_sz c (nfL p.Subs o)
 have hfl:=szL_len (flatS c (nfL p.Subs o))
 have hsr:∀x,x∈flatS c (nfL p.Subs o)->OkP n x:=fun x hx=>by
  have:=szL_mem hx
  exact⟨by omega,by omega⟩
 generalize flatS c (nfL p.Subs o)=F at*
 obtain⟨⟨u1,S⟩,q1,q2,q3⟩:=sort_api_Pred (n:=n) (cmp_ok (by omega)) cmp_ord (neuP 2) (by omega) (l:=F) (by omega) hsr
 refine bs q1 ?_
 have q2:S.Perm F:=q2
 have hsl:S.length=F.length:=q2.length_eq
 obtain⟨⟨⟨a,b⟩,C⟩,w1,w2,w3,w4,w5⟩:=compact_api_Pred (n:=n) (by omega) (l:=S) (by omega) (fun x hx=>hsr x (q2.mem_iff.1 hx))
 refine bs w1 ?_
 dsimp only at w2 w3 w4 w5
 subst w2
 have es:subI C 0 b=srtU F:=by
  unfold subI
  rw[w5]
  show (comp eqP S).drop 0=_
  rw[Qu]
  exact comp_srtU q2 q3
 have hm:=fun x=>srtU_mem x F
 have hul:(srtU F).length=b.toNat:=by
  rw[<-es];unfold subI;rw[QY,Qs];omega
 have hus:=srtU_sz F
 have hul2:=szL_len (srtU F)
 have hix:∀x,srtU F=[x]->idxL C ((0:Int)+0)=some x:=fun x hx=>by
  have h1:(C.take b.toNat)[0]? =some x:=by
   have:subI C 0 b=C.take b.toNat:=rfl
   rw[<-this,es,hx];rfl
  have hb:b.toNat=1:=by rw[<-hul,hx];rfl
  have h2:C[0]? =some x:=by
   rw[List.getElem?_take] at h1
   rw[hb] at h1
   simpa using h1
  exact idxL_of h2
 have hcon0:Xq n (srtU F,(),(absP c).Op,(absP c).Name,(absP c).N,(absP c).M,(absP c).S,(absP c).Subs)=some (decide (absP c∈srtU F)):=by
  rw[contains_spec (y:=absP c) (by omega) (by omega) (fun x hx=>hsr x ((hm x).1 hx)) (const_ok (by omega) _),any_eqP]
 have hcon:=Eq.trans (congrArg (fun l:List Pred=>Xq n (l,(),(absP c).Op,(absP c).Name,(absP c).N,(absP c).M,(absP c).S,(absP c).Subs)) es) hcon0
 refine bs hcon ?_
 show (bif decide (absP c∈srtU F) then some (absP c) else bif (((b-0).toNat:Nat):Int)==0 then some (neuP c) else bif (((b-0).toNat:Nat):Int)==1 then bif inJ 0 (b-0) then (idxL C (0+0)).bind fun r15=>some r15 else none else some ⟨c,[],0,0,[],subI C 0 b⟩)=_
 rw[es]
 by_cases ha:absP c∈srtU F
 .rw[decide_eq_true ha,if_pos ha,cond_true]
 .rw[decide_eq_false ha,if_neg ha,cond_false,Int.sub_zero]
  rw[<-hul]
  generalize srtU F=L at*
  match L,hix,hul with
  | [],_,_=>rfl
  | [x],hix,hul=>
    show (bif inJ (0:Int) b then (idxL C ((0:Int)+0)).bind fun r15=>some r15 else none)=some x
    have hb:b.toNat=1:=by rw[<-hul];rfl
    have:inJ (0:Int) b=true:=decide_eq_true (by omega)
    rw[this,cond_true,hix x rfl];rfl
  |x::y::L,_,_=>
   have h0:((((x::y::L).length:Nat):Int)==0)=false:=by simp;omega
   have h1:((((x::y::L).length:Nat):Int)==1)=false:=by simp;omega
   rw[h0,cond_false,h1,cond_false];rfl
mutual
def acc:Pred->Prop
 | ⟨op,_,_,_,_,subs⟩=>(op=4->subs.length=1)/\accL subs
def accL:List Pred->Prop
 | []=>True
 |p::l=>acc p/\accL l
end
theorem accL_iff:∀{l:List Pred},accL l↔∀x∈l,acc x
 | []=>by rw[accL];simp
 |p::l=>by rw[accL,accL_iff (l:=l)];simp
theorem acc_iff (p:Pred):acc p↔(p.Op=4->p.Subs.length=1)/\∀x∈p.Subs,acc x:=by
 cases p;rw[acc,accL_iff]
mutual
theorem acc_wf:∀p:Pred,acc p->wf p
 | ⟨op,name,a,b,s,subs⟩,h=>by
   rw[acc] at h;rw[wf]
   exact⟨fun e=>QV (h.1 e),accL_wf subs h.2⟩
theorem accL_wf:∀l:List Pred,accL l->wfL l
 | [],_=>by rw[wfL];trivial
 |p::l,h=>by
  rw[accL] at h;rw[wfL]
  exact⟨acc_wf p h.1,accL_wf l h.2⟩
end
theorem normal_spec {n:Nat} (hn:600<n):∀(k g:Nat) (p:Pred) (o:Bool),szP p<=k->2*szP p<=g->acc p->szP p<=128->Zk_m n g (p,o)=some (nf p o)
 |0,g,p,o,hk,_,_,_=>by have:=szP_pos p;omega
 |k+1,g,p,o,hk,hg,ha,hp=>by
  have hs:=szP_subs p
  have ha':=(acc_iff p).1 ha
  obtain⟨g,rfl⟩:∃g',g=g'+2:=⟨g-2,by omega⟩
  have ih:∀x∈p.Subs,∀o,Zk_m n g (x,o)=some (nf x o):=fun x hx o=>by
   have:=szL_mem hx
   exact normal_spec hn k g x o (by omega) (by omega) (ha'.2 x hx) (by omega)
  have ih1:∀x∈p.Subs,∀o,Zk_m n (g+1) (x,o)=some (nf x o):=fun x hx o=>by
   have:=szL_mem hx
   exact normal_spec hn k (g+1) x o (by omega) (by omega) (ha'.2 x hx) (by omega)
  rw[Zk_m_eq]
  simp only[Pred.re_eq]
  have en:nf p o=if p.Op=4 then nfH p.Subs (!o) else if p.Op=2\/p.Op=3 then joinS (opS p.Op o) (nfL p.Subs o) else if o then notP p else p:=by
   cases p;rw[nf]
  rw[en]
  by_cases h4:p.Op=4
  .have e:(p.Op==(4:Int))=true:=by rw[h4];rfl
   rw[e,cond_true,if_pos h4]
   have hl:=ha'.1 h4
   generalize p.Subs=l at*
   match l,hl with
   | [x],_=>
     refine bs (idxL_of (i:=0) (x:=x) rfl) ?_
     refine bs (ih1 x (Qa ..) (!o)) ?_
     rw[nfH]
  .have e:(p.Op==(4:Int))=false:=by simpa using h4
   rw[e,cond_false,if_neg h4]
   by_cases h2:p.Op=2
   .have e:(p.Op==(2:Int))=true:=by rw[h2];rfl
    rw[e,cond_true,if_pos (.inl h2),join_spec hn (.inl h2) (fun x hx=>ih x hx o) (by omega)];rfl
   .have e:(p.Op==(2:Int))=false:=by simpa using h2
    rw[e,cond_false]
    by_cases h3:p.Op=3
    .have e:(p.Op==(3:Int))=true:=by rw[h3];rfl
     rw[e,cond_true,if_pos (.inr h3),join_spec hn (.inr h3) (fun x hx=>ih x hx o) (by omega)];rfl
    .have e:(p.Op==(3:Int))=false:=by simpa using h3
     rw[e,cond_false,if_neg (by intro h;rcases h with h|h;exact h2 h;exact h3 h)]
     cases o
     .rfl
     .rw[cond_true,XG_eq,if_pos rfl]
      simp only[Pred.re_eq];rfl
theorem Normal_spec {n:Nat} (hn:600<n) {p:Pred} (ha:acc p) (hp:szP p<=128):XC n p=some (nf p false):=by
 rw[XC_eq]
 simp only[Pred.re_eq]
 have e:Zk n (p,false)=Zk_m n n (p,false):=by unfold Zk;rfl
 rw[e,normal_spec hn (szP p) n p false (mF _) (by omega) ha hp];rfl
theorem acc_const (b:Bool):acc (constP b):=by
 cases b
 .refine(acc_iff _).2 ⟨fun _=>rfl,fun x hx=>?_⟩
  have e:=Ql.1 hx
  rw[e]
  exact(acc_iff _).2 ⟨fun h=>absurd h (by decide),fun y hy=>by cases hy⟩
 .exact(acc_iff _).2 ⟨fun h=>absurd h (by decide),fun y hy=>by cases hy⟩
theorem acc_join {c:Int} (hc:c=2\/c=3) {ys:List Pred} (h:∀y∈ys,acc y):acc (joinS c ys):=by
 unfold joinS
 split
 .exact acc_const _
 .have hm:∀z∈srtU (flatS c ys),acc z:=fun z hz=>by
   obtain⟨y,hy,hz⟩:=List.mem_flatMap.1 ((srtU_mem _ _).1 hz)
   by_cases ho:y.Op=c
   .rw[flat1_op ho] at hz;exact((acc_iff y).1 (h y hy)).2 z hz
   .by_cases k:y=neuP c
    .rw[flat1_neu ho k] at hz;cases hz
    .rw[flat1_one ho k] at hz
     rw[Ql.1 hz];exact h y hy
  generalize srtU (flatS c ys)=L at*
  match L with
  | []=>exact acc_const _
  | [x]=>exact hm x (Qa ..)
  |x::y::L=>exact(acc_iff _).2 ⟨fun e=>by have:c=4:=e;omega,hm⟩
mutual
theorem acc_nf:∀(p:Pred) (o:Bool),acc p->acc (nf p o)
 | ⟨op,name,a,b,s,subs⟩,o,h=>by
   have h':=h
   rw[acc] at h'
   rw[nf]
   split
   .exact acc_nfH subs (!o) h'.2
   .split
    .exact acc_join (opS_val op o) (acc_nfL subs o h'.2)
    .split
     .exact(acc_iff _).2 ⟨fun _=>rfl,fun x hx=>by rw[Ql.1 hx];exact h⟩
     .exact h
theorem acc_nfL:∀(l:List Pred) (o:Bool),accL l->∀y∈nfL l o,acc y
 | [],o,_=>by rw[nfL];intro y hy;cases hy
 |p::l,o,h=>by
  rw[accL] at h
  rw[nfL]
  intro y hy
  rcases P9.1 hy with e|hy
  .rw[e];exact acc_nf p o h.1
  .exact acc_nfL l o h.2 y hy
theorem acc_nfH:∀(l:List Pred) (o:Bool),accL l->acc (nfH l o)
 | [],o,_=>by rw[nfH];exact acc_const _
 |p::l,o,h=>by
  rw[accL] at h
  rw[nfH];exact acc_nf p o h.1
end
end Sh
end
section
open Go Go.Proofs Aq Pq
namespace Sh
theorem pre_self:∀p:Pred,p∈pre p
 | ⟨op,name,n,m,s,subs⟩=>by rw[pre];exact Qa ..
theorem preL_in:∀{l:List Pred} {x y:Pred},x∈l->y∈pre x->y∈preL l
 | [],_,_,h,_=>by cases h
 |p::l,x,y,h,k=>by
  rw[preL]
  rcases P9.1 h with e|h
  .rw[<-e];exact Q0 _ k
  .exact Q8 _ (preL_in h k)
theorem pre_subs (p:Pred):pre p=p::preL p.Subs:=by cases p;rw[pre]
theorem acc_pre:∀(k:Nat) (p:Pred),szP p<=k->(∀x∈pre p,x.Op=4->x.Subs.length=1)->acc p
 |0,p,hk,_=>by have:=szP_pos p;omega
 |k+1,p,hk,h=>by
  have hs:=szP_subs p
  refine(acc_iff p).2 ⟨h p (pre_self p),fun x hx=>?_⟩
  have:=szL_mem hx
  refine acc_pre k x (by omega) fun y hy=>h y ?_
  rw[pre_subs]
  exact Qb _ (preL_in hx hy)
theorem form_one {x:Pred} (h:formS x=true) (h4:x.Op=4):x.Subs.length=1:=by
 unfold formS at h
 split at h
 .cases h
 .split at h
  .cases h
  .rw[if_neg (show¬(x.Op=2\/x.Op=3) by omega)] at h
   exact of_decide_eq_true h
theorem check_none {s:Schema}:∀{l:List Pred},(checkL s l).getD 0=0->∀x∈l,formS x=true
 | [],_,_,hx=>by cases hx
 |y::l,h,x,hx=>by
  rw[checkL] at h
  cases hc:checkP s y with
  |some e=>
   rw[hc] at h
   have he:e=0:=h
   unfold checkP at hc
   split at hc
   .injection hc with hc;omega
   .split at hc
    .injection hc with hc;omega
    .split at hc
     .cases hc
     .split at hc
      .injection hc with hc;omega
      .split at hc
       .injection hc with hc;omega
       .cases hc
  |none=>
   rw[hc] at h
   rcases P9.1 hx with e|hx
   .rw[e]
    unfold checkP at hc
    split at hc
    .cases hc
    .split at hc
     .cases hc
     .rename_i h2;simpa using h2
   .exact check_none h x hx
theorem schema_total {n:Nat} {s:Schema} (h:SmallS s n) (hn:6<n):∃b:Bool,Xv n s=some b:=by
 obtain⟨b,hb⟩:=Zo_total (k:=16) h
 obtain⟨e,he⟩:=whenO_total (c:=b) (o:=Zu n s) (d:=(0:Int)) (fun _=>Zu_total h hn)
 rw[Xv_eq,hb]
 refine⟨_,bs rfl (bs he rfl)⟩
theorem def_vsz (d:Def):d.Name.length+d.Words.length+1<=vsz (Def.v d)/\∀w∈d.Words,w.length+1<=vsz (Def.v d):=by
 have e:vsz (Def.v d)=(d.Name.length+1)+(1+(1+(1+(vszL (d.Words.map V.str)+1+0)))):=rfl
 have h1:=lst_len V.str (fun x=>by simp[vsz]) d.Words
 refine⟨by omega,fun w hw=>?_⟩
 have h2:=lst_mem V.str hw
 have h3:vsz (V.str w)=w.length+1:=rfl
 omega
theorem schema_small {s:Schema} {n k:Nat} (h:vsz (Schema.v s)<=k) (hk:k<n) (hk2:k<2^62):SmallS s n:=by
 have e:vsz (Schema.v s)=1+(1+(vszL (s.Defs.map Def.v)+1+0)):=rfl
 have h1:=lst_len Def.v (fun x=>by have:=(def_vsz x).1;omega) s.Defs
 refine⟨by omega,by omega,fun d hd=>?_⟩
 have h2:=lst_mem Def.v hd
 have h3:=def_vsz d
 have h4:=h3.1
 refine⟨by omega,by omega,by omega,by omega,fun w hw=>?_⟩
 have:=h3.2 w hw
 exact⟨by omega,by omega⟩
theorem Not_spec (n:Nat) (p:Pred):Xr n p=some (notP p):=by
 rw[Xr_eq]
 simp only[Pred.re_eq];rfl
def insR (p:Pred):Bool->List Pred->List Pred
 |d,[]=>bif d then [] else [p]
 |d,q::l=>(bif (bif decide (cmpP p q<=0) then !d else false) then [p] else [])++((bif cmpP p q !=0 then [q] else [])++insR p (bif (bif decide (cmpP p q<=0) then !d else false) then true else d) l)
theorem insR_true (p:Pred):∀l:List Pred,(∀q∈l,cmpP p q<0)->insR p true l=l
 | [],_=>rfl
 |q::l,h=>by
  have h1:=h q (Qa ..)
  have e:(cmpP p q !=0)=true:=by simp;omega
  have e2:(bif decide (cmpP p q<=0) then !true else false)=false:=by cases decide (cmpP p q<=0)<;>rfl
  rw[insR,e,e2]
  show q::insR p true l=q::l
  rw[insR_true p l fun z hz=>h z (Qb _ hz)]
theorem insR_insU (p:Pred):∀l:List Pred,SS l->insR p false l=insU p l
 | [],_=>rfl
 |q::l,h=>by
  have h':=List.pairwise_cons.1 h
  unfold insU
  by_cases h1:cmpP p q<0
  .have e:(cmpP p q !=0)=true:=by simp;omega
   have e2:(bif decide (cmpP p q<=0) then !false else false)=true:=by rw[decide_eq_true (by omega)];rfl
   rw[insR,e,e2,if_pos h1]
   show p::q::insR p true l=_
   rw[insR_true p l fun z hz=>cmp_lt_trans h1 (h'.1 z hz)]
  .by_cases h2:cmpP p q=0
   .have e:(cmpP p q !=0)=false:=by simp[h2]
    have e2:(bif decide (cmpP p q<=0) then !false else false)=true:=by rw[decide_eq_true (by omega)];rfl
    have hpq:=cmpP_zero p q h2
    rw[insR,e,e2,if_neg h1,if_pos h2]
    show p::insR p true l=_
    rw[insR_true p l fun z hz=>by rw[hpq];exact h'.1 z hz,hpq]
   .have e:(cmpP p q !=0)=true:=by simp[h2]
    have e2:(bif decide (cmpP p q<=0) then !false else false)=false:=by rw[decide_eq_false (by omega)];rfl
    rw[insR,e,e2,if_neg h1,if_neg h2]
    show q::insR p false l=_
    rw[insR_insU p l h'.2]
theorem ref_cmp {n:Nat} (hn:8<n) {x y:Pred} (hx:OkP n x) (hy:OkP n y):QR n (x,y)=some (cmpP x y):=(Compare_same hn hx.1 hx.2 hy.2).2
theorem ins_loop {n:Nat} (hn:600<n) {l:List Pred} {p:Pred} (hl:l.length<256) (hok:∀x∈l,OkP n x) (hp:OkP n p):∀(k i m:Nat) (s:List Pred) (d:Bool),i+k=l.length->k<m->s.length<=2*i->
 ∃r:List Pred×Bool,ZH_L4 n l p m (s,(d,(i:Int)))=some r/\r.1++(bif r.2 then [] else [p])=s++insR p d (l.drop i)/\r.1.length<=512
 |0,i,m,s,d,hi,hm,hs=>by
  obtain⟨m,rfl⟩:∃m',m=m'+1:=⟨m-1,by omega⟩
  have e:i=l.length:=by omega
  rw[ZH_L4_s,dec_ge (by omega),cond_false,e,List.drop_length]
  exact⟨(s,d),rfl,rfl,by show s.length<=512;omega⟩
 |k+1,i,m,s,d,hi,hm,hs=>by
  obtain⟨m,rfl⟩:∃m',m=m'+1:=⟨m-1,by omega⟩
  have hlt:i<l.length:=by omega
  have hx:l[i]? =some l[i]:=Qh hlt
  rw[ZH_L4_s,dec_of hx,cond_true,Qq hlt,insR]
  refine tE (idxL_of hx) ?_
  simp only[Pred.re_eq]
  refine tE (ref_cmp (by omega) hp (hok _ (QM hlt))) ?_
  rw[wrap_succ (by omega)]
  have ih:=fun s d hs=>ins_loop hn hl hok hp k (i+1) m s d (by omega) (by omega) hs
  generalize cmpP p l[i]=c at*
  cases hb:(bif decide (c<=0) then !d else false) with
  |true=>
   simp only[cond_true]
   refine tG (room_2000 (by rw[List.length_singleton];omega)) ?_
   cases hc:c !=0 with
   |true=>
    simp only[cond_true]
    refine tE (idxL_of hx) ?_
    try simp only[Pred.re_eq]
    refine tG (room_2000 (by simp only[Qc,List.length_singleton];omega)) ?_
    obtain⟨r,h1,h2,h3⟩:=ih ((s++[p])++[l[i]]) true (by simp only[Qc,List.length_singleton];omega)
    refine⟨r,h1,?_,h3⟩
    rw[h2];simp
   |false=>
    simp only[cond_false]
    obtain⟨r,h1,h2,h3⟩:=ih (s++[p]) true (by simp only[Qc,List.length_singleton];omega)
    refine⟨r,h1,?_,h3⟩
    rw[h2];simp
  |false=>
   simp only[cond_false]
   cases hc:c !=0 with
   |true=>
    simp only[cond_true]
    refine tE (idxL_of hx) ?_
    try simp only[Pred.re_eq]
    refine tG (room_2000 (by rw[List.length_singleton];omega)) ?_
    obtain⟨r,h1,h2,h3⟩:=ih (s++[l[i]]) d (by simp only[Qc,List.length_singleton];omega)
    refine⟨r,h1,?_,h3⟩
    rw[h2];simp
   |false=>
    simp only[cond_false]
    obtain⟨r,h1,h2,h3⟩:=ih s d (by omega)
    refine⟨r,h1,?_,h3⟩
    rw[h2];simp
theorem insert_spec {n:Nat} (hn:600<n) {l:List Pred} {p:Pred} (hl:l.length<256) (hs:SS l) (hok:∀x∈l,OkP n x) (hp:OkP n p):ZH n (l,p)=some (insU p l):=by
 obtain⟨⟨r,d⟩,h1,h2,h3⟩:=ins_loop hn hl hok hp l.length 0 n [] false (by omega) (by omega) (mF _)
 rw[Qu,List.nil_append,insR_insU p l hs] at h2
 rw[ZH_eq]
 simp only[Pred.re_eq]
 refine bs h1 ?_
 have h3:r.length<=512:=h3
 cases d with
 |true=>
  show some r=_
  have h2:r++[]=insU p l:=h2
  rw[<-h2,QI]
 |false=>
  have h2:r++[p]=insU p l:=h2
  show (bif roomOK (r.length+1) 80 then some (r++[p]) else none)=_
  rw[room_2000 (by omega),cond_true,h2]
def insL (acc ys:List Pred):List Pred:=ys.foldl (fun a y=>insU y a) acc
theorem insL_ss:∀(ys acc:List Pred),SS acc->SS (insL acc ys)
 | [],_,h=>h
 |y::ys,acc,h=>insL_ss ys (insU y acc) (insU_ss y acc h)
theorem insL_mem (x:Pred):∀(ys acc:List Pred),x∈insL acc ys↔x∈acc\/x∈ys
 | [],acc=>by show x∈acc↔_;simp
 |y::ys,acc=>by
  show x∈insL (insU y acc) ys↔_
  rw[insL_mem x ys,insU_mem,P9]
  constructor
  .rintro ((h|h)|h)
   .exact .inr (.inl h)
   .exact .inl h
   .exact .inr (.inr h)
  .rintro (h|h|h)
   .exact .inl (.inr h)
   .exact .inl (.inl h)
   .exact .inr h
theorem insL_sz:∀(ys acc:List Pred),szL (insL acc ys)<=szL acc+szL ys
 | [],acc=>mF _
 |y::ys,acc=>by
  have h1:=insL_sz ys (insU y acc)
  have h2:=insU_sz y acc
  show szL (insL (insU y acc) ys)<=_
  simp only[szL];omega
theorem insL_app (acc ys zs:List Pred):insL acc (ys++zs)=insL (insL acc ys) zs:=List.foldl_append ..
theorem ok_sz {n:Nat} (hn:600<n) {l:List Pred} (h:szL l<=254):∀x∈l,OkP n x:=fun x hx=>by
 have:=szL_mem hx
 exact⟨by omega,by omega⟩
theorem sub_loop {n g:Nat} (hn:600<n) {x1 x21 y:Pred} {x20:Int} {r18:PUnit×Pred×Pred}:∀(k i m:Nat) (acc:List Pred),i+k=y.Subs.length->k<m->SS acc->szL acc+szL (y.Subs.drop i)<=254->y.Subs.length<256->
 QP_m_L30 n g x1 r18 x20 x21 y m (acc,(i:Int))=some (insL acc (y.Subs.drop i))
 |0,i,m,acc,hi,hm,_,_,_=>by
  obtain⟨m,rfl⟩:∃m',m=m'+1:=⟨m-1,by omega⟩
  have e:i=y.Subs.length:=by omega
  rw[QP_m_L30_s,dec_ge (by omega),cond_false,e,List.drop_length];rfl
 |k+1,i,m,acc,hi,hm,hs,hz,hl=>by
  obtain⟨m,rfl⟩:∃m',m=m'+1:=⟨m-1,by omega⟩
  have hlt:i<y.Subs.length:=by omega
  have hx:y.Subs[i]? =some y.Subs[i]:=Qh hlt
  rw[Qq hlt] at hz⊢
  simp only[szL] at hz
  have hal:=szL_len acc
  have hiz:=insU_sz y.Subs[i] acc
  rw[QP_m_L30_s,dec_of hx,cond_true]
  refine bs (idxL_of hx) ?_
  simp only[Pred.re_eq]
  refine bs (insert_spec hn (by omega) hs (ok_sz hn (by omega)) ⟨by omega,by omega⟩) ?_
  rw[wrap_succ (by omega)]
  exact sub_loop hn k (i+1) m _ (by omega) (by omega) (insU_ss _ _ hs) (by omega) hl
theorem abs_op (c:Int) (hc:c=2\/c=3):(absP c).Op≠c:=by
 rcases const_op (!decide (c=2)) with h|h<;>(unfold absP;rw[h];omega)
theorem abs_neu (c:Int):absP c≠neuP c:=by
 unfold absP neuP
 cases decide (c=2)
 .exact constP_ne (by decide)
 .exact constP_ne (by decide)
theorem abs_flat {c:Int} (hc:c=2\/c=3) {ys:List Pred} (h:∀y∈ys,NF y):absP c∈flatS c ys↔absP c∈ys:=by
 constructor
 .intro hz
  obtain⟨y,hy,hz⟩:=List.mem_flatMap.1 hz
  by_cases ho:y.Op=c
  .obtain⟨L,e,_,_,hT,_⟩:=(h y hy).of_op hc ho
   rw[flat1_op ho,e] at hz
   exact absurd rfl (hT _ hz _)
  .by_cases k:y=neuP c
   .rw[flat1_neu ho k] at hz;cases hz
   .rw[flat1_one ho k] at hz
    rw[Ql.1 hz];exact hy
 .intro hz
  exact List.mem_flatMap.2 ⟨_,hz,by rw[flat1_one (abs_op c hc) (abs_neu c)];exact Qa ..⟩
theorem norm_loop {n g:Nat} (hn:600<n) {p x21:Pred} (hc:p.Op=2\/p.Op=3) (hN:∀s∈p.Subs,QP_m n g s=some (nf s false)) (hl:p.Subs.length<256):∀(k i m:Nat) (acc:List Pred),i+k=p.Subs.length->k<m->SS acc->szL acc+szL (nfL (p.Subs.drop i) false)<=254->
 QP_m_L23 n g p ((),(neuP p.Op,absP p.Op)) m ((acc,(i:Int)),x21)=some (if absP p.Op∈nfL (p.Subs.drop i) false then .inr ((),absP p.Op) else .inl (insL acc (flatS p.Op (nfL (p.Subs.drop i) false)),x21))
 |0,i,m,acc,hi,hm,_,_=>by
  obtain⟨m,rfl⟩:∃m',m=m'+1:=⟨m-1,by omega⟩
  have e:i=p.Subs.length:=by omega
  rw[QP_m_L23_s,dec_ge (by omega),cond_false,e,List.drop_length,nfL,if_neg (by simp)]
  simp only[Pred.re_eq];rfl
 |k+1,i,m,acc,hi,hm,hs,hz=>by
  obtain⟨m,rfl⟩:∃m',m=m'+1:=⟨m-1,by omega⟩
  have hlt:i<p.Subs.length:=by omega
  have hx:p.Subs[i]? =some p.Subs[i]:=Qh hlt
  have hmem:p.Subs[i]∈p.Subs:=QM hlt
  have hnf:=nfNF p.Subs[i] false
  rw[Qq hlt,nfL] at hz⊢
  simp only[szL] at hz
  have hal:=szL_len acc
  rw[QP_m_L23_s,dec_of hx,cond_true]
  refine bs (idxL_of hx) ?_
  simp only[Pred.re_eq]
  refine bs (hN _ hmem) ?_
  rw[wrap_succ (by omega)]
  generalize hy:nf p.Subs[i] false=y at*
  have hoy:OkP n y:=⟨by omega,by omega⟩
  refine bs (ref_cmp (by omega) hoy (const_ok (by omega) _)) ?_
  have hyl:=szL_len y.Subs
  have hys:=szP_subs y
  by_cases ha:y=absP p.Op
  .have e:(cmpP y (absP p.Op)==(0:Int))=true:=by rw[ha,cmpP_self];rfl
   show (bif cmpP y (absP p.Op)==(0:Int) then _ else _)=_
   rw[e,cond_true,if_pos (by rw[ha];exact Qa ..)]
  .have e:(cmpP y (absP p.Op)==(0:Int))=false:=by
    cases h:(cmpP y (absP p.Op)==(0:Int))
    .rfl
    .exact absurd (cmpP_zero _ _ (by simpa using h)) ha
   have em:absP p.Op∈y::nfL (p.Subs.drop (i+1)) false↔absP p.Op∈nfL (p.Subs.drop (i+1)) false:=by
    rw[P9]
    exact⟨fun h=>h.resolve_left fun h=>ha h.symm,.inr⟩
   show (bif cmpP y (absP p.Op)==(0:Int) then _ else _)=_
   rw[e,cond_false]
   simp only[em]
   rw[flatS_cons,insL_app]
   by_cases ho:y.Op=p.Op
   .have e2:(y.Op==p.Op)=true:=by rw[ho];exact beq_self_eq_true _
    rw[e2,cond_true]
    have hS:=sub_loop (n:=n) (g:=g) hn (x1:=p) (x21:=x21) (y:=y) (x20:=(i:Int)) (r18:=((),(neuP p.Op,absP p.Op))) y.Subs.length 0 n acc (by omega) (by omega) hs (by rw[Qu];omega) (by omega)
    rw[Qu] at hS
    refine bs hS ?_
    have h1:=insL_sz y.Subs acc
    rw[flat1_op ho]
    exact norm_loop hn hc hN hl k (i+1) m _ (by omega) (by omega) (insL_ss _ _ hs) (by omega)
   .have e2:(y.Op==p.Op)=false:=by simpa using ho
    rw[e2,cond_false]
    refine bs (ref_cmp (by omega) hoy (const_ok (by omega) _)) ?_
    by_cases hk:y=neuP p.Op
    .have e3:(cmpP y (neuP p.Op) !=(0:Int))=false:=by rw[hk,cmpP_self];rfl
     show (bif cmpP y (neuP p.Op) !=(0:Int) then _ else _)=_
     rw[e3,cond_false,flat1_neu ho hk]
     exact norm_loop hn hc hN hl k (i+1) m acc (by omega) (by omega) hs (by omega)
    .have e3:(cmpP y (neuP p.Op) !=(0:Int))=true:=by
      cases h:(cmpP y (neuP p.Op) !=(0:Int))
      .exact absurd (cmpP_zero _ _ (by simpa using h)) hk
      .rfl
     show (bif cmpP y (neuP p.Op) !=(0:Int) then _ else _)=_
     rw[e3,cond_true,flat1_one ho hk]
     refine bs (insert_spec hn (by omega) hs (ok_sz hn (by omega)) hoy) ?_
     have h1:=insU_sz y acc
     exact norm_loop hn hc hN hl k (i+1) m (insU y acc) (by omega) (by omega) (insU_ss _ _ hs) (by omega)
theorem norm_join {n g:Nat} (hn:600<n) {p:Pred} (hc:p.Op=2\/p.Op=3) (hN:∀s∈p.Subs,QP_m n g s=some (nf s false)) (hl:p.Subs.length<256) (hz:szL (nfL p.Subs false)<=254):QP_m n (g+1) p=some (joinS p.Op (nfL p.Subs false)):=by
 rw[QP_m_eq]
 simp only[Pred.re_eq]
 have e1:(p.Op==(4:Int))=false:=by simp;omega
 have e2:(bif p.Op !=(2:Int) then p.Op !=(3:Int) else false)=false:=by rcases hc with h|h<;>rw[h]<;>rfl
 rw[e1,cond_false,e2,cond_false]
 refine bs (Not_spec n _) ?_
 refine bs (a:=((),(neuP p.Op,absP p.Op))) ?_ ?_
 .rcases hc with h|h<;>rw[h]<;>rfl
 have hL:=norm_loop (n:=n) (g:=g) hn (x21:=⟨(0:Int),[],(0:Int),(0:Int),[],[]⟩) hc hN hl p.Subs.length 0 n [] (by omega) (by omega) List.Pairwise.nil (by rw[Qu];simp only[szL];omega)
 rw[Qu] at hL
 refine bs hL ?_
 have hnf:=nfLNF p.Subs false
 have hf:=abs_flat hc hnf
 have e3:insL [] (flatS p.Op (nfL p.Subs false))=srtU (flatS p.Op (nfL p.Subs false)):=
  (srtU_of (insL_ss _ _ List.Pairwise.nil) fun x=>by rw[insL_mem];simp).symm
 rw[e3]
 unfold joinS
 by_cases ha:absP p.Op∈nfL p.Subs false
 .rw[if_pos ha,if_pos ((srtU_mem _ _).2 (hf.2 ha))];rfl
 .rw[if_neg ha,if_neg (fun h=>ha (hf.1 ((srtU_mem _ _).1 h)))]
  generalize srtU (flatS p.Op (nfL p.Subs false))=L
  show (bif (L.length:Int)==(0:Int) then some (neuP p.Op) else bif (L.length:Int)==(1:Int) then (idxL L (0:Int)).bind fun r=>some r else some ⟨p.Op,[],0,0,[],L⟩)=_
  match L with
  | []=>rfl
  | [x]=>rfl
  |x::y::L=>
   have h0:((((x::y::L).length:Nat):Int)==0)=false:=by simp;omega
   have h1:((((x::y::L).length:Nat):Int)==1)=false:=by simp;omega
   rw[h0,cond_false,h1,cond_false];rfl
theorem neg_loop {n g:Nat} {x:Pred} {op:Int} (hl:x.Subs.length<256):∀(k i m:Nat) (acc:List Pred),i+k=x.Subs.length->k<m->acc.length=i->
 QP_m_L9 n g x m ((i:Int),(op,([],((0:Int),((0:Int),([],acc))))))=some ((),(op,([],((0:Int),((0:Int),([],acc++(x.Subs.drop i).map notP))))))
 |0,i,m,acc,hi,hm,_=>by
  obtain⟨m,rfl⟩:∃m',m=m'+1:=⟨m-1,by omega⟩
  have e:i=x.Subs.length:=by omega
  rw[QP_m_L9_s,dec_ge (by omega),cond_false,e,List.drop_length,List.map_nil,QI]
 |k+1,i,m,acc,hi,hm,ha=>by
  obtain⟨m,rfl⟩:∃m',m=m'+1:=⟨m-1,by omega⟩
  have hlt:i<x.Subs.length:=by omega
  have hx:x.Subs[i]? =some x.Subs[i]:=Qh hlt
  rw[Qq hlt,Qd,QP_m_L9_s,dec_of hx,cond_true]
  refine bs (idxL_of hx) ?_
  simp only[Pred.re_eq]
  refine bs (Not_spec n _) ?_
  rw[wrap_succ (by omega)]
  show (bif roomOK (acc.length+1) 80 then _ else _)=_
  rw[room_2000 (by omega),cond_true]
  refine(neg_loop hl k (i+1) m (acc++[notP x.Subs[i]]) (by omega) (by omega) (by simp;omega)).trans ?_
  rw[Qt];rfl
theorem nfL_notP (l:List Pred):nfL (l.map notP) false=nfL l true:=by
 rw[nfL_map,nfL_map,QX]
 exact QZ fun x _=>nf_notP x false
theorem nf_op4 {x y:Pred} (h4:x.Op=4) (hy:x.Subs=[y]) (o:Bool):nf x o=nf y (!o):=by
 cases x with
 |mk op name a b s subs=>
  have h4:op=4:=h4
  have hy:subs=[y]:=hy
  subst h4
  subst hy
  rw[nf,if_pos rfl,nfH]
theorem ref_normal {n:Nat} (hn:600<n):∀(k:Nat) (x:Pred),szP x<=k->acc x->szP x<=100->
 (∀g,2*szP x+2<=g->QP_m n g x=some (nf x false))/\(∀q:Pred,q.Op=4->q.Subs=[x]->∀g,2*szP x+2<=g->QP_m n g q=some (nf x true))
 |0,x,hk,_,_=>by have:=szP_pos x;omega
 |k+1,x,hk,ha,hx=>by
  have hs:=szP_subs x
  have hlen:=szL_len x.Subs
  have ha':=(acc_iff x).1 ha
  have ih:∀y∈x.Subs,_:=fun y hy=>ref_normal hn k y (by have:=szL_mem hy;omega) (ha'.2 y hy) (by have:=szL_mem hy;omega)
  have hz:=fun o=>nfL_sz x.Subs o
  refine⟨fun g hg=>?_,fun q hq hqs g hg=>?_⟩
  .by_cases h4:x.Op=4
   .have hl:=ha'.1 h4
    obtain⟨y,hy⟩:∃y,x.Subs=[y]:=List.length_eq_one_iff.1 hl
    have hmem:y∈x.Subs:=by rw[hy];exact Qa ..
    have hsm:=szL_mem hmem
    have e:nf x false=nf y true:=nf_op4 h4 hy false
    rw[e]
    exact(ih y hmem).2 x h4 hy g (by omega)
   .obtain⟨g,rfl⟩:∃g',g=g'+1:=⟨g-1,by omega⟩
    by_cases h23:x.Op=2\/x.Op=3
    .have e:nf x false=joinS x.Op (nfL x.Subs false):=by
      cases x
      rw[nf,if_neg h4,if_pos h23,opS_false h23]
     rw[e]
     have:=hz false
     exact norm_join hn h23 (fun s hsm=>(ih s hsm).1 g (by have:=szL_mem hsm;omega)) (by omega) (by omega)
    .have h2:x.Op≠2:=fun e=>h23 (.inl e)
     have h3:x.Op≠3:=fun e=>h23 (.inr e)
     rw[nf_leaf h2 h3 h4,QP_m_eq]
     simp only[Pred.re_eq]
     have e1:(x.Op==(4:Int))=false:=by simpa using h4
     have e2:(bif x.Op !=(2:Int) then x.Op !=(3:Int) else false)=true:=by
      have:(x.Op !=(2:Int))=true:=by simpa using h2
      rw[this,cond_true];simpa using h3
     rw[e1,cond_false,e2,cond_true];rfl
  .obtain⟨g,rfl⟩:∃g',g=g'+2:=⟨g-2,by omega⟩
   have e1:(q.Op==(4:Int))=true:=by rw[hq];rfl
   have e0:idxL q.Subs (0:Int)=some x:=by rw[hqs];rfl
   rw[QP_m_eq]
   simp only[Pred.re_eq]
   rw[e1,cond_true]
   refine bs e0 ?_
   by_cases h4:x.Op=4
   .have hl:=ha'.1 h4
    obtain⟨y,hy⟩:∃y,x.Subs=[y]:=List.length_eq_one_iff.1 hl
    have hmem:y∈x.Subs:=by rw[hy];exact Qa ..
    have hsm:=szL_mem hmem
    have e:nf x true=nf y false:=nf_op4 h4 hy true
    have e3:(x.Op==(4:Int))=true:=by rw[h4];rfl
    have e4:idxL x.Subs (0:Int)=some y:=by rw[hy];rfl
    rw[e3,cond_true,e]
    refine bs e4 ?_
    refine bs ((ih y hmem).1 (g+1) (by omega)) rfl
   .have e3:(x.Op==(4:Int))=false:=by simpa using h4
    rw[e3,cond_false]
    by_cases h23:x.Op=2\/x.Op=3
    .have e2:(bif x.Op !=(2:Int) then x.Op !=(3:Int) else false)=false:=by rcases h23 with h|h<;>rw[h]<;>rfl
     rw[e2,cond_false]
     have hw:IntKind.wrap .i64 ((5:Int)-x.Op)=5-x.Op:=by rw[IntKind.wrap_i64];omega
     rw[hw]
     have hL:=neg_loop (n:=n) (g:=g+1) (x:=x) (op:=5-x.Op) (by omega) x.Subs.length 0 n [] (by omega) (by omega) rfl
     rw[Qu,List.nil_append] at hL
     refine bs hL ?_
     have e:nf x true=joinS (5-x.Op) (nfL (x.Subs.map notP) false):=by
      rw[nfL_notP]
      cases x
      rw[nf,if_neg h4,if_pos h23,opS_true h23]
     rw[e]
     have hJ:=norm_join (n:=n) (g:=g) hn (p:=⟨5-x.Op,[],0,0,[],x.Subs.map notP⟩) (by show 5-x.Op=2\/5-x.Op=3;omega) (fun s hsm=>by
      obtain⟨y,hy,rfl⟩:=Qp.1 hsm
      have:=szL_mem hy
      rw[nf_notP]
      exact(ih y hy).2 (notP y) rfl rfl g (by omega)) (by show (x.Subs.map notP).length<256;rw[Qi];omega) (by
      show szL (nfL (x.Subs.map notP) false)<=254
      rw[nfL_notP];have:=hz true;omega)
     exact bs hJ rfl
    .have h2:x.Op≠2:=fun e=>h23 (.inl e)
     have h3:x.Op≠3:=fun e=>h23 (.inr e)
     have e2:(bif x.Op !=(2:Int) then x.Op !=(3:Int) else false)=true:=by
      have:(x.Op !=(2:Int))=true:=by simpa using h2
      rw[this,cond_true];simpa using h3
     rw[nf_leaf h2 h3 h4,e2,cond_true]
     exact bs (Not_spec n _) rfl
theorem ref_Normal_spec {n:Nat} (hn:600<n) {p:Pred} (ha:acc p) (hp:szP p<=100):QP n p=some (nf p false):=by
 have e:QP n p=QP_m n n p:=by unfold QP;rfl
 rw[e]
 exact(ref_normal hn (szP p) p (mF _) ha hp).1 n (by omega)
theorem iB {U β:Type} {o:Option U} {f:U->Option β} {r:β} (h:o.bind f=some r):∃a,o=some a/\f a=some r:=iP.1 h
theorem iC {U:Type} {c:Bool} {a b:Option U} {r:U} (h:(bif c then a else b)=some r):(c=true/\a=some r)\/(c=false/\b=some r):=by
 cases c
 .exact .inr ⟨rfl,h⟩
 .exact .inl ⟨rfl,h⟩
theorem iS {U:Type} {a b:U} (h:some a=some b):a=b:=Qn h
def DefI (n:Nat) (x:List UInt8) (d:Def):Prop:=
 ((Go.Op.bytesLess d.Name x)||(d.Name==x))=false/\((d.Kind=1/\ -(2^40)<=d.Lo/\d.Hi<=2^40/\d.Lo<=d.Hi/\d.Words=[])\/(d.Kind=2/\d.Lo=0/\d.Hi=0/\Zj n d.Words=some (0:Int)))
theorem def_inv {n:Nat} {d:Def} {x:List UInt8} (h:Xo n (d,x)=some (0:Int)):DefI n x d:=by
 have h:=(Xo_eq n d x).symm.trans h
 obtain⟨b,hb,h⟩:=iB h
 rcases iC h with ⟨_,h⟩| ⟨_,h⟩
 .exact absurd (iS h) (by decide)
 rcases iC h with ⟨_,h⟩| ⟨hname,h⟩
 .exact absurd (iS h) (by decide)
 refine⟨hname,?_⟩
 rcases iC h with ⟨hk,h⟩| ⟨hk,h⟩
 .have hk:d.Kind=1:=by simpa using hk
  rcases iC h with ⟨_,h⟩| ⟨hr,h⟩
  .exact absurd (iS h) (by decide)
  rcases iC h with ⟨_,h⟩| ⟨hw,h⟩
  .exact absurd (iS h) (by decide)
  refine .inl ⟨hk,?_⟩
  have a1:¬d.Lo< (-1099511627776:Int):=fun k=>by rw[decide_eq_true k] at hr;cases hr
  rw[decide_eq_false a1,cond_false] at hr
  have a2:¬d.Hi> (1099511627776:Int):=fun k=>by rw[decide_eq_true k] at hr;cases hr
  rw[decide_eq_false a2,cond_false] at hr
  have a3:=of_decide_eq_false hr
  have a4:=of_decide_eq_false hw
  refine⟨by omega,by omega,by omega,?_⟩
  exact QB (by omega)
 .rcases iC h with ⟨hk2,h⟩| ⟨hk2,h⟩
  .have hk2:d.Kind=2:=by simpa using hk2
   rcases iC h with ⟨_,h⟩| ⟨hr,h⟩
   .exact absurd (iS h) (by decide)
   refine .inr ⟨hk2,?_⟩
   obtain⟨e,he,h⟩:=iB (U:=Int) h
   have he0:e=0:=iS h
   subst he0
   have a1:d.Lo=0:=by
    cases hl:d.Lo !=(0:Int) with
    |true=>rw[hl] at hr;cases hr
    |false=>simpa using hl
   have a2:d.Hi=0:=by
    rw[a1] at hr
    cases hl:d.Hi !=(0:Int) with
    |true=>rw[hl] at hr;cases hr
    |false=>simpa using hl
   exact⟨a1,a2,he⟩
  .exact absurd (iS h) (by decide)
def ChD (n:Nat):List UInt8->List Def->Prop
 |_,[]=>True
 |x,d::ds=>DefI n x d/\ChD n d.Name ds
theorem check_L {n:Nat} {s:Schema} (hb:s.Defs.length<2^62):∀(k i m:Nat) (x:List UInt8) (r:PUnit⊕Int),i+k=s.Defs.length->Zu_L7 n s m (x,(i:Int))=some r->(r= .inl ()/\ChD n x (s.Defs.drop i))\/∃e,r= .inr e/\e≠0:=by
 intro k
 induction k with
 |zero=>
  intro i m x r hi h
  cases m with
  |zero=>have h:=(Zu_L7_0 ..).symm.trans h;cases h
  |succ m=>
   obtain rfl:i=s.Defs.length:=by omega
   have h:=(Zu_L7_s ..).symm.trans h
   rw[dec_end,cond_false] at h
   refine .inl ⟨(iS h).symm,?_⟩
   rw[List.drop_length];trivial
 |succ k ih=>
  intro i m x r hi h
  cases m with
  |zero=>have h:=(Zu_L7_0 ..).symm.trans h;cases h
  |succ m=>
   have hlt:i<s.Defs.length:=by omega
   have hx:s.Defs[i]? =some s.Defs[i]:=Qh hlt
   have h:=(Zu_L7_s ..).symm.trans h
   rw[dec_of hx,cond_true] at h
   obtain⟨d,hd,h⟩:=iB h
   have e1:=(idxL_of hx).symm.trans hd
   have e1:=iS e1
   subst e1
   obtain⟨e,he,h⟩:=iB (U:=Int) h
   rcases iC h with ⟨h0,h⟩| ⟨h0,h⟩
   .exact .inr ⟨e,(iS h).symm,by simpa using h0⟩
   .have h0:e=0:=by simpa using h0
    subst h0
    obtain⟨d2,hd2,h⟩:=iB h
    have e2:=iS ((idxL_of hx).symm.trans hd2)
    subst e2
    rw[wrap_succ (by omega)] at h
    rcases ih (i+1) m _ r (by omega) h with ⟨h1,h2⟩|h1
    .refine .inl ⟨h1,?_⟩
     rw[Qq hlt]
     exact⟨def_inv he,h2⟩
    .exact .inr h1
structure SchG (n:Nat) (s:Schema):Prop where
 few:s.Defs.length<=16
 chain:ChD n [] s.Defs
theorem Check_inv {n:Nat} {s:Schema} (hb:s.Defs.length<2^62) (h:Zu n s=some (0:Int)):SchG n s:=by
 have h:=(Zu_eq n s).symm.trans h
 obtain⟨b,_,h⟩:=iB h
 rcases iC h with ⟨_,h⟩| ⟨_,h⟩
 .exact absurd (iS h) (by decide)
 rcases iC h with ⟨_,h⟩| ⟨hl,h⟩
 .exact absurd (iS h) (by decide)
 obtain⟨r,hr,h⟩:=iB h
 have hl:=of_decide_eq_false hl
 rcases check_L hb s.Defs.length 0 n [] r (by omega) hr with ⟨_,h2⟩| ⟨e,rfl,he⟩
 .exact⟨by omega,h2⟩
 .exact absurd (iS h) he
theorem schema_inv {n:Nat} {s:Schema} (hb:s.Defs.length<2^62) (h:Xv n s=some true):SchG n s:=by
 have h:=(Xv_eq n s).symm.trans h
 obtain⟨b,_,h⟩:=iB h
 obtain⟨e,he,h⟩:=iB (U:=Int) h
 have h:=iS h
 cases b with
 |false=>cases h
 |true=>
  have h:(e==(0:Int))=true:=h
  have h0:e=0:=by simpa using h
  subst h0
  exact Check_inv hb he
theorem ChD.mem {n:Nat}:∀{l:List Def} {x:List UInt8} {d:Def},ChD n x l->d∈l->∃y,DefI n y d
 |d'::l,x,d,h,hd=>by
  rcases P9.1 hd with rfl|hd
  .exact⟨x,h.1⟩
  .exact h.2.mem hd
theorem words_le {n:Nat} {l:List (List UInt8)} (h:Zj n l=some (0:Int)):1<=l.length/\l.length<=50:=by
 have h:=(Zj_eq n l).symm.trans h
 rcases iC h with ⟨_,h⟩| ⟨hl,h⟩
 .exact absurd (iS h) (by decide)
 .have a1:¬(l.length:Int)< (1:Int):=fun k=>by rw[decide_eq_true k] at hl;cases hl
  rw[decide_eq_false a1,cond_false] at hl
  have:=of_decide_eq_false hl
  omega
theorem SchG.defs {n:Nat} {s:Schema} (h:SchG n s) (hn:400<n) {d:Def} (hd:d∈s.Defs):DefG n d:=by
 obtain⟨y,_,h1|h1⟩:=h.chain.mem hd
 .obtain⟨k,a,b,c,w⟩:=h1
  exact⟨.inl k,a,c,b,by rw[w];decide,by rw[w];show 0<n;omega⟩
 .obtain⟨k,a,b,w⟩:=h1
  have:=words_le w
  exact⟨.inr k,by omega,by omega,by omega,by omega,by omega⟩
def isN (nm:List UInt8) (x:Pred):Bool:=bif decide (x.Op>=(5:Int)) then x.Name==nm else false
def tabS (s:Schema) (l:List Pred):List (List (Option Attr)):=(s.Defs.filter fun d=>l.any (isN d.Name)).map fun d=>cellO d l
theorem table_R {n:Nat} {s:Schema} {p:Pred} {i:Int} {d:Def} {cs:List filter_cell} (hc:Zt n (d,p)=some cs):∀(l:List Pred) (t:List (List filter_cell)),t.length<2^20->Zq_R7 n s p i d l ((),t)=some (if l.any (isN d.Name)=true then .inr ((),t++[cs]) else .inl ((),t))
 | [],t,_=>Zq_R7_0 ..
 |x::l,t,ht=>by
  rw[Zq_R7_s]
  change (bif isN d.Name x then _ else _)=_
  rw[List.any_cons]
  cases hx:isN d.Name x with
  |true=>
   rw[cond_true]
   refine bs (show Zt n (d,p.re)=some cs by rw[Pred.re_eq];exact hc) ?_
   refine(show (bif roomOK (t.length+1) 24 then _ else none)=_ from ?_)
   rw[roomS (by omega) (by omega)];rfl
  |false=>rw[cond_false,table_R hc l t ht];rfl
theorem table_L {n:Nat} (hn:400<n) {s:Schema} {p:Pred} (hd:∀d∈s.Defs,DefG n d) (h:szP p<=120) (hb:s.Defs.length<=16):∀(k i m:Nat) (t:List (List filter_cell)),i+k=s.Defs.length->k<m->t.length<=i->
 Zq_L3 n s p m ((i:Int),t)=some ((),t++((s.Defs.drop i).filter fun d=>(pre p).any (isN d.Name)).map fun d=>(cellO d (pre p)).map toF):=by
 intro k
 induction k with
 |zero=>
  intro i m t hi hm _
  obtain⟨m,rfl⟩:∃m',m=m'+1:=⟨m-1,by omega⟩
  obtain rfl:i=s.Defs.length:=by omega
  rw[Zq_L3_s,dec_end,cond_false,List.drop_length];simp
 |succ k ih=>
  intro i m t hi hm ht
  obtain⟨m,rfl⟩:∃m',m=m'+1:=⟨m-1,by omega⟩
  have hlt:i<s.Defs.length:=by omega
  have hx:s.Defs[i]? =some s.Defs[i]:=Qh hlt
  have hc:=fcells_spec hn (hd _ (Qw hx)) h
  rw[Zq_L3_s,dec_of hx,cond_true,Qq hlt,wrap_succ (by omega)]
  refine bs (idxL_of hx) (bs (Xe_eq n _) ?_)
  generalize s.Defs[i]=d at*
  show Option.bind ((partsO p.re.re).bind _) _=_
  rw[Pred.re_eq,Pred.re_eq,partsO_some (by omega),Option.bind_some]
  refine bs (table_R hc (pre p) t (by omega)) ?_
  cases ha:(pre p).any (isN d.Name) with
  |true=>
   rw[if_pos rfl]
   show Zq_L3 n s p m (((i+1:Nat):Int),t++[(cellO d (pre p)).map toF])=_
   rw[ih (i+1) m _ (by omega) (by omega) (by rw[Qc,List.length_singleton];omega),List.filter_cons,if_pos ha,Qd,Qt]
   rfl
  |false=>
   rw[if_neg (by simp)]
   show Zq_L3 n s p m (((i+1:Nat):Int),t)=_
   rw[ih (i+1) m _ (by omega) (by omega) (by omega),List.filter_cons,if_neg (by rw[ha];simp)]
theorem ftable_spec {n:Nat} (hn:400<n) {s:Schema} {p:Pred} (hd:∀d∈s.Defs,DefG n d) (h:szP p<=120) (hb:s.Defs.length<=16):Zq n (s,p)=some ((tabS s (pre p)).map (List.map toF)):=by
 rw[Zq_eq]
 refine bs (table_L hn hd h hb s.Defs.length 0 n [] (by omega) (by omega) (mF _)) ?_
 unfold tabS
 rw[QX];rfl
theorem named_L {n:Nat} {l:List Pred} {nm:List UInt8} (hb:l.length<2^62):∀(k i m:Nat),i+k=l.length->k<m->ZQ_L2 n l nm m (i:Int)=some (if (l.drop i).any (isN nm)=true then .inr true else .inl ()):=by
 intro k
 induction k with
 |zero=>
  intro i m hi hm
  obtain⟨m,rfl⟩:∃m',m=m'+1:=⟨m-1,by omega⟩
  obtain rfl:i=l.length:=by omega
  rw[ZQ_L2_s,dec_end,cond_false,List.drop_length];rfl
 |succ k ih=>
  intro i m hi hm
  obtain⟨m,rfl⟩:∃m',m=m'+1:=⟨m-1,by omega⟩
  have hlt:i<l.length:=by omega
  have hx:l[i]? =some l[i]:=Qh hlt
  have he:=idxL_of hx
  have ih':=ih (i+1) m (by omega) (by omega)
  rw[ZQ_L2_s,dec_of hx,cond_true,Qq hlt,wrap_succ (by omega),List.any_cons]
  generalize l[i]=x at*
  refine bs he ?_
  unfold isN at*
  cases h5:decide (x.Op>=(5:Int)) with
  |false=>
   rw[whenO_f,Option.bind_some,cond_false];exact ih'
  |true=>
   rw[whenO_t]
   refine bs he ?_
   rw[cond_true]
   cases hn:x.Name==nm with
   |false=>rw[cond_false];exact ih'
   |true=>rfl
theorem named_spec {n:Nat} {l:List Pred} {nm:List UInt8} (hb:l.length<2^62) (hn:l.length<n):ZQ n (l,nm)=some (l.any (isN nm)):=by
 rw[ZQ_eq]
 refine bs (named_L hb l.length 0 n (by omega) hn) ?_
 rw[Qu]
 cases l.any (isN nm)<;>rfl
theorem rtable_L {n:Nat} (hn:400<n) {s:Schema} {l:List Pred} (hd:∀d∈s.Defs,DefG n d) (h:l.length<=120) (hb:s.Defs.length<=16):∀(k i m:Nat) (t:List (List ref17_Cell)),i+k=s.Defs.length->k<m->t.length<=i->
 ZK_L4 n s l m (t,(i:Int))=some (t++((s.Defs.drop i).filter fun d=>l.any (isN d.Name)).map fun d=>(cellO d l).map toR):=by
 intro k
 induction k with
 |zero=>
  intro i m t hi hm _
  obtain⟨m,rfl⟩:∃m',m=m'+1:=⟨m-1,by omega⟩
  obtain rfl:i=s.Defs.length:=by omega
  rw[ZK_L4_s,dec_end,cond_false,List.drop_length];simp
 |succ k ih=>
  intro i m t hi hm ht
  obtain⟨m,rfl⟩:∃m',m=m'+1:=⟨m-1,by omega⟩
  have hlt:i<s.Defs.length:=by omega
  have hx:s.Defs[i]? =some s.Defs[i]:=Qh hlt
  have hc:=rcells_spec hn (hd _ (Qw hx)) h
  have he:=idxL_of hx
  rw[ZK_L4_s,dec_of hx,cond_true,Qq hlt,wrap_succ (by omega)]
  generalize s.Defs[i]=d at*
  refine bs he (bs (named_spec (by omega) (by omega)) ?_)
  cases ha:l.any (isN d.Name) with
  |true=>
   rw[cond_true]
   refine bs he (bs hc ?_)
   refine(show (bif roomOK (t.length+1) 24 then _ else none)=_ from ?_)
   rw[roomS (by omega) (by omega),cond_true,ih (i+1) m _ (by omega) (by omega) (by rw[Qc,List.length_singleton];omega),List.filter_cons,if_pos ha,Qd,Qt]
   rfl
  |false=>rw[cond_false,ih (i+1) m _ (by omega) (by omega) (by omega),List.filter_cons,if_neg (by rw[ha];simp)]
theorem rtable_spec {n:Nat} (hn:400<n) {s:Schema} {p:Pred} (hd:∀d∈s.Defs,DefG n d) (h:szP p<=120) (hb:s.Defs.length<=16):ZK n (s,p)=some ((tabS s (pre p)).map (List.map toR)):=by
 rw[ZK_eq]
 refine bs (show Zc n p.re=some (pre p) by rw[Pred.re_eq,Zc_spec (by omega) (by omega),QJ (by rw[pre_len];omega)]) ?_
 refine bs (rtable_L hn hd (by rw[pre_len];exact h) hb s.Defs.length 0 n [] (by omega) (by omega) (mF _)) ?_
 unfold tabS
 rw[QX];rfl
def cntL:Int->List Nat->Int
 |c,[]=>c
 |c,k::ks=>if c*k>4096 then 4097 else cntL (c*k) ks
theorem mul_small {c:Int} {k:Nat} (h0:0<=c) (h1:c<=4096) (hk:k<2^30):0<=c*k/\c*k<=4096*2^30:=by
 have a:c*(k:Int)<=4096*(k:Int):=Int.mul_le_mul_of_nonneg_right h1 (by omega)
 have b:0<=c*(k:Int):=Int.mul_nonneg h0 (by omega)
 omega
theorem fcount_L {n:Nat} {t:List (List filter_cell)} (hb:t.length<2^62) (ht:∀l∈t,l.length<2^30):∀(k i m:Nat) (c:Int),i+k=t.length->k<m->0<=c->c<=4096->∃r,ZP_L3 n t m (c,(i:Int))=some r/\Sum.elim id id r=cntL c ((t.drop i).map List.length):=by
 intro k
 induction k with
 |zero=>
  intro i m c hi hm _ _
  obtain⟨m,rfl⟩:∃m',m=m'+1:=⟨m-1,by omega⟩
  obtain rfl:i=t.length:=by omega
  rw[ZP_L3_s,dec_end,cond_false,List.drop_length];exact⟨_,rfl,rfl⟩
 |succ k ih=>
  intro i m c hi hm h0 h1
  obtain⟨m,rfl⟩:∃m',m=m'+1:=⟨m-1,by omega⟩
  have hlt:i<t.length:=by omega
  have hx:t[i]? =some t[i]:=Qh hlt
  obtain⟨m1,m2⟩:=mul_small h0 h1 (ht _ (Qw hx))
  rw[ZP_L3_s,dec_of hx,cond_true,Qq hlt,wrap_succ (by omega),Qd]
  refine tE (idxL_of hx) ?_
  have hw:IntKind.wrap .i64 (c*((t[i].length:Nat):Int))=c*((t[i].length:Nat):Int):=by rw[IntKind.wrap_i64];omega
  rw[hw]
  unfold cntL
  by_cases hc:c*((t[i].length:Nat):Int)>4096
  .rw[decide_eq_true hc,cond_true,if_pos hc];exact⟨_,rfl,rfl⟩
  .rw[decide_eq_false hc,cond_false,if_neg hc]
   exact ih (i+1) m _ (by omega) (by omega) m1 (by omega)
theorem fcount_spec {n:Nat} {t:List (List filter_cell)} (hb:t.length<2^62) (hn:t.length<n) (ht:∀l∈t,l.length<2^30):ZP n t=some (cntL 1 (t.map List.length)):=by
 obtain⟨r,h1,h2⟩:=fcount_L (n:=n) hb ht t.length 0 n 1 (by omega) hn (by omega) (by omega)
 rw[ZP_eq]
 refine bs h1 ?_
 rw[Qu] at h2
 rw[<-h2]
 cases r<;>rfl
theorem rcount_L {n:Nat} {t:List (List ref17_Cell)} (hb:t.length<2^62) (ht:∀l∈t,l.length<2^30):∀(k i m:Nat) (c:Int),i+k=t.length->k<m->0<=c->c<=4096->∃r,ZR_L4 n t m (c,(i:Int))=some r/\Sum.elim id id r=cntL c ((t.drop i).map List.length):=by
 intro k
 induction k with
 |zero=>
  intro i m c hi hm _ _
  obtain⟨m,rfl⟩:∃m',m=m'+1:=⟨m-1,by omega⟩
  obtain rfl:i=t.length:=by omega
  rw[ZR_L4_s,dec_end,cond_false,List.drop_length];exact⟨_,rfl,rfl⟩
 |succ k ih=>
  intro i m c hi hm h0 h1
  obtain⟨m,rfl⟩:∃m',m=m'+1:=⟨m-1,by omega⟩
  have hlt:i<t.length:=by omega
  have hx:t[i]? =some t[i]:=Qh hlt
  obtain⟨m1,m2⟩:=mul_small h0 h1 (ht _ (Qw hx))
  rw[ZR_L4_s,dec_of hx,cond_true,Qq hlt,wrap_succ (by omega),Qd]
  refine tE (idxL_of hx) ?_
  have hw:IntKind.wrap .i64 (c*((t[i].length:Nat):Int))=c*((t[i].length:Nat):Int):=by rw[IntKind.wrap_i64];omega
  rw[hw]
  unfold cntL
  by_cases hc:c*((t[i].length:Nat):Int)>4096
  .rw[decide_eq_true hc,cond_true,if_pos hc];exact⟨_,rfl,rfl⟩
  .rw[decide_eq_false hc,cond_false,if_neg hc]
   exact ih (i+1) m _ (by omega) (by omega) m1 (by omega)
theorem cellO_len {n:Nat} {d:Def} {l:List Pred} (hd:DefG n d) (h:l.length<=120):(cellO d l).length<2^30:=by
 have h1:=numS_len d l
 have h2:(wordS d l).length<=d.Words.length:=wgo_len _ _ _
 have h3:=hd.words
 unfold cellO
 rw[List.length_cons]
 split
 .rw[Qi];omega
 .rw[Qi];omega
theorem tabS_len (s:Schema) (l:List Pred):(tabS s l).length<=s.Defs.length:=by
 unfold tabS
 rw[Qi]
 exact List.length_filter_le _ _
theorem tabS_cells {n:Nat} {s:Schema} {l:List Pred} (hd:∀d∈s.Defs,DefG n d) (h:l.length<=120) {c:List (Option Attr)} (hc:c∈tabS s l):c.length<2^30:=by
 unfold tabS at hc
 obtain⟨d,hd',rfl⟩:=Qp.1 hc
 exact cellO_len (hd d (List.mem_filter.1 hd').1) h
theorem fCells_spec {n:Nat} (hn:400<n) {s:Schema} {p:Pred} (hs:SchG n s) (h:szP p<=120):XE n (s,p)=some (cntL 1 ((tabS s (pre p)).map List.length)):=by
 have hd:=fun d hd=>hs.defs hn (d:=d) hd
 have hl:=tabS_len s (pre p)
 have hf:=hs.few
 rw[XE_eq]
 refine bs (show Zq n (s,p.re)=_ by rw[Pred.re_eq];exact ftable_spec hn hd h hs.few) ?_
 refine bs (fcount_spec (by rw[Qi];omega) (by rw[Qi];omega) fun c hc=>?_) ?_
 .obtain⟨c',hc',rfl⟩:=Qp.1 hc
  rw[Qi]
  exact tabS_cells hd (by rw[pre_len];exact h) hc'
 .rw[QX]
  have:(List.length∘List.map toF)=List.length:=by funext x;simp
  rw[this]
theorem rCells_spec {n:Nat} (hn:400<n) {s:Schema} {p:Pred} (hs:SchG n s) (h:szP p<=120):ZR n (s,p)=some (cntL 1 ((tabS s (pre p)).map List.length)):=by
 have hd:=fun d hd=>hs.defs hn (d:=d) hd
 have hl:=tabS_len s (pre p)
 have hf:=hs.few
 rw[ZR_eq]
 refine bs (show ZK n (s,p.re)=_ by rw[Pred.re_eq];exact rtable_spec hn hd h hs.few) ?_
 obtain⟨r,h1,h2⟩:=rcount_L (n:=n) (t:=(tabS s (pre p)).map (List.map toR)) (by rw[Qi];omega) (fun c hc=>by
  obtain⟨c',hc',rfl⟩:=Qp.1 hc
  rw[Qi]
  exact tabS_cells hd (by rw[pre_len];exact h) hc') _ 0 n 1 (Qz _) (by rw[Qi];omega) (by omega) (by omega)
 refine bs h1 ?_
 rw[Qu,QX] at h2
 have:(List.length∘List.map toR)=List.length:=by funext x;simp
 rw[this] at h2
 rw[<-h2]
 cases r<;>rfl
def findD (s:Schema) (x:List UInt8):Int:=match s.Defs.findIdx? (fun d=>d.Name==x) with
 |some i=>(i:Int)
 |none=>-1
theorem ZN_spec {n:Nat} {s:Schema} {x:List UInt8} (h:s.Defs.length<n) (hb:s.Defs.length<2^62):ZN n (s,x)=some (findD s x):=by
 have:=loop_ix (L:=fun m i=>ZN_L2 n s x m i) (l:=s.Defs) (fun d i r=>bif d.Name==x then some (.inr (i:Int)) else r) (some (.inl ()))
  (fun m i d hd=>by
    have hlt:=lt_of_get hd
    rw[ZN_L2_s,dec_of hd,idxL_of hd,wrap_succ (by omega)];rfl)
  (fun m=>by rw[ZN_L2_s,dec_end];rfl) h
 rw[ZN_eq,this,foldI_find (fun d:Def=>d.Name==x) (fun i=>(Sum.inr (i:Int):PUnit⊕Int)) (.inl ())]
 unfold findD
 cases s.Defs.findIdx? (fun d=>d.Name==x) with
 |none=>rfl
 |some j=>simp;rfl
theorem Xz_spec (n:Nat) (p:Pred):Xz n p=some (formS p):=by
 obtain⟨op,name,a,b,s,subs⟩:=p
 rw[Xz_eq]
 simp only[len_pos,len_zero]
 have key:(bif bif bif bif decide (op< (5:Int)) then decide (name≠[]) else false then true else bif op !=(6:Int) then bif a !=(0:Int) then true else b !=(0:Int) else false then true else bif op !=(7:Int) then decide (s≠[]) else false then
  some false
  else
   bif decide (a>b) then
    some false
   else
    bif bif op==(2:Int) then true else op==(3:Int) then
     some (decide (subs≠[]))
    else
     bif op==(4:Int) then
      some ((subs.length:Int)==(1:Int))
     else
      some (decide (subs=[])))=some (formS ⟨op,name,a,b,s,subs⟩):=by
  unfold formS
  dsimp only
  by_cases c1:(op<5/\name≠[])\/(op≠6/\(a≠0\/b≠0))\/(op≠7/\s≠[])
  .rw[if_pos c1]
   have:(bif bif bif decide (op< (5:Int)) then decide (name≠[]) else false then true else bif op !=(6:Int) then bif a !=(0:Int) then true else b !=(0:Int) else false then true else bif op !=(7:Int) then decide (s≠[]) else false)=true:=by
    simp only[Bool.cond_true_right,Bool.cond_false_right,Bool.cond_true_left,QS,P6,decide_eq_true_iff,bne_iff_ne]
    rcases c1 with c|c|c
    .exact .inl (.inl c)
    .exact .inl (.inr c)
    .exact .inr c
   rw[this];rfl
  .rw[if_neg c1]
   have:(bif bif bif decide (op< (5:Int)) then decide (name≠[]) else false then true else bif op !=(6:Int) then bif a !=(0:Int) then true else b !=(0:Int) else false then true else bif op !=(7:Int) then decide (s≠[]) else false)=false:=by
    rw[Bool.eq_false_iff]
    intro h
    simp only[Bool.cond_true_right,Bool.cond_false_right,Bool.cond_true_left,QS,P6,decide_eq_true_iff,bne_iff_ne] at h
    rcases h with (h|h)|h
    .exact c1 (.inl h)
    .exact c1 (.inr (.inl h))
    .exact c1 (.inr (.inr h))
   rw[this,cond_false]
   by_cases c2:a>b
   .rw[if_pos c2,decide_eq_true c2];rfl
   .rw[if_neg c2,decide_eq_false c2,cond_false]
    by_cases c3:op=2\/op=3
    .rw[if_pos c3]
     have:(bif op==(2:Int) then true else op==(3:Int))=true:=by rcases c3 with rfl|rfl<;>rfl
     rw[this];rfl
    .rw[if_neg c3]
     have:(bif op==(2:Int) then true else op==(3:Int))=false:=by
      rw[Bool.eq_false_iff];intro h;simp at h;exact c3 h
     rw[this,cond_false]
     by_cases c4:op=4
     .rw[if_pos c4,c4]
      show some _=some _
      congr 1
      rw[Bool.eq_iff_iff];simp;omega
     .rw[if_neg c4]
      have:(op==(4:Int))=false:=by simpa using c4
      rw[this];rfl
 exact key
theorem ZE_spec {n:Nat} {s:Schema} {p:Pred} (hn:szP p<n) (hp:szP p<2^62) (hd:s.Defs.length<n) (hdb:s.Defs.length<2^62) (hk:1000<n):
 ZE n (s,p)=some (if ((pre p).take 1000).length>64 then 2 else (checkL s ((pre p).take 1000)).getD 0):=by
 generalize hl:(pre p).take 1000=l
 have hlen:l.length<=1000:=by rw[<-hl,Qs];omega
 have:=loop_ix (L:=fun m i=>ZE_L5 n s l m i) (l:=l) (fun x _ r=>match checkP s x with|some e=>some (Sum.inr e:PUnit⊕Int)|none=>r) (some (.inl ()))
  (fun m i x hx=>by
    have hlt:=lt_of_get hx
    show ZE_L5 n s l (m+1) (i:Int)=_
    rw[ZE_L5_s,dec_of hx,idxL_of hx,wrap_succ (by omega)]
    simp only[cond_true,Option.bind_some,Pred.re_eq]
    rw[Xz_spec,ZN_spec hd hdb]
    unfold checkP
    by_cases c1:x.Op<1\/x.Op>7
    .rw[if_pos c1]
     have:(bif decide (x.Op< (1:Int)) then true else decide (x.Op> (7:Int)))=true:=by
      rcases c1 with c|c
      .rw[decide_eq_true c];rfl
      .rw[decide_eq_true c];cases decide (x.Op<1)<;>rfl
     rw[this];rfl
    .rw[if_neg c1]
     have:(bif decide (x.Op< (1:Int)) then true else decide (x.Op> (7:Int)))=false:=by
      rw[decide_eq_false (by omega),decide_eq_false (by omega)];rfl
     rw[this,cond_false]
     cases hform:formS x
     .rw[if_pos rfl];rfl
     .rw[if_neg (by simp)]
      show (bif !true then some (.inr (3:Int)) else bif decide (x.Op< (5:Int)) then _ else _)=_
      by_cases c2:x.Op<5
      .rw[if_pos c2,decide_eq_true c2];rfl
      .rw[if_neg c2,decide_eq_false c2]
       have hg:=get_find (fun d:Def=>d.Name==x.Name) s.Defs
       rw[<-hg]
       rw[Bool.not_true,cond_false,cond_false]
       show Option.bind (some (findD s x.Name)) _=_
       rw[Option.bind_some]
       unfold findD
       cases hf:s.Defs.findIdx? (fun d=>d.Name==x.Name) with
       |none=>rfl
       |some j=>
        obtain⟨hj,_,_⟩:=List.findIdx?_eq_some_iff_getElem.1 hf
        have hi:idxL s.Defs ((j:Nat):Int)=some s.Defs[j]:=by rw[idxL_nat,Qh hj]
        dsimp only
        rw[Qh hj,hi]
        dsimp only
        have e:decide (((j:Nat):Int)< (0:Int))=false:=by simp
        rw[e,cond_false]
        generalize s.Defs[j]=d
        have o:x.Op=5\/x.Op=6\/x.Op=7:=by omega
        by_cases k1:d.Kind=1<;>by_cases k2:d.Kind=2<;>rcases o with o|o|o<;>simp[o,k1,k2,whenO]<;>first
         | (have h1:(d.Kind !=(1:Int))=true:=bne_iff_ne.2 (by omega);rw[h1];rfl)
         | (have h2:(d.Kind !=(2:Int))=true:=bne_iff_ne.2 (by omega);rw[h2];rfl))
  (fun m=>by
    show ZE_L5 n s l (m+1) (l.length:Int)=_
    rw[ZE_L5_s,dec_end];rfl) (show l.length<n by omega)
 have this':ZE_L5 n s l n (0:Int)=_:=this
 rw[ZE_eq,Pred.re_eq,Zc_spec hn hp,hl]
 show (bif decide ((l.length:Int)> (64:Int)) then some (2:Int) else _)=_
 by_cases c:l.length>64
 .rw[if_pos c,decide_eq_true (by omega)];rfl
 .rw[if_neg c,decide_eq_false (by omega),cond_false,this']
  refine bs (foldI_first (checkP s) l 0) ?_
  rw[checkL_eq]
  cases l.findSome? (checkP s)<;>rfl
theorem law35 {n:Nat} {s:Schema} {x:Pred} (hs:SmallS s n) (hx:6*szP x<n) (hx2:szP x<2^62) (hn:2000<n):XF n (s,x)=some true:=by
 rw[XF_eq]
 simp only[Pred.re_eq]
 obtain⟨b1,h1⟩:=schema_total hs (by omega)
 obtain⟨b2,h2⟩:=Zd_total (n:=n) (p:=x) (k:=100) (by omega) hx2
 have hsan:Xw n ()=some true:=Xw_eq n ()
 have hC:=Zx_spec (n:=n) (s:=s) (p:=x) hx2 hs.1 hs.2.1
 have hR:=ZE_spec (n:=n) (s:=s) (p:=x) (by omega) hx2 hs.1 hs.2.1 (by omega)
 refine bs h1 (bs h2 ?_)
 cases hc:(bif !b1 then true else !b2)
 case true=>
  show (bif true then _ else _)=_
  rw[cond_true]
  exact bs hsan rfl
 case false=>
  have hb1:b1=true:=by cases b1<;>first|rfl|cases hc
  subst hb1
  have hS:=schema_inv hs.2.1 h1
  show (bif false then _ else _)=_
  rw[cond_false]
  refine bs (o:=Zx n (s,x)) hC (bs (o:=ZE n (s,x)) hR ?_)
  generalize hce:(if ((pre x).take 1000).length>64 then (2:Int) else (checkL s ((pre x).take 1000)).getD 0)=e
  have e1:(e !=e)=false:=by simp
  show (bif e !=e then _ else _)=_
  rw[e1,cond_false]
  by_cases he:e=0
  .have e0:(e !=(0:Int))=false:=by rw[he];rfl
   rw[e0,cond_false]
   subst he
   split at hce
   .cases hce
   .rename_i hlen
    have hsz:szP x<=64:=by rw[Qs,pre_len] at hlen;omega
    rw[QJ (by rw[pre_len];omega)] at hce
    have hacc:acc x:=acc_pre _ x (mF _) fun y hy h4=>form_one (check_none hce y hy) h4
    have hszN:szP (nf x false)<=2*szP x:=nf_sz x false
    refine bs hsan ?_
    show (bif true then _ else _)=_
    rw[cond_true]
    refine bs (Normal_spec (n:=n) (by omega) hacc (by omega)) (bs (ref_Normal_spec (n:=n) (by omega) hacc (by omega)) ?_)
    refine bs (Compare_same (n:=n) (by omega) (by omega) (by omega) (by omega)).2 ?_
    have f4:(cmpP (nf x false) (nf x false)==(0:Int))=true:=by rw[cmpP_self];rfl
    show (bif cmpP (nf x false) (nf x false)==(0:Int) then _ else _)=_
    rw[f4,cond_true]
    refine bs (fCells_spec (n:=n) (by omega) hS (by omega)) (bs (rCells_spec (n:=n) (by omega) hS (by omega)) ?_)
    simp
  .have e0:(e !=(0:Int))=true:=by simpa using he
   rw[e0,cond_true]
   exact bs hsan rfl
end Sh
end
