import Derived.Test.YtgdialomgeijcaaGreatF4030
set_option linter.all false
section
open Go Go.Proofs Aq Pq
namespace Sh
theorem aur {U:Type}[DecidableEq U]:∀{l m:List U},l.Nodup->(∀x∈l,x∈m)->l.length<=m.length
 | [],_,_,_=>Ql _|x::l,m,h,hs=>by have hx:=hs x (PG ..);have hn:=Qg.1 h;have:=aur (m:=m.erase x) hn.2 fun y hy=>(List.mem_erase_of_ne (fun e=>hn.1 (by rw[<-e];exact hy))).2 (hs y (PK _ hy));rw[List.length_erase_of_mem hx] at this;have:=List.length_pos_of_mem hx;rw[List.length_cons];omega
theorem RSm {t:Int->List Bool}{v:Int}:∀{S:List Int},v∈RS t S↔v∈S/\t (v-1)≠t v
 | []=>by rw[RS];simp|y::S=>by
  rw[RS];by_cases h:t (y-1)=t y
  .rw[beq_iff_eq.2 h,cond_true,RSm (S:=S),PI];constructor
   .exact fun hv=>⟨.inr hv.1,hv.2⟩
   .rintro⟨e|hv,hn⟩
    .subst e;exact absurd h hn
    .exact⟨hv,hn⟩
  .rw[show (t (y-1)==t y)=false by simpa using h,cond_false,PI,RSm (S:=S),PI];constructor
   .rintro (e|hv)
    .subst e;exact⟨.inl rfl,h⟩
    .exact⟨.inr hv.1,hv.2⟩
   .rintro⟨e|hv,hn⟩
    .exact .inl e
    .exact .inr ⟨hv,hn⟩
theorem RSa {t:Int->List Bool}:∀{S:List Int},S.Pairwise (· < ·)->(RS t S).Pairwise (· < ·)
 | [],_=>by rw[RS];exact .nil|y::S,h=>by
  rw[RS];have h2:=List.pairwise_cons.1 h;cases hc:t (y-1)==t y with
  |true=>exact RSa h2.2|false=>exact List.pairwise_cons.2 ⟨fun z hz=>h2.1 z (RSm.1 hz).1,RSa h2.2⟩
theorem aCP {l:List Int}(h:l.Pairwise (· < ·)):l.Nodup:=h.imp fun h=>by omega
def Lv (l m:List Pred):Prop:=∀x∈l,5<=x.Op->x∈m
theorem aCQ {nm:List UInt8}{x:Pred}(h:Ua nm x=true):x.Op=6:=by
 unfold Ua at h;cases hc:x.Op==(6:Int) with
 |true=>simpa using hc|false=>rw[hc] at h;cases h
theorem aCR {nm:List UInt8}{x:Pred}(h:YD nm x=true):x.Op=7:=by
 unfold YD at h;cases hc:x.Op==(7:Int) with
 |true=>simpa using hc|false=>rw[hc] at h;cases h
theorem aCS {nm:List UInt8}{x:Pred}(h:U7 nm x=true):5<=x.Op:=by
 unfold U7 at h;cases hc:decide (x.Op>=(5:Int)) with
 |true=>exact of_decide_eq_true hc|false=>rw[hc] at h;cases h
theorem aCT {nm:List UInt8}{l m:List Pred}(h:Lv l m){v w:Int}(e:Sy nm m v=Sy nm m w):Sy nm l v=Sy nm l w:=by unfold Sy at e⊢;refine QM fun x hx=>?_;have hx:=QN.1 hx;exact List.map_inj_left.1 e x (QN.2 ⟨h x hx.1 (by rw[aCQ hx.2];decide),hx.2⟩)
theorem aCU {d:Def}{l m:List Pred}(h:Lv l m):(YC d l).length<=(YC d m).length:=by
 refine aur ?_ fun v hv=>?_
 .refine aCP ?_;have:=atn (d:=d) (l:=l);have h2:=List.pairwise_cons.1 this;exact List.pairwise_cons.2 ⟨fun z hz=>h2.1 z (RSm.1 hz).1,RSa h2.2⟩
 .rcases PI.1 hv with e|hv
  .rw[e];exact PG ..
  .have hv:=RSm.1 hv;have hr:=adq ((acR v _).1 hv.1);have hne:Sy d.Name m (v-1)≠Sy d.Name m v:=fun e=>hv.2 (aCT h e);exact PK _ (RSm.2 ⟨(acR v _).2 (an5 hr.1 hr.2 (Ne.symm hne)),hne⟩)
theorem aus {s s':List UInt8->Bool}(h:∀w,s w=true->s' w=true):∀(ws:List (List UInt8))(o o':Bool),(o'=true->o=true)->(Vz s o ws).length<=(Vz s' o' ws).length
 | [],_,_,_=>by unfold Vz;exact mF _|w::ws,o,o',ho=>by unfold Vz;rw[PU,PU];have hw:=h w;have g:=fun o o'=>aus h ws o o';have tt:(true=true->true=true):=id;have ff:(false=true->false=true):=id;have ft:(false=true->true=true):=fun _=>rfl;have g1:=g true true tt;have g2:=g false false ff;have g3:=g true false ft;cases h1:s w<;>cases h2:s' w<;>cases o<;>cases o'<;>simp_all<;>omega
theorem aCV {nm:List UInt8}{l m:List Pred}(h:Lv l m)(w:List UInt8)(hs:VA nm l w=true):VA nm m w=true:=by
 unfold VA at hs⊢;obtain⟨x,hx,hw⟩:=List.any_eq_true.1 hs;have hw2:YD nm x=true:=by cases hq:YD nm x<;>rw[hq] at hw<;>simp_all
 exact List.any_eq_true.2 ⟨x,h x hx (by rw[aCR hw2];decide),hw⟩
theorem aCW {d:Def}{l m:List Pred}(h:Lv l m):(UH d l).length<=(UH d m).length:=by
 unfold UH;rw[List.length_cons,List.length_cons];split
 .rw[PX,PX];exact Nat.succ_le_succ (aCU h)
 .rw[PX,PX];exact Nat.succ_le_succ (aus (aCV h) d.Words false false id)
def abt:List Nat->Nat
 | []=>1|k::l=>k*abt l
theorem aut (d:Def)(l:List Pred):1<=(UH d l).length:=by unfold UH;rw[List.length_cons];omega
theorem auu {l m:List Pred}(h:Lv l m):∀ds:List Def,abt (((ds.filter fun d=>l.any (U7 d.Name)).map fun d=>UH d l).map List.length)<=abt (((ds.filter fun d=>m.any (U7 d.Name)).map fun d=>UH d m).map List.length)
 | []=>mF _|d::ds=>by
  have ih:=auu h ds;cases hl:l.any (U7 d.Name) with
  |true=>
   have hm:m.any (U7 d.Name)=true:=by obtain⟨x,hx,hn⟩:=List.any_eq_true.1 hl;exact List.any_eq_true.2 ⟨x,h x hx (aCS hn),hn⟩
   rw[List.filter_cons,if_pos hl,List.filter_cons,if_pos hm];exact Nat.mul_le_mul (aCW h) ih
  |false=>
   rw[List.filter_cons,if_neg (by rw[hl];simp)];cases hm:m.any (U7 d.Name) with
   |false=>rw[List.filter_cons,if_neg (by rw[hm];simp)];exact ih|true=>rw[List.filter_cons,if_pos hm];refine PE ih ?_;exact Nat.le_mul_of_pos_left _ (aut d m)
theorem auv:∀(t:List Nat)(c:Nat),(∀x∈t,0<x)->0<c->c<=4096->UA (c:Int) t<=4096->c*abt t<=4096
 | [],c,_,_,h,_=>by show c*1<=4096;omega|x::t,c,h,h0,h1,h2=>by
  have hx:=h x (PG ..);unfold UA at h2;split at h2
  .omega
  .rename_i hc;rw[<-Int.natCast_mul] at h2 hc;show c*(x*abt t)<=4096;rw[<-Nat.mul_assoc];exact auv t (c*x) (fun y hy=>h y (PK _ hy)) (Nat.mul_pos h0 hx) (by omega) h2
theorem auw:∀{t:List Nat},(∀x∈t,0<x)->0<abt t
 | [],_=>Nat.one_pos|x::t,h=>Nat.mul_pos (h x (PG ..)) (auw fun y hy=>h y (PK _ hy))
theorem auy:∀(t:List Nat)(c:Nat),(∀x∈t,0<x)->c*abt t<=4096->UA (c:Int) t<=4096
 | [],c,_,h=>by have h:c*1<=4096:=h;show (c:Int)<=4096;omega|x::t,c,h,h1=>by have h1:c*(x*abt t)<=4096:=h1;rw[<-Nat.mul_assoc] at h1;have h2:=auw fun y hy=>h y (PK _ hy);have h3:c*x<=4096:=PE (Nat.le_mul_of_pos_right _ h2) h1;unfold UA;rw[<-Int.natCast_mul,if_neg (by omega)];exact auy t (c*x) (fun y hy=>h y (PK _ hy)) h1
theorem auz (s:Ro)(l:List Pred):∀x∈(Tg s l).map List.length,0<x:=by intro x hx;obtain⟨c,hc,rfl⟩:=Qm.1 hx;unfold Tg at hc;obtain⟨d,_,rfl⟩:=Qm.1 hc;exact aut d l
theorem aCX {s:Ro}{l m:List Pred}(h:Lv l m)(hm:UA 1 ((Tg s m).map List.length)<=4096):UA 1 ((Tg s l).map List.length)<=4096:=by have h1:=auv _ 1 (auz s m) (by decide) (by decide) hm;have h2:=auu h s.Defs;exact auy _ 1 (auz s l) (by have h2:abt ((Tg s l).map List.length)<=abt ((Tg s m).map List.length):=h2;omega)
def Us (s:Ro)(A:List Pred)(p:Pred):Prop:=∀y∈pre p,Yf s y=none/\(5<=y.Op->y∈A)
theorem auA {y:Pred}:∀{l:List Pred},y∈Uw l->∃x∈l,y∈pre x
 | [],h=>by rw[Uw] at h;cases h|p::l,h=>by
  rw[Uw] at h;rcases QT.1 h with h|h
  .exact⟨p,PG ..,h⟩
  .obtain⟨x,hx,hy⟩:=auA h;exact⟨x,PK _ hx,hy⟩
theorem aoQ {s:Ro}{A:List Pred}{p:Pred}:Us s A p↔(Yf s p=none/\(5<=p.Op->p∈A))/\∀x∈p.Ra,Us s A x:=by
 unfold Us;rw[ah7];constructor
 .exact fun h=>⟨h p (PG ..),fun x hx y hy=>h y (PK _ (agj hx hy))⟩
 .rintro⟨h,k⟩ y hy;rcases PI.1 hy with e|hy
  .rw[e];exact h
  .obtain⟨x,hx,hy⟩:=auA hy;exact k x hx y hy
theorem aCY {s:Ro}{c:Int}(h1:1<=c)(h2:c<5){L:List Pred}(hf:aaI ⟨c,[],0,0,[],L⟩=true):Yf s ⟨c,[],0,0,[],L⟩=none:=by unfold Yf;rw[if_neg (by show¬(c<1\/c>7);omega),hf,if_neg (by simp),if_pos h2]
theorem aCZ {c:Int}(h1:1<=c)(h2:c<5){L:List Pred}(h:(if c=2\/c=3 then decide (L≠[]) else if c=4 then decide (L.length=1) else decide (L=[]))=true):aaI ⟨c,[],0,0,[],L⟩=true:=by unfold aaI;rw[if_neg (by simp),if_neg (by simp)];exact h
theorem aif {s:Ro}{A:List Pred}{c:Int}(h1:1<=c)(h2:c<5){L:List Pred}(h:(if c=2\/c=3 then decide (L≠[]) else if c=4 then decide (L.length=1) else decide (L=[]))=true)(k:∀x∈L,Us s A x):Us s A ⟨c,[],0,0,[],L⟩:=
 aoQ.2 ⟨⟨aCY h1 h2 (aCZ h1 h2 h),fun h5=>by have h5:5<=c:=h5;omega⟩,k⟩
theorem aii {s:Ro}{A:List Pred}{x:Pred}(h:Us s A x):Us s A (notP x):=aif (by decide) (by decide) rfl fun y hy=>by rw[P9.1 hy];exact h
theorem aij {s:Ro}{A:List Pred}{c:Int}(hc:c=2\/c=3){x y:Pred}(hx:Us s A x)(hy:Us s A y):Us s A ⟨c,[],0,0,[],[x,y]⟩:=
 aif (by omega) (by omega) (by rw[if_pos hc];rfl) fun z hz=>by
  rcases PI.1 hz with e|hz
  .rw[e];exact hx
  .rw[P9.1 hz];exact hy
theorem aoR {s:Ro}{A:List Pred}(b:Bool):Us s A (WZ b):=by
 have h:Us s A ⟨1,[],0,0,[],[]⟩:=aif (by decide) (by decide) rfl fun y hy=>by cases hy
 cases b
 .exact aii h
 .exact h
theorem aC0 {s:Ro}{A:List Pred}{c:Int}(hc:c=2\/c=3){ys:List Pred}(h:∀y∈ys,Us s A y):Us s A (aaK c ys):=by
 unfold aaK;split
 .exact aoR _
 .have hm:∀z∈Vh (WC c ys),Us s A z:=fun z hz=>by
   obtain⟨y,hy,hz⟩:=List.mem_flatMap.1 ((agf _ _).1 hz);by_cases ho:y.Op=c
   .rw[ah1 ho] at hz;exact(aoQ.1 (h y hy)).2 z hz
   .by_cases k:y=VB c
    .rw[aoy ho k] at hz;cases hz
    .rw[ah2 ho k] at hz;rw[P9.1 hz];exact h y hy
  generalize Vh (WC c ys)=L at*
  match L with
  | []=>exact aoR _| [x]=>exact hm x (PG ..)|x::y::L=>exact aif (by omega) (by omega) (by rw[if_pos hc];rfl) hm
mutual
theorem aoS {s:Ro}{A:List Pred}:∀(p:Pred)(o:Bool),Us s A p->Us s A (nf p o)
 | ⟨op,name,a,b,t,subs⟩,o,h=>by
   have h':=(aoQ.1 h).2;rw[nf];split
   .exact aC1 subs (!o) h'
   .split
    .exact aC0 (aoz op o) (auB subs o h')
    .split
     .exact aii h
     .exact h
theorem auB {s:Ro}{A:List Pred}:∀(l:List Pred)(o:Bool),(∀y∈l,Us s A y)->∀y∈Vi l o,Us s A y
 | [],o,_=>by rw[Vi];intro y hy;cases hy|p::l,o,h=>by
  rw[Vi];intro y hy;rcases PI.1 hy with e|hy
  .rw[e];exact aoS p o (h p (PG ..))
  .exact auB l o (fun z hz=>h z (PK _ hz)) y hy
theorem aC1 {s:Ro}{A:List Pred}:∀(l:List Pred)(o:Bool),(∀y∈l,Us s A y)->Us s A (YE l o)
 | [],o,_=>by rw[YE];exact aoR _|p::l,o,h=>by rw[YE];exact aoS p o (h p (PG ..))
end
theorem auC {s:Ro}{p:Pred}(h:TG s p=0){A:List Pred}(hA:∀y∈pre p,y∈A):Us s A p:=by
 have hsz:=ah9 h;unfold TG at h;split at h
 .cases h
 .rw[Qs (by rw[VN];omega)] at h;exact fun y hy=>⟨aoO h (fun x _=>aup) y hy,fun _=>hA y hy⟩
theorem auD {s:Ro}:∀{l:List Pred},(∀x∈l,Yf s x=none)->abq s l=none
 | [],_=>rfl|x::l,h=>by rw[abq,h x (PG ..)];exact auD fun y hy=>h y (PK _ hy)
theorem aoT {s:Ro}{A:List Pred}{p:Pred}(h:Us s A p)(hs:Rq p<=64):TG s p=0:=by unfold TG;rw[if_neg (by rw[Qc,VN];omega),Qs (by rw[VN];omega),auD fun x hx=>(h x hx).1];rfl
theorem aC2 {s:Ro}{A:List Pred}{p:Pred}(h:Us s A p):Lv (pre p) A:=fun x hx h5=>(h x hx).2 h5
end Sh
end
section
open Go Go.Proofs Aq Pq
namespace Sh
theorem aC3 {n:Nat}{s:Ro}{p:Pred}(hS:Yh n s)(hd:s.Defs.length<n)(hn:6000<n)(hp2:Rq p<2^62)(he:TG s p=0)(hc:UA 1 ((Tg s (pre p)).map List.length)<=4096):∃(L:List Attr) (b:Bool),Xo n (s,p)=some (L,(b,(0:Int))):=by
 have hf:=hS.few;have hC:Zh n (s,p)=some (TG s p):=aeJ (n:=n) (s:=s) (p:=p) hp2 hd (by omega);rw[asf];simp only[Pred.Sb];have hsz:=ah9 he;rw[he] at hC;have hdd:=fun d hd=>hS.defs (by omega) (d:=d) hd;have hT:=at0 (n:=n) (by omega) (p:=p) hdd (by omega) hf;have hlen:((Tg s (pre p)).map (List.map TT)).length<=16:=by rw[PX];exact PE (aoF ..) hf
 have hpos:=ah8 s (pre p);have hrow:∀c∈(Tg s (pre p)).map (List.map TT),c.length<2^30:=fun c hc=>by obtain⟨c',hc',rfl⟩:=Qm.1 hc;rw[PX];exact aoG hdd (by rw[VN];omega) hc'
 have hcnt:=ajQ (n:=n) (t:=(Tg s (pre p)).map (List.map TT)) (by omega) (by omega) hrow;have hll:((Tg s (pre p)).map (List.map TT)).map List.length=(Tg s (pre p)).map List.length:=by
  rw[QO];have:(List.length∘List.map TT)=List.length:=by funext x;simp
  rw[this]
 have hcs:=aoH ((Tg s (pre p)).map (List.map TT)) 1 hpos (by omega) (by omega);rw[<-hll] at hc;generalize (Tg s (pre p)).map (List.map TT)=t at hT hlen hpos hrow hcnt hcs hc;have hprod:RB t<=4096:=by have:=hcs hc;omega
 have hO:abK t p=some (VK (fun l=>Rx l p) t):=by unfold abK;rw[if_pos ⟨by omega,hpos,hprod,hp2⟩]
 refine⟨(VK (fun l=>Rx l p) t).1,(VK (fun l=>Rx l p) t).2,bs hC ?_⟩;show (bif false then _ else _)=_;rw[cond_false];refine bs hT (bs hcnt ?_);rw[decide_eq_false (show¬UA 1 (t.map List.length)>4096 by omega),cond_false];exact bs ((aqV n (t,p)).trans hO) rfl
theorem auE {n:Nat}{s:Ro}{A:List Pred}{p:Pred}(hS:Yh n s)(hd:s.Defs.length<n)(hn:6000<n)(hs:Rq p<=64)(hA:UA 1 ((Tg s A).map List.length)<=4096)(h:Us s A p)(hh:∀l,Rx l p=false):∃L:List Attr,Xo n (s,p)=some (L,(true,(0:Int))):=by
 obtain⟨L,b,e⟩:=aC3 (n:=n) (s:=s) (p:=p) hS hd hn (by omega) (aoT h hs) (aCX (aC2 h) hA);obtain⟨L',b',e',h1,_,_,_,h5⟩:=aCN (n:=n) (s:=s) (p:=p) hS hd hn (by omega) (by omega);rw[e] at h1;have h2:=iS h1;injection h2 with h3 h4
 injection h4 with h4 h6
 subst h3;subst h4;subst h6;cases b with
 |true=>exact⟨L,e⟩|false=>exact absurd ((h5 rfl rfl).1.symm.trans (hh L)) (by decide)
theorem agn {n:Nat}{s:Ro}{A:List Pred}{a b:Pred}(hS:Yh n s)(hd:s.Defs.length<n)(hn:6000<n)(hs:Rq a+Rq b+2<=64)(hA:UA 1 ((Tg s A).map List.length)<=4096)(ha:Us s A a)(hb:Us s A b)(hh:∀l,Rx l a=true->Rx l b=true):∃L:List Attr,ZE n (s,(a,b))=some (L,(true,(0:Int))):=by
 have ca:=aoT ha (by omega);have cb:=aoT hb (by omega);have hf:=hS.few;have hCa:Zh n (s,a)=some (TG s a):=aeJ (n:=n) (s:=s) (p:=a) (by omega) hd (by omega);have hCb:Zh n (s,b)=some (TG s b):=aeJ (n:=n) (s:=s) (p:=b) (by omega) hd (by omega);have hL2:=aCx (n:=n) (s:=s) (a:=a) (b:=b) hCa hCb (by omega);obtain⟨L,e⟩:=auE (n:=n) (A:=A) (p:=andNot a b) hS hd hn (by rw[at5];exact hs) hA (aij (.inl rfl) ha (aii hb)) fun l=>by
  rw[auq];cases h:Rx l a with
  |false=>rfl|true=>rw[hh l h];rfl
 refine⟨L,?_⟩;rw[aAz];refine bs hL2 ?_;rw[if_pos ca,if_pos cb];show (Xx n b.re).bind _=_;refine bs (anX n b.re) ?_;simp only[Pred.Sb];exact bs e rfl
theorem aC4 {s:Ro}{A:List Pred}{p:Pred}(h:Us s A p):acc p:=atX (Rq p) p (mF _) fun x hx h4=>by
 have hc:=(h x hx).1;refine aCh ?_ h4;cases hf:aaI x with
 |true=>rfl|false=>unfold Yf at hc;rw[if_neg (by omega),if_pos hf] at hc;cases hc
theorem size_le {n:Nat}{p:Pred}(hn:Rq p<n)(hp:Rq p<2^62):∃z:Int,Xh n p=some z/\(¬z>20->Rq p<=20):=⟨_,an9 hn hp,fun h=>by
 rw[Qc,VN] at h;omega⟩
theorem aC5 {n:Nat}{s:Ro}{a b:Pred}(hs:adA s n)(hx:6*(Rq a+Rq b+2)<n)(hx2:Rq a+Rq b+2<2^62)(hn:6000<n):XK n (s,(a,b))=some true:=by
 have adF:Xk n ()=some true:=axZ n ();obtain⟨o,ho,hb⟩:=aCO (n:=n) (s:=s) (a:=a) (b:=b) hs (by omega) (by omega) hn;rw[aAU];simp only[Pred.Sb];refine bs ho ?_;cases o with
 |false=>exact bs adF rfl|true=>
  have hS:=hb rfl;have hd:=hs.1;have hf:=hS.few;show (bif true then _ else _)=_;rw[cond_true];obtain⟨z1,e1,k1⟩:=size_le (n:=n) (p:=a) (by omega) (by omega);refine bs e1 ?_;by_cases hz1:z1>20
  .rw[decide_eq_true hz1];exact bs adF rfl
  have k1:=k1 hz1;rw[decide_eq_false hz1];show (bif true then _ else _)=_;rw[cond_true];obtain⟨z2,e2,k2⟩:=size_le (n:=n) (p:=b) (by omega) (by omega);refine bs e2 ?_;by_cases hz2:z2>20
  .rw[decide_eq_true hz2];exact bs adF rfl
  have k2:=k2 hz2;rw[decide_eq_false hz2];show (bif true then _ else _)=_;rw[cond_true];have hCa:Zh n (s,a)=some (TG s a):=aeJ (n:=n) (s:=s) (p:=a) (by omega) hd (by omega);have hCb:Zh n (s,b)=some (TG s b):=aeJ (n:=n) (s:=s) (p:=b) (by omega) hd (by omega);refine bs hCa ?_;by_cases ca:TG s a=0;case neg=>
   rw[show (TG s a !=(0:Int))=true by simpa using ca];exact bs adF rfl
  rw[ca];show (bif true then _ else _)=_;rw[cond_true];refine bs hCb ?_;by_cases cb:TG s b=0;case neg=>
   rw[show (TG s b !=(0:Int))=true by simpa using cb];exact bs adF rfl
  rw[cb];show (bif true then _ else _)=_;rw[cond_true];refine bs (ahS n a b) ?_;simp only[Pred.Sb];refine bs (at1 (n:=n) (by omega) (p:=⟨2,[],0,0,[],[a,b]⟩) hS (by simp only[Rq,Sm];omega)) ?_;by_cases hz:UA 1 ((Tg s (pre ⟨2,[],0,0,[],[a,b]⟩)).map List.length)>600
  .rw[decide_eq_true hz];exact bs adF rfl
  rw[decide_eq_false hz,cond_false];have hA:UA 1 ((Tg s (pre ⟨2,[],0,0,[],[a,b]⟩)).map List.length)<=4096:=by omega
  have ga:Us s (pre ⟨2,[],0,0,[],[a,b]⟩) a:=auC ca fun y hy=>by rw[ah7];exact PK _ (agj (PG ..) hy)
  have gb:Us s (pre ⟨2,[],0,0,[],[a,b]⟩) b:=auC cb fun y hy=>by rw[ah7];exact PK _ (agj (PK _ (PG ..)) hy)
  generalize pre ⟨2,[],0,0,[],[a,b]⟩=A at hA ga gb;have gn:=aoS a false ga;have sn:=ah0 a false;have ac:=aC4 ga;have hnf:=fun l=>aoB l a false (atV a ac);obtain⟨L1,q1⟩:=agn (n:=n) (A:=A) (a:=a) (b:=a) hS hd hn (by omega) hA ga ga fun l h=>h;obtain⟨L2,q2⟩:=agn (n:=n) (A:=A) (a:=b) (b:=⟨3,[],0,0,[],[a,b]⟩) hS hd hn (by simp only[Rq,Sm];omega) hA gb (aij (.inr rfl) ga gb) fun l h=>by simp[Rx,anyS,h]
  obtain⟨L3,q3⟩:=agn (n:=n) (A:=A) (a:=⟨2,[],0,0,[],[a,b]⟩) (b:=b) hS hd hn (by simp only[Rq,Sm];omega) hA (aij (.inl rfl) ga gb) gb fun l h=>by simp[Rx,WU] at h;exact h.2
  obtain⟨L4,q4⟩:=auE (n:=n) (A:=A) (p:=andNot a a) hS hd hn (by rw[at5];omega) hA (aij (.inl rfl) ga (aii ga)) fun l=>by rw[auq];cases Rx l a<;>rfl
  obtain⟨L5,q5⟩:=agn (n:=n) (A:=A) (a:=a) (b:=nf a false) hS hd hn (by omega) hA ga gn fun l h=>by rw[hnf,h];rfl
  obtain⟨L6,q6⟩:=agn (n:=n) (A:=A) (a:=nf a false) (b:=a) hS hd hn (by omega) hA gn ga fun l h=>by rw[hnf] at h;simpa using h
  refine bs q1 (bs (aAA n a b) ?_);simp only[Pred.Sb];refine bs q2 (bs (ahS n a b) ?_);simp only[Pred.Sb];refine bs q3 (bs (aAB n a) (bs (ahS n a _) ?_));simp only[Pred.Sb];refine bs q4 (bs (aCf (by omega) ac (by omega)) (bs q5 (bs q6 ?_)));exact bs adF rfl
end Sh
end
