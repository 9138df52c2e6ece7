import Derived.Test.YtdcnajadcbedkaaGreatDoorF925
set_option linter.all false
open Go.IntKind (wrap)
section
open Go Go.Proofs aR
namespace Sh
def Qn (l:List Int)(c:Nat):Int:=if c=0 then 0 else l.getD (c-1) 0
def apo (n:Nat)(c:Int)(r:Row):Prop:=(r.gu=0\/(1<=r.gu/\r.gu<=c))/\y9 r.Entry n/\r.Entry.jv<=65538*c/\0<=r.Entry.jv
structure ni (n:Nat)(s:aM)(b:Book):Prop where
 schema:b.aM=s
 commit:b.bS=((b.gy.length:Nat):Int)
 days:b.gy.length<=2^30
 rows:b.Rows.length<=65536
 row:∀r∈b.Rows,apo n b.bS r
structure StepB (b:Book)(e:Event)(b':Book):Prop where
 commit:b'.bS=b.bS+1
 day:b'.Day=e.Day
 days:b'.gy=b.gy++[e.Day]
 rows:∃(f:Row->Row) (t:List Row),b'.Rows=b.Rows.map f++t/\∀r,Dd (b.bS+1) r (f r)
 ids:∀y∈b'.Rows,(∃x∈b.Rows,x.Entry.ID=y.Entry.ID)\/(e.Kind=1/\y.Entry.ID=e.ID)
def agr (b:Book)(e:Event)(b':Book):Prop:=∃t:List Row,b'.Rows=b.Rows++t/\∀y∈t,y.gu=0/\y.Entry.From=e.Until
def ags (e:Event):Prop:=(rI e.ID/\rI e.gD/\rI e.Day/\rI e.From/\rI e.Until)/\(∀x∈e.Vec,rI x)/\∀a∈e.aW,rI a.Kind/\rI a.N
theorem apq {c:Int}(h0:0<=c)(h:c<=2^30):rI c:=Q7
theorem Qo {a b:Int}(h:rI a)(g:rI b):rI (imax a b):=by unfold imax;split<;>assumption
theorem agt {a b:Int}(h:rI a)(g:rI b):rI (wX a b):=by unfold wX;split<;>assumption
def agu (e:Event)(n:Nat):Prop:=e.Vec.length<n/\e.Vec.length<2^62/\e.aW.length<n/\e.aW.length<2^62/\ags e
def ze (e:Event)(n:Nat):Prop:=e.Vec.length<n/\e.Vec.length<2^62/\e.aW.length<n/\e.aW.length<2^62/\oO e.Vec e.aW/\ags e
def wD (n:Nat)(s:aM)(b:Book)(e:Event)(r:cO):Prop:=ni n s r.B/\(r.E=0->StepB b e r.B)
theorem xR {n:Nat}{s:aM}{b:Book}{e:Event}(h:ni n s b){k:Int}(hk:k≠0):wD n s b e ⟨b,k⟩:=⟨h,fun h=>absurd h hk⟩
structure BR (b:Book)(e:Event):Prop where
 c:e.bS=b.bS+1
 c2:e.bS<=2^30
 d:b.Day<=e.Day
theorem ze.entry {n:Nat}{e:Event}(he:ze e n){i v o f r t c:Int}(h1:rI i)(h2:rI o)(h3:rI f)(h4:rI r)(h5:rI t)(h6:rI c):y9 (⟨i,v,o,f,r,t,c,e.Vec,e.aW⟩:Entry) n:=⟨he.1,he.2.1,he.2.2.1,he.2.2.2.1,he.2.2.2.2.1,⟨h1,h2,h3,h4,h5,h6⟩,he.2.2.2.2.2.2⟩
theorem BR.rc {b:Book}{e:Event}(h:BR b e)(hb:0<=b.bS:=by omega):rI e.bS:=apq (by have:=h.c;omega) h.c2
theorem aFh {n:Nat}{e:Event}{mM rows added:List Row}{v ver:Int}{k:Nat}(h:CI n e mM v k ver rows added)(hA:added=[]\/(∃x∈mM,x.Entry.ID=e.ID)\/e.Kind=1):∀y∈rows++added,(∃x∈mM,x.Entry.ID=y.Entry.ID)\/(e.Kind=1/\y.Entry.ID=e.ID):=by
 obtain⟨f,hf,hd⟩:=h.f;intro y hy;rcases qF.1 hy with hy|hy
 .rw[hf] at hy;obtain⟨x,hx,rfl⟩:=EC.1 hy;exact .inl ⟨x,hx,by rw[(hd x).entry]⟩
 .obtain⟨_,_,a3,_⟩:=h.add y hy;rcases hA with hA| ⟨x,hx,hA⟩|hA
  .rw[hA] at hy;cases hy
  .exact .inl ⟨x,hx,by rw[hA,a3]⟩
  .exact .inr ⟨hA,a3⟩
theorem aFi {n:Nat}{s:aM}{b:Book}{e:Event}(hb:ni n s b)(he:BR b e){v ver:Int}{k:Nat}{rows added:List Row}(h:CI n e b.Rows v k ver rows added)(hk:k<=65537)(hv0:v<=65538*b.bS)(hvp:0<=v)(hv:∀r∈b.Rows,r.Entry.ID=e.ID->r.Entry.jv<=v)(hlen:rows.length+added.length<=65536)(hA:added=[]\/(∃x∈b.Rows,x.Entry.ID=e.ID)\/e.Kind=1):wD n s b e ⟨⟨b.aM,e.bS,e.Day,([]++b.gy)++[e.Day],([]++rows)++added⟩,0⟩:=by
 obtain⟨f,hf,hd⟩:=h.f;have hcl:=hb.commit;have hc:=he.c;have hc2:=he.c2;have v2:=h.v2;rw[List.nil_append,List.nil_append];refine⟨⟨hb.schema,?_,?_,?_,fun r hr=>?_⟩,fun _=>⟨hc,rfl,rfl,⟨f,added,by show rows++added=_;rw[hf],fun r=>by rw[<-hc];exact hd r⟩,aFh h hA⟩⟩
 .show e.bS=_;rw[eU,List.length_singleton];omega
 .show (b.gy++[e.Day]).length<=_;rw[eU,List.length_singleton];omega
 .show (rows++added).length<=_;rw[eU];omega
 .have hr':r∈rows++added:=hr;show apo n e.bS r;rcases qF.1 hr' with hr'|hr'
  .rw[hf] at hr';obtain⟨x,hx,rfl⟩:=EC.1 hr';obtain⟨g1,g2,g3,g4⟩:=hb.row x hx;rcases hd x with h1| ⟨h1,h2⟩
   .rw[h1];exact⟨RS,g2,RS,g4⟩
   .rw[h2];exact⟨.inr ⟨by show 1<=e.bS;omega,lM _⟩,g2,by show x.Entry.jv<=_;omega,g4⟩
  .obtain⟨a1,a2,a3,a4,a5⟩:=h.add r hr';exact⟨.inl a1,a2,RS,RS⟩
theorem Qp {n:Nat}{s:aM}{b:Book}{e:Event}{l:List Row}{to:List dX}{more:Entry}(hn:2^20<n)(hs:rZ s n)(hb:ni n s b)(hl:l.length<=65536)(hlt:to.length=l.length)(hlr:∀r∈l,r∈b.Rows/\r.Entry.ID=e.ID)(hto:∀d∈to,rI d.from_/\rI d.to)(hm:y9 more n/\(more.ID=0\/more.ID=e.ID))(he:BR b e)(hF:l≠[]\/e.Kind=1\/more.ID=0):∃r:cO,BJ n (b,(e,(l,(to,more))))=some r/\wD n s b e r/\(l=[]->r.E=0->∃t:List Row,r.B.Rows=b.Rows++t/\∀y∈t,y.gu=0/\y.Entry.From=more.From):=by
 have hA0:(∃x∈b.Rows,x.Entry.ID=e.ID)\/e.Kind=1\/(l=[]/\more.ID=0):=by
  cases l with
  |cons r l=>exact .inl ⟨r,hlr r (jW ..)⟩|nil=>
   rcases hF with h|h|h
   .exact absurd rfl h
   .exact .inr (.inl h)
   .exact .inr (.inr ⟨rfl,h⟩)
 have hcl:=hb.commit;have agv:=hb.rows;have hc:=he.c;have hc2:=he.c2;have hdl:b.gy.length<2^30:=RS
 have hc1:1<=e.bS:=RS
 obtain⟨v,hv,hv0,hv1,hv2⟩:=aFf (n:=n) (b:=b) (id:=e.ID) (V:=65538*b.bS) RS RS (fun r hr=>(hb.row r hr).2.2.1) RS;obtain⟨⟨ver,rows,added⟩,h1,hI⟩:=aFe (b:=b) (e:=e) (to:=to) (more:=more) (mM:=b.Rows) (v:=v) hn hl hlt (fun r hr=>⟨(hb.row r (hlr r hr).1).2.1,(hlr r hr).2⟩) hto (apq RS hc2) hc1 agv hv0 RS l.length 0 n v b.Rows [] RS RS ⟨⟨id,aD,fun r=>.inl rfl⟩,lM _,RS,aD,(fun r hr=>by cases hr)⟩;dsimp only at hI;have hrl:=hI.length;have hal:=hI.len;have v1:=hI.v1;have v2:=hI.v2;have hnil:l=[]->added=[]/\rows=b.Rows:=by intro e0;subst e0;obtain⟨m,rfl⟩:∃m,n=m+1:=⟨n-1,RS⟩;rw[af7] at h1;have h1':some ((v,(b.Rows,([]:List Row))))=some (ver,(rows,added)):=h1;cases h1';exact⟨rfl,rfl⟩
 have fin:∀(tF:List Row)(k:Nat)(apr:Int),CI n e b.Rows v k apr rows tF->k<=65537->(l=[]->∀y∈tF,y.gu=0/\y.Entry.From=more.From)->(tF=[]\/(∃x∈b.Rows,x.Entry.ID=e.ID)\/e.Kind=1)->∃r:cO,(bif decide ((wrap .i64 ((rows.length:Int)+(((tF.length:Nat):Int))))> (65536:Int)) then some ((⟨b,(2:Int)⟩:cO))else bif cB (((0:Nat))+b.gy.length) 8 then bif cB ((([]++b.gy).length)+([e.Day].length)) 8 then bif cB (((0:Nat))+rows.length) 112 then bif cB ((([]++rows).length)+tF.length) 112 then some ((⟨(⟨b.aM,e.bS,e.Day,([]++b.gy)++[e.Day],([]++rows)++tF⟩:Book),(0:Int)⟩:cO))else none else none else none else none)=some r/\wD n s b e r/\(l=[]->r.E=0->∃t:List Row,r.B.Rows=b.Rows++t/\∀y∈t,y.gu=0/\y.Entry.From=more.From):=by
  intro tF k apr k1 k2 k3 k4;have hl':=k1.len;rw[Uy RS];refine jU (fun _=>iT ⟨xR hb aG,fun _ h=>absurd (show (2:Int)=0 from h) aG⟩) (fun hx=>?_);have hx':rows.length+tF.length<=65536:=by have:=of_decide_eq_false hx;omega
  refine Lf (Lf (Lf (Lf ?_ dz) dz) dz) dz;exact iT ⟨aFi hb he k1 k2 hv1 hv0 hv2 hx' k4,fun h0 _=>⟨tF,by show ([]++rows)++tF=_;rw[List.nil_append,(hnil h0).2],k3 h0⟩⟩
 rw[aDi];refine eT ⟨v,hv,?_⟩;refine eT ⟨_,h1,?_⟩;dsimp only;have hw:wrap .i64 (ver+(1:Int))=ver+1:=gP RS RS;rw[hw];refine jU (fun hid=>?_) (fun _=>fin added l.length ver hI RS (fun h0 y hy=>by rw[(hnil h0).1] at hy;cases hy) (hA0.elim (fun h=>.inr (.inl h)) (fun h=>h.elim (fun h=>.inr (.inr h)) (fun h=>.inl (hnil h.1).1))));have aFj:more.ID=e.ID:=hm.2.resolve_left (by simpa using hid);obtain⟨er,her⟩:=apf (n:=n) (s:=b.aM) (e:=⟨more.ID,ver+(1:Int),more.gD,more.iX,more.From,more.To,more.j5,more.Vec,more.aW⟩) (hb.schema.symm▸hs) hm.1;refine eT ⟨er,her,?_⟩;refine jU (fun h0=>iT ⟨xR hb Q8,fun _ h=>absurd h Q8⟩) (fun _=>?_);refine Lf ?_ dz;have:=fin (added++[(⟨(⟨more.ID,ver+(1:Int),more.gD,more.iX,more.From,more.To,more.j5,more.Vec,more.aW⟩:Entry),(0:Int)⟩:Row)]) (l.length+1) (ver+1) (hI.push rfl hm.1 aFj rfl) RS (fun h0 y hy=>by rw[(hnil h0).1,List.nil_append,jq] at hy;rw[hy];exact⟨rfl,rfl⟩) (hA0.elim (fun h=>.inr (.inl h)) (fun h=>h.elim (fun h=>.inr (.inr h)) (fun h=>absurd h.2 (by simpa using hid))));exact this
theorem aFk {n:Nat}{s:aM}{b:Book}{e:Event}(hn:2^20<n)(hs:rZ s n)(hb:ni n s b)(he:ze e n)(hv:BR b e)(hk1:e.Kind=1):∃r:cO,OT n (b,e)=some r/\wD n s b e r/\(r.E=0->agr b e r.B):=by have hr:=hb.rows;obtain⟨h,hh⟩:=aET (n:=n) (b:=b) (d:=e.ID) RS RS;rw[aDj];refine eT ⟨h,hh,?_⟩;refine jU (fun _=>iT ⟨xR hb aG,fun h=>absurd (show (6:Int)=0 from h) aG⟩) (fun _=>?_);have hcl:=hb.commit;have hen:y9 (⟨e.ID,(1:Int),e.gD,e.Day,e.Until,(1048577:Int),e.bS,e.Vec,e.aW⟩:Entry) n:=he.entry he.2.2.2.2.2.1.1 he.2.2.2.2.2.1.2.1 he.2.2.2.2.2.1.2.2.1 he.2.2.2.2.2.1.2.2.2.2 Q7 hv.rc;obtain⟨er,her⟩:=apf (n:=n) (s:=b.aM) (e:=⟨e.ID,(1:Int),e.gD,e.Day,e.Until,(1048577:Int),e.bS,e.Vec,e.aW⟩) (hb.schema.symm▸hs) hen;refine eT ⟨er,her,?_⟩;refine jU (fun h0=>iT ⟨xR hb Q8,fun h=>absurd h Q8⟩) (fun _=>?_);obtain⟨r,h1,h2,h3⟩:=Qp (l:=[]) (to:=[]) (more:=⟨e.ID,(1:Int),e.gD,e.Day,e.Until,(1048577:Int),e.bS,e.Vec,e.aW⟩) hn hs hb aD rfl aD (fun d hd=>uT) ⟨hen,.inr rfl⟩ hv (.inr (.inl hk1));exact eT ⟨r,h1,iT ⟨h2,fun h=>h3 rfl h⟩⟩
theorem agw {n:Nat}{l:List Row}(h:l≠[])(hb:l.length<2^62):∃x:Row,x∈l/\BK n l=some x.Entry.To:=by have hp:0<l.length:=sw.2 h;obtain⟨x,hx,hxm⟩:=DK (l:=l) (i:=l.length-1) RS;exact⟨x,hxm,by rw[aDl,Ux hp hb];exact bs hx rfl⟩
theorem agx {L:Nat->List dX->Int->Option (List dX)}{l:List Row}(hl:l.length<=65536)(hs:∀m (i:Nat) (acc:List dX),i<l.length->acc.length=i->∃d:dX,(rI d.from_/\rI d.to)/\L (m+1) acc (i:Int)=L m (acc++[d]) ((i+1:Nat):Int))(hf:∀m acc,L (m+1) acc (l.length:Int)=some acc){n:Nat}(hn:l.length<n):∃to:List dX,L n [] (0:Int)=some to/\to.length=l.length/\∀d∈to,rI d.from_/\rI d.to:=by
 have key:∀(k i m:Nat)(acc:List dX),i+k=l.length->k<m->acc.length=i->(∀d∈acc,rI d.from_/\rI d.to)->∃to:List dX,L m acc (i:Int)=some to/\to.length=l.length/\∀d∈to,rI d.from_/\rI d.to:=by
  intro k;induction k with
  |zero=>
   intro i m acc hi hm ha hac;obtain⟨m,rfl⟩:∃m',m=m'+1:=⟨m-1,RS⟩;obtain rfl:i=l.length:=RS
   exact⟨acc,hf _ _,ha,hac⟩
  |succ k ih=>intro i m acc hi hm ha hac;obtain⟨m,rfl⟩:∃m',m=m'+1:=⟨m-1,RS⟩;obtain⟨d,hdr,hd⟩:=hs m i acc RS ha;rw[hd];exact ih (i+1) m _ RS RS (by simp[ha]) (fun y hy=>by rcases qF.1 hy with hy|hy;exact hac y hy;rw[jq.1 hy];exact hdr)
 exact key l.length 0 n [] RS hn rfl (fun d hd=>uT)
theorem agy {n:Nat}(hn:2^20<n):y9 (⟨(0:Int),(0:Int),(0:Int),(0:Int),(0:Int),(0:Int),(0:Int),[],[]⟩:Entry) n:=⟨dz,aD,dz,aD,⟨aD,aD,fun x hx=>absurd hx List.not_mem_nil⟩,⟨GY,GY,GY,GY,GY,GY⟩,fun x hx=>absurd hx List.not_mem_nil,fun x hx=>absurd hx List.not_mem_nil⟩
theorem aFl {n:Nat}{s:aM}{b:Book}{e:Event}{l:List Row}(hn:2^20<n)(hs:rZ s n)(hb:ni n s b)(he:ze e n)(hv:BR b e)(hne:l≠[])(hl:l.length<=65536)(hlr:∀r∈l,r∈b.Rows/\r.Entry.ID=e.ID):∃r:cO,DW n (b,(e,l))=some r/\wD n s b e r:=by
 have hp:0<l.length:=sw.2 hne;obtain⟨x,hx,hxm⟩:=DK (l:=l) (i:=0) hp;obtain⟨tr,htr,ht⟩:=agw (n:=n) hne RS;have hrow:∀r∈l,GI r.Entry:=fun r hr=>(hb.row r (hlr r hr).1).2.1.2.2.2.2.2;have hcl:=hb.commit;obtain⟨t',ht'⟩:=Le (c:= !(decide (e.From< (0:Int)))) (o:=BK n l) (d:=(0:Int)) (fun _=>⟨tr.Entry.To,ht⟩);obtain⟨to,h1,h2,hto⟩:=agx (L:=fun m acc i=>Gz n b e l x m (acc,i)) (n:=n) hl (fun m i acc hi ha=>by
  obtain⟨y,hy,hym⟩:=DK (l:=l) (i:=i) hi;refine⟨⟨y.Entry.From,wX y.Entry.To (imax (imax e.From x.Entry.From) y.Entry.From)⟩,⟨(hrow y hym).1.2.2.2.1,agt (hrow y hym).1.2.2.2.2.1 (Qo (Qo he.2.2.2.2.2.1.2.2.2.1 (hrow x hxm).1.2.2.2.1) (hrow y hym).1.2.2.2.1)⟩,?_⟩;show Gz n b e l x (m+1) (acc,(i:Int))=_;rw[aop,decide_eq_true RS,cond_true];refine bs hy ?_;rw[fK RS];exact Uz dz)
  (fun m acc=>by show Gz n b e l x (m+1) (acc,(l.length:Int))=_;rw[aop,BF];rfl) RS
 obtain⟨r,h3,h4,_⟩:=Qp (l:=l) (to:=to) (more:=⟨x.Entry.ID,x.Entry.jv,x.Entry.gD,x.Entry.iX,imax e.From x.Entry.From,tr.Entry.To,e.bS,e.Vec,e.aW⟩) hn hs hb hl h2 hlr hto ⟨he.entry (hrow x hxm).1.1 (hrow x hxm).1.2.1 (hrow x hxm).1.2.2.1 (Qo he.2.2.2.2.2.1.2.2.2.1 (hrow x hxm).1.2.2.2.1) (hrow tr htr).1.2.2.2.2.1 hv.rc,.inr (hlr x hxm).2⟩ hv (.inl hne);rw[aDm];refine eT ⟨x,hx,?_⟩;refine eT ⟨t',ht',?_⟩;refine jU (fun _=>iT (xR hb aG)) (fun _=>?_);refine eT ⟨to,h1,?_⟩;refine eT ⟨x,hx,?_⟩;refine eT ⟨tr.Entry.To,ht,?_⟩;exact eT ⟨r,h3,iT h4⟩
theorem aFm {n:Nat}{s:aM}{b:Book}{e:Event}{l:List Row}(hn:2^20<n)(hs:rZ s n)(hb:ni n s b)(he:ze e n)(hv:BR b e)(hne:l≠[])(hl:l.length<=65536)(hlr:∀r∈l,r∈b.Rows/\r.Entry.ID=e.ID):∃r:cO,DX n (b,(e,l))=some r/\wD n s b e r:=by
 obtain⟨tr,htr,ht⟩:=agw (n:=n) hne RS;have hrow:∀r∈l,GI r.Entry:=fun r hr=>(hb.row r (hlr r hr).1).2.1.2.2.2.2.2;have hcl:=hb.commit;obtain⟨to,h1,h2,hto⟩:=agx (L:=fun m acc i=>GA n b e l m (acc,i)) (n:=n) hl (fun m i acc hi ha=>by
  obtain⟨y,hy,hym⟩:=DK (l:=l) (i:=i) hi;refine⟨⟨y.Entry.From,wX y.Entry.To (imax e.From y.Entry.From)⟩,⟨(hrow y hym).1.2.2.2.1,agt (hrow y hym).1.2.2.2.2.1 (Qo he.2.2.2.2.2.1.2.2.2.1 (hrow y hym).1.2.2.2.1)⟩,?_⟩;show GA n b e l (m+1) (acc,(i:Int))=_;rw[aoq,decide_eq_true RS,cond_true];refine bs hy ?_;rw[fK RS];exact Uz dz)
  (fun m acc=>by show GA n b e l (m+1) (acc,(l.length:Int))=_;rw[aoq,BF];rfl) RS
 obtain⟨r,h3,h4,_⟩:=Qp (l:=l) (to:=to) hn hs hb hl h2 hlr hto ⟨agy hn,.inl rfl⟩ hv (.inl hne);rw[aDn];refine jU (fun _=>?_) (fun _=>iT (xR hb aG));refine eT ⟨tr.Entry.To,ht,?_⟩;refine jU (fun _=>iT (xR hb aG)) (fun _=>?_);refine eT ⟨to,h1,?_⟩;exact eT ⟨r,h3,iT h4⟩
theorem aFo {n:Nat}{s:aM}{b:Book}{e:Event}{l:List Row}(hn:2^20<n)(hs:rZ s n)(hb:ni n s b)(he:ze e n)(hv:BR b e)(hne:l≠[])(hl:l.length<=65536)(hlr:∀r∈l,r∈b.Rows/\r.Entry.ID=e.ID):∃r:cO,DY n (b,(e,l))=some r/\wD n s b e r:=by
 have hp:0<l.length:=sw.2 hne;obtain⟨x,hx,hxm⟩:=DK (l:=l) (i:=0) hp;obtain⟨tr,htr,ht⟩:=agw (n:=n) hne RS;have hrow:∀r∈l,GI r.Entry:=fun r hr=>(hb.row r (hlr r hr).1).2.1.2.2.2.2.2;have hcl:=hb.commit;obtain⟨to,h1,h2,hto⟩:=agx (L:=fun m acc i=>El n b e l x m (acc,i)) (n:=n) hl (fun m i acc hi ha=>by
  obtain⟨y,hy,hym⟩:=DK (l:=l) (i:=i) hi;refine⟨bif bif (i:Int)==(0:Int) then decide (e.Until<x.Entry.From) else false then ⟨e.Until,y.Entry.To⟩ else ⟨imax y.Entry.From (wX e.Until y.Entry.To),y.Entry.To⟩,?_,?_⟩
  .cases (bif (i:Int)==(0:Int) then decide (e.Until<x.Entry.From) else false)
   .exact⟨Qo (hrow y hym).1.2.2.2.1 (agt he.2.2.2.2.2.1.2.2.2.2 (hrow y hym).1.2.2.2.2.1),(hrow y hym).1.2.2.2.2.1⟩
   .exact⟨he.2.2.2.2.2.1.2.2.2.2,(hrow y hym).1.2.2.2.2.1⟩
  show El n b e l x (m+1) (acc,(i:Int))=_;rw[aor,decide_eq_true RS,cond_true];refine bs hy ?_;cases (bif (i:Int)==(0:Int) then decide (e.Until<x.Entry.From) else false)
  .rw[cond_false,cond_false,fK RS];exact Uz dz
  .rw[cond_true,cond_true,fK RS];exact Uz dz)
  (fun m acc=>by show El n b e l x (m+1) (acc,(l.length:Int))=_;rw[aor,BF];rfl) RS
 obtain⟨r,h3,h4,_⟩:=Qp (l:=l) (to:=to) hn hs hb hl h2 hlr hto ⟨agy hn,.inl rfl⟩ hv (.inl hne);rw[aDo];refine eT ⟨x,hx,?_⟩;refine jU (fun _=>iT (xR hb aG)) (fun _=>?_);refine jU (fun _=>?_) (fun _=>iT (xR hb aG));refine eT ⟨tr.Entry.To,ht,?_⟩;refine jU (fun _=>iT (xR hb aG)) (fun _=>?_);refine eT ⟨to,h1,?_⟩;exact eT ⟨r,h3,iT h4⟩
theorem aps {n:Nat}{s:aM}{b:Book}{e:Event}(hn:2^20<n)(hs:rZ s n)(hb:ni n s b)(he:ze e n):∃r:cO,ZS n (b,e)=some r/\wD n s b e r/\(r.E=0->e.Kind=1->agr b e r.B):=by
 have hcl:=hb.commit;have agv:=hb.rows;have hdl:=hb.days;rw[aDp];refine jU (fun _=>iT ⟨xR hb aG,fun h=>absurd (show (9:Int)=0 from h) aG⟩) (fun hcond=>?_);have hw:wrap .i64 (b.bS+(1:Int))=b.bS+1:=by rw[hcl,IntKind.wrap_i64];omega
 rw[hw] at hcond;have hc:e.bS=b.bS+1:=by
  by_cases c:e.bS=b.bS+1
  .exact c
  .rw[bne_iff_ne.2 c] at hcond;simp at hcond
 have hc2:e.bS<=2^30:=by
  by_cases c:e.bS> (1073741824:Int)
  .rw[decide_eq_true c] at hcond;cases h:(e.bS !=b.bS+1)<;>rw[h] at hcond<;>simp at hcond
  .omega
 have hdd:b.Day<=e.Day:=by
  by_cases c:e.Day<b.Day
  .rw[decide_eq_true c] at hcond;cases h:(e.bS !=b.bS+1)<;>rw[h] at hcond
   .cases h':decide (e.bS> (1073741824:Int))<;>rw[h'] at hcond<;>simp at hcond
   .simp at hcond
  .omega
 have hv:BR b e:=⟨hc,hc2,hdd⟩;obtain⟨l,hl1,hl2,hl3⟩:=aFb (n:=n) (b:=b) (id:=e.ID) RS RS;have err:∀k:Int,k≠0->∃r:cO,some ((⟨b,k⟩:cO))=some r/\wD n s b e r:=fun k hk=>iT (xR hb hk);have live:∃r:cO,((DV n ((b,e.ID))).bind fun (r5:List Row)=>bif (r5.length:Int)==(0:Int) then some ((⟨b,(5:Int)⟩:cO))else bif e.Kind==(2:Int) then (DW n ((b,(e,r5)))).bind fun (r6:cO)=>some r6 else bif e.Kind==(3:Int) then (DX n ((b,(e,r5)))).bind fun (r7:cO)=>some r7 else (DY n ((b,(e,r5)))).bind fun (r8:cO)=>some r8)=some r/\wD n s b e r:=by
  refine eT ⟨l,hl1,?_⟩;refine jU (fun _=>err 5 aG) (fun hne=>?_);have hne':l≠[]:=by rintro rfl;simp at hne
  have agz:l.length<=65536:=eX hl2 agv;refine jU (fun _=>?_) (fun _=>jU (fun _=>?_) (fun _=>?_))
  .obtain⟨r,h1,h2⟩:=aFl hn hs hb he hv hne' agz hl3;exact eT ⟨r,h1,iT h2⟩
  .obtain⟨r,h1,h2⟩:=aFm hn hs hb he hv hne' agz hl3;exact eT ⟨r,h1,iT h2⟩
  .obtain⟨r,h1,h2⟩:=aFo hn hs hb he hv hne' agz hl3;exact eT ⟨r,h1,iT h2⟩
 have tC:∀{o:Option cO},(e.Kind==(1:Int))=false->(∃r:cO,o=some r/\wD n s b e r)->∃r:cO,o=some r/\wD n s b e r/\(r.E=0->e.Kind=1->agr b e r.B):=fun hk ⟨r,h1,h2⟩=>⟨r,h1,h2,fun _ h3=>by rw[h3] at hk;simp at hk⟩;refine jU (fun hk=>?_) (fun hk=>tC hk (jU (fun _=>?_) (fun _=>jU (fun _=>live) (fun _=>jU (fun _=>live) (fun _=>jU (fun _=>live) (fun _=>err 1 aG))))))
 .obtain⟨r,h1,h2,h3⟩:=aFk hn hs hb he hv (beq_iff_eq.1 hk);exact eT ⟨r,h1,iT ⟨h2,fun h _=>h3 h⟩⟩
 .obtain⟨r,h1,h2,_⟩:=Qp (l:=[]) (to:=[]) hn hs hb aD rfl aD (fun d hd=>uT) ⟨agy hn,.inl rfl⟩ hv (.inr (.inr rfl));exact eT ⟨r,h1,iT h2⟩
def ow (n:Nat):Book->List Event->Book->Prop
 |b,[],b'=>b'=b|b,e::l,b'=>∃r:cO,ZS n (b,e)=some r/\r.E=0/\ow n r.B l b'
theorem ow.apt {n:Nat}:∀{l:List Event}{b b1 b2:Book},ow n b l b1->ow n b l b2->b1=b2
 | [],b,b1,b2,h1,h2=>by have h1:b1=b:=h1;have h2:b2=b:=h2;rw[h1,h2]|e::l,b,b1,b2,⟨r1,a1,_,c1⟩,⟨r2,a2,_,c2⟩=>by rw[a1] at a2;cases a2;exact ow.apt c1 c2
theorem ow.split {n:Nat}:∀{l1 l2:List Event}{b b':Book},ow n b (l1++l2) b'->∃bm,ow n b l1 bm/\ow n bm l2 b'
 | [],l2,b,b',h=>⟨b,rfl,h⟩|e::l1,l2,b,b',⟨r,a,c,d⟩=>by obtain⟨bm,h1,h2⟩:=ow.split d;exact⟨bm,⟨r,a,c,h1⟩,h2⟩
structure Later (a b:Book):Prop where
 c:a.bS<=b.bS
 days:∃t,b.gy=a.gy++t
 rows:∃(f:Row->Row) (t:List Row),b.Rows=a.Rows.map f++t/\∀r,f r=r\/(r.gu=0/\∃c,a.bS<c/\f r=⟨r.Entry,c⟩)
theorem Later.refl (a:Book):Later a a:=⟨lM _,⟨[],aD⟩,id,[],aD,fun r=>.inl rfl⟩
theorem Later.trans {a b c:Book}(h0:0<=a.bS)(h:Later a b)(g:Later b c):Later a c:=by
 obtain⟨h1,⟨t,h2⟩,f,u,h3,h4⟩:=h;obtain⟨g1,⟨t',g2⟩,f',u',g3,g4⟩:=g;refine⟨Int.le_trans h1 g1,⟨t++t',by rw[g2,h2,fP]⟩,fun r=>f' (f r),u.map f'++u',by rw[g3,h3,qH,AA,fP];rfl,fun r=>?_⟩;rcases h4 r with e| ⟨e1,k,e2,e3⟩
 .rcases g4 r with e'| ⟨Js,k',e2',e3'⟩
  .left;show f' (f r)=r;rw[e,e']
  .right;exact⟨Js,k',RS,by show f' (f r)=_;rw[e,e3']⟩
 .right;rcases g4 (f r) with e'| ⟨Js,_⟩
  .exact⟨e1,k,e2,by show f' (f r)=_;rw[e',e3]⟩
  .rw[e3] at Js;have:k=0:=Js;omega
theorem StepB.later {b b':Book}{e:Event}(h:StepB b e b'):Later b b':=by
 obtain⟨h1,h2,h3,⟨f,t,h4,h5⟩,_⟩:=h;refine⟨RS,⟨[e.Day],h3⟩,f,t,h4,fun r=>?_⟩;rcases h5 r with g| ⟨g1,g2⟩
 .exact .inl g
 .exact .inr ⟨g1,b.bS+1,RS,g2⟩
theorem ow.ok {n:Nat}{s:aM}(hn:2^20<n)(hs:rZ s n):∀{l:List Event}{b b':Book},ni n s b->(∀e∈l,ze e n)->ow n b l b'->ni n s b'/\Later b b'
 | [],b,b',hb,_,h=>by have h:b'=b:=h;subst h;exact⟨hb,.refl _⟩|e::l,b,b',hb,he,⟨r,h1,h2,h3⟩=>by obtain⟨r',g1,⟨g2,g3⟩,_⟩:=aps hn hs hb (he e (jW ..));rw[h1] at g1;cases g1;obtain⟨k1,k2⟩:=ow.ok hn hs g2 (fun x hx=>he x (kQ _ hx)) h3;have hc:=hb.commit;exact⟨k1,(g3 h2).later.trans RS k2⟩
def book0 (s:aM):Book:=⟨s,0,0,[],[]⟩
theorem apu (n:Nat)(s:aM):ni n s (book0 s):=⟨rfl,rfl,by simp[book0],by simp[book0],fun r hr=>by cases hr⟩
def GJ (n:Nat)(s:aM):Prop:=Gq n s=some ⟨book0 s,0⟩
theorem aFp {n:Nat}{s:aM}(hn:2^20<n)(hs:rZ s n):GJ n s\/∃nw:cO,Gq n s=some nw/\nw.E≠0:=by
 obtain⟨e0,he0⟩:=aEP hs RS;have e:Gq n s=_:=(aC9 n s).trans (bs he0 rfl);cases h:(e0 !=(0:Int))
 .rw[h] at e;exact .inl e
 .rw[h] at e;exact .inr ⟨_,e,zl⟩
theorem aFq {n:Nat}{s:aM}{l:List Event}(hn:2^20<n)(hs:rZ s n)(hl:l.length<n)(hb:l.length<2^62)(he:∀e∈l,ze e n):∃f:gU,OV n (s,l)=some f/\(f.E=0->GJ n s/\ow n (book0 s) l f.B)/\(GJ n s->∀b,ow n (book0 s) l b->f.E=0/\f.B=b):=by
 have key:∀(k i m:Nat)(f:gU)(bk:cO),i+k=l.length->k<m->bk.E=0->ni n s bk.B->∃q:(PUnit×gU×cO)⊕(PUnit×gU),KW n l m ((i:Int),(f,bk))=some q/\(match q with
  |.inl q=>q.2.2.E=0/\ow n bk.B (l.drop i) q.2.2.B|.inr q=>q.2.E≠0/\∀b,¬ow n bk.B (l.drop i) b):=by
  intro k;induction k with
  |zero=>intro i m f bk hi hm hz hB;obtain⟨m,rfl⟩:∃m',m=m'+1:=⟨m-1,RS⟩;refine⟨.inl ((),(f,bk)),by rw[af8,decide_eq_false RS];rfl,hz,?_⟩;rw[nE RS];rfl
  |succ k ih=>
   intro i m f bk hi hm hz hB;obtain⟨m,rfl⟩:∃m',m=m'+1:=⟨m-1,RS⟩;have hlt:i<l.length:=RS
   have hx:l[i]? =some l[i]:=fA hlt;obtain⟨r,h1,⟨h2,h3⟩,_⟩:=aps hn hs hB (he _ (lq hlt));rw[nY hlt,af8,decide_eq_true RS,hz];refine eT ⟨_,eH hx,?_⟩;refine eT ⟨r,h1,?_⟩;refine jU (fun hE=>iT ⟨by simpa using hE,?_⟩) (fun hE=>?_)
   .rintro b ⟨r',a1,a2,_⟩;rw[h1] at a1;cases a1;rw[a2] at hE;simp at hE
   .have hE':r.E=0:=(by simpa using hE);rw[fK RS];obtain⟨q,q1,q2⟩:=ih (i+1) m f r RS RS hE' h2;refine⟨q,q1,?_⟩;cases q with
    |inl q=>exact⟨q2.1,r,h1,hE',q2.2⟩|inr q=>refine⟨q2.1,?_⟩;rintro b ⟨r',a1,a2,a3⟩;rw[h1] at a1;cases a1;exact q2.2 b a3
 rw[aDq];rcases aFp hn hs with hnw| ⟨nw,hnw,hE⟩
 .obtain⟨q,h1,h2⟩:=key l.length 0 n ⟨⟨⟨0,0,[]⟩,0,0,[],[]⟩,0,0⟩ ⟨book0 s,0⟩ RS hl rfl (apu n s);refine eT ⟨_,hnw,?_⟩;refine eT ⟨q,h1,?_⟩;cases q with
  |inl q=>have h2':ow n (book0 s) l q.2.2.B:=h2.2;refine jU (fun hz=>?_) (fun hz=>iT ⟨fun _=>⟨hnw,h2'⟩,fun _ b hb=>⟨rfl,ow.apt h2' hb⟩⟩);rw[h2.1] at hz;simp at hz
  |inr q=>exact iT ⟨fun h=>absurd h h2.1,fun _ b hb=>absurd hb (h2.2 b)⟩
 .have hq:KW n l n ((0:Int),((⟨⟨⟨0,0,[]⟩,0,0,[],[]⟩,0,0⟩:gU),nw))=some (.inl ((),(⟨⟨⟨0,0,[]⟩,0,0,[],[]⟩,0,0⟩,nw))):=by
   obtain⟨m,rfl⟩:∃m,n=m+1:=⟨n-1,RS⟩;rw[af8];have e1:(nw.E==(0:Int))=false:=by simpa using hE
   rw[e1];cases decide ((0:Int)< (l.length:Int))<;>rfl
  refine eT ⟨_,hnw,?_⟩;refine eT ⟨_,hq,?_⟩;have hno:¬GJ n s:=fun h=>by unfold GJ at h;rw[hnw] at h;cases h;exact hE rfl
  refine jU (fun hz=>iT ⟨fun h=>absurd h hE,fun h=>absurd h hno⟩) (fun hz=>?_);have:nw.E=0:=by simpa using hz
  exact absurd this hE
theorem aFr {n:Nat}{s:aM}{l:List Event}(hn:2^20<n)(hs:rZ s n)(hl:l.length<n)(hb:l.length<2^62)(he:∀e∈l,agu e n):∃q:Book×Bool,OW n (s,l)=some q/\(q.2=true->GJ n s/\ow n (book0 s) l q.1/\∀e∈l,ze e n)/\(GJ n s->∀b,ow n (book0 s) l b->q.1=b\/q.1.Rows=[]):=by
 obtain⟨b1,h1⟩:=aES (n:=n) (l:=l) (k:=25) ⟨hl,hb,fun x hx=>⟨(he x hx).2.2.1,(he x hx).2.2.2.1⟩⟩;obtain⟨b2,h2⟩:=Le (c:= !(!b1)) (o:=Kt n (s,(6:Int))) (d:=false) (fun _=>aEQ hs);rw[aDr];refine eT ⟨b1,h1,?_⟩;refine eT ⟨b2,h2,?_⟩;refine jU (fun _=>iT ⟨(fun h=>dh),fun _ b _=>.inr rfl⟩) (fun hc=>?_);have hb1:b1=true:=by cases b1<;>simp at hc⊢
 rw[hb1] at h1;have ht:=aEY hb (fun e h=>(he e h).2.2.2.1) h1;have hev:∀e∈l,ze e n:=fun e h=>⟨(he e h).1,(he e h).2.1,(he e h).2.2.1,(he e h).2.2.2.1,ht e h,(he e h).2.2.2.2⟩;obtain⟨f,f1,f2,f3⟩:=aFq hn hs hl hb hev;refine eT ⟨f,f1,iT ⟨fun h=>?_,fun ho b hr=>.inl (f3 ho b hr).2⟩⟩;obtain⟨g1,g2⟩:=f2 zl;exact⟨g1,g2,hev⟩
def Qq (b:Book)(r:Row):Nat:=if r.gu>0 then (r.gu-1).toNat else b.bS.toNat
def p8 (b:Book)(r:Row):Bool:=decide (r.Entry.From<=Qn b.gy (Qq b r))
theorem aFs {n:Nat}{b:Book}{c:Nat}(h:c<=b.gy.length)(hb:b.gy.length<=2^30):Ky n (b,(c:Int))=some (Qn b.gy c):=by
 rw[aDt];cases c with
 |zero=>rfl|succ c=>
  have hx:b.gy[c]? =some b.gy[c]:=fA RS;have hw:wrap .i64 (((c+1:Nat):Int)-(1:Int))=((c:Nat):Int):=by have:=Ux (i:=c+1) RS RS;simpa using this
  have e:(((c+1:Nat):Int)==(0:Int))=false:=dz
  rw[e,cond_false,hw];refine bs (eH hx) ?_;unfold Qn;rw[if_neg RS,nD,show c+1-1=c by omega,hx];rfl
theorem apv {n:Nat}{s:aM}{b:Book}(hb:ni n s b){r:Row}(hr:r∈b.Rows):Qq b r<=b.gy.length:=by have hc:=hb.commit;have:=(hb.row r hr).1;unfold Qq;split<;>omega
theorem aFt {n:Nat}{s:aM}{b:Book}(hb:ni n s b){r:Row}(hr:r∈b.Rows):Kz n (b,r)=some (p8 b r):=by
 have hc:=hb.commit;have hd:=(hb.row r hr).1;have hl:=apv hb hr;have Gb:=hb.days;have key:=aFs (n:=n) hl Gb;unfold p8;unfold Qq at key hl⊢;rw[aDu];by_cases h:r.gu>0
 .rw[if_pos h] at key hl;rw[decide_eq_true h,cond_true,if_pos h];have hw:wrap .i64 (r.gu-(1:Int))=(((r.gu-1).toNat:Nat):Int):=by rw[gP RS RS];omega
  rw[hw];exact bs key rfl
 .rw[if_neg h] at key hl;rw[decide_eq_false h,cond_false,if_neg h];have hw:b.bS=((b.bS.toNat:Nat):Int):=RS
  rw[<-hw] at key;exact bs key rfl
theorem aFu {n:Nat}{b:Book}{p:Row->Bool}(hl:b.Rows.length<=65536)(hp:∀r∈b.Rows,Kz n (b,r)=some (p r)):∀(k i m:Nat)(x y:List Row),i+k=b.Rows.length->k<m->x.length<=i->y.length<=i->
 KX n b.Rows b.aM.j4 b.aM.lY b.aM.Defs b.bS b.Day b.gy b.Rows m (x,(y,(i:Int)))=some (x++(b.Rows.drop i).filter p,y++(b.Rows.drop i).filter fun r=>!p r):=by
 intro k;induction k with
 |zero=>intro i m x y hi hm hx hy;obtain⟨m,rfl⟩:∃m',m=m'+1:=⟨m-1,RS⟩;rw[aos,decide_eq_false RS,nE RS];simp
 |succ k ih=>
  intro i m x y hi hm hx hy;obtain⟨m,rfl⟩:∃m',m=m'+1:=⟨m-1,RS⟩;have hlt:i<b.Rows.length:=RS
  have hg:b.Rows[i]? =some b.Rows[i]:=fA hlt;have hp':=hp _ (lq hlt);rw[aos,iG hg,cond_true,nY hlt];refine bs (eH hg) ?_;have h1:OZ n (b.Rows[i],(b.aM.j4,(b.aM.lY,(b.aM.Defs,(b.bS,(b.Day,(b.gy,b.Rows)))))))=some (p b.Rows[i]):=(aDv n _ _ _ _ _ _ _ _).trans (bs hp' rfl);refine bs h1 ?_;rw[fK RS];cases hv:p b.Rows[i]
  .refine lG rfl (iU (uK dz RS) ?_);rw[ih (i+1) m x (y++[b.Rows[i]]) RS RS RS dz,EJ sj,EK sj,fP];rfl
  .refine iU rfl (iU (uK dz RS) ?_);rw[ih (i+1) m (x++[b.Rows[i]]) y RS RS dz RS,EK sj,EJ sj,fP];rfl
theorem aFv {n:Nat}{l:List Row}(hl:l.length<=65536):∀(k i m:Nat)(x y:List Row),i+k=l.length->k<m->x.length<=i->y.length<=i->
 KY n l m (x,(y,(i:Int)))=some (x++(l.drop i).filter fun r=>r.gu==(0:Int),y++(l.drop i).filter fun r=>!(r.gu==(0:Int))):=by
 intro k;induction k with
 |zero=>intro i m x y hi hm hx hy;obtain⟨m,rfl⟩:∃m',m=m'+1:=⟨m-1,RS⟩;rw[aot,decide_eq_false RS,nE RS];simp
 |succ k ih=>
  intro i m x y hi hm hx hy;obtain⟨m,rfl⟩:∃m',m=m'+1:=⟨m-1,RS⟩;have hlt:i<l.length:=RS
  have hg:l[i]? =some l[i]:=fA hlt;rw[aot,iG hg,cond_true,nY hlt];refine bs (eH hg) ?_;refine bs (aDx n _) ?_;rw[fK RS];cases hv:(l[i].gu==(0:Int))
  .refine lG rfl (iU (uK dz RS) ?_);rw[ih (i+1) m x (y++[l[i]]) RS RS RS dz,EJ sj,EK sj,fP];rfl
  .refine iU rfl (iU (uK dz RS) ?_);rw[ih (i+1) m (x++[l[i]]) y RS RS dz RS,EK sj,EJ sj,fP];rfl
def Lg (b:Book):List Row:=b.Rows.filter (p8 b)
def tH (b:Book):List Row:=(b.Rows.filter fun r=>!p8 b r).filter fun r=>r.gu==(0:Int)
theorem apw {n:Nat}{s:aM}{b:Book}(hn:2^20<n)(hb:ni n s b):KA n b=some (Lg b,tH b):=by have V3:=hb.rows;have hf:(b.Rows.filter fun r=>!p8 b r).length<=b.Rows.length:=List.length_filter_le _ _;have h1:=aFu (n:=n) V3 (fun r hr=>aFt hb hr) b.Rows.length 0 n [] [] RS RS (iR _) (iR _);have h2:=aFv (n:=n) (l:=b.Rows.filter fun r=>!p8 b r) RS (b.Rows.filter fun r=>!p8 b r).length 0 n [] [] RS RS (iR _) (iR _);rw[List.nil_append,List.nil_append,qd] at h1 h2;rw[aDz];refine bs (a:=(Lg b,b.Rows.filter fun r=>!p8 b r)) ((aDw n _ _ _ _ _ _ _ _).trans (bs h1 rfl)) ?_;exact bs (a:=(tH b,(b.Rows.filter fun r=>!p8 b r).filter fun r=>!(r.gu==(0:Int)))) ((aDy n _).trans (bs h2 rfl)) rfl
theorem agA (b:Book):tH b=b.Rows.filter fun r=>!p8 b r&& (r.gu==(0:Int)):=by unfold tH;rw[List.filter_filter];congr 1;funext r;exact Bool.and_comm _ _
end Sh
end
section
open Go Go.Proofs aR
namespace Sh
set_option maxRecDepth 100000
attribute [local irreducible] jk
theorem aFw {n:Nat}{b:Book}{c:Nat}(h:c<=b.gy.length)(hb:b.gy.length<=2^30):KC n (b,(c:Int))=some (Qn b.gy c):=by
 rw[aDA];cases c with
 |zero=>rfl|succ c=>
  have hx:b.gy[c]? =some b.gy[c]:=fA RS;have hw:wrap .i64 (((c+1:Nat):Int)-(1:Int))=((c:Nat):Int):=by have:=Ux (i:=c+1) RS RS;simpa using this
  have e:(bif decide (((c+1:Nat):Int)< (1:Int)) then true else decide (((c+1:Nat):Int)> ((b.gy.length:Nat):Int)))=false:=by rw[decide_eq_false RS,cond_false];exact decide_eq_false RS
  rw[e,cond_false,hw];refine bs (eH hx) ?_;unfold Qn;rw[if_neg RS,nD,show c+1-1=c by omega,hx];rfl
theorem aFx {n:Nat}{s:aM}{b:Book}(hb:ni n s b){r:Row}(hr:r∈b.Rows):O1 n (b,r)=some (p8 b r):=by
 have hc:=hb.commit;have hd:=(hb.row r hr).1;have hl:=apv hb hr;have Gb:=hb.days;have key:=aFw (n:=n) hl Gb;unfold p8;unfold Qq at key hl⊢;rw[aDB];by_cases h:r.gu>0
 .rw[if_pos h] at key hl;have e:(r.gu==(0:Int))=false:=by rw[beq_eq_false_iff_ne];omega
  rw[e,cond_false,if_pos h];have hw:wrap .i64 (r.gu-(1:Int))=(((r.gu-1).toNat:Nat):Int):=by rw[gP RS RS];omega
  rw[hw];exact bs key rfl
 .rw[if_neg h] at key hl;have e:(r.gu==(0:Int))=true:=by rw[beq_iff_eq];omega
  rw[e,cond_true,if_neg h];have hw:b.bS=((b.bS.toNat:Nat):Int):=RS
  rw[<-hw] at key;exact bs key rfl
def Qr (b:Book)(x:Bool)(r:Row):Bool:=bif x then p8 b r else !p8 b r&& (r.gu==(0:Int))
theorem aFy {n:Nat}{s:aM}{b:Book}{x:Bool}(hb:ni n s b):∀(k i m:Nat)(acc:List Row),i+k=b.Rows.length->k<m->acc.length<=i->KZ n b x m (acc,(i:Int))=some (acc++(b.Rows.drop i).filter (Qr b x)):=by
 have hl:=hb.rows;intro k;induction k with
 |zero=>intro i m acc hi hm ha;obtain⟨m,rfl⟩:∃m',m=m'+1:=⟨m-1,RS⟩;rw[aou,decide_eq_false RS,nE RS];simp
 |succ k ih=>
  intro i m acc hi hm ha;obtain⟨m,rfl⟩:∃m',m=m'+1:=⟨m-1,RS⟩;have hlt:i<b.Rows.length:=RS
  have hg:b.Rows[i]? =some b.Rows[i]:=fA hlt;have hp:=aFx (n:=n) hb (lq hlt);rw[aou,iG hg,cond_true,nY hlt];refine bs (eH hg) (bs hp ?_);refine bs ((congrArg (fun o=>kC _ o _) (eH hg)).trans Ot) ?_;rw[fK RS];have hc':∀d:Row,(bif bif p8 b b.Rows[i] then x else false then true else bif bif !p8 b b.Rows[i] then !x else false then (bif (bif !(bif p8 b b.Rows[i] then x else false) then bif !p8 b b.Rows[i] then !x else false else false) then b.Rows[i] else d).gu==(0:Int) else false)=Qr b x b.Rows[i]:=by intro d;unfold Qr;cases hv:p8 b b.Rows[i]<;>cases x<;>simp
  cases hv:Qr b x b.Rows[i]
  .refine lG ((hc' _).trans hv) ?_;rw[ih (i+1) m acc RS RS RS,EJ sj]
  .refine iU ((hc' _).trans hv) (bs (eH hg) (iU (uK dz RS) ?_));rw[ih (i+1) m (acc++[b.Rows[i]]) RS RS dz,EK sj,fP];rfl
theorem apx {n:Nat}{s:aM}{b:Book}(x:Bool)(hn:2^20<n)(hb:ni n s b):BL n (b,x)=some (b.Rows.filter (Qr b x)):=by have V3:=hb.rows;rw[aDC];refine bs (aFy (n:=n) (x:=x) hb b.Rows.length 0 n [] RS RS (iR _)) ?_;rw[List.nil_append,qd]
theorem aFz {n:Nat}{s:aM}{b:Book}(hn:2^20<n)(hb:ni n s b):BL n (b,true)=some (Lg b):=apx true hn hb
theorem apy {n:Nat}{s:aM}{b:Book}(hn:2^20<n)(hb:ni n s b):BL n (b,false)=some (tH b):=by rw[agA];exact apx false hn hb
theorem V4 (x y:au):yP x y=true↔x=y:=by rw[Ao];cases x;cases y;simp only[bf,beq_iff_eq,au.mk.injEq,and_true]
theorem aFA {n:Nat}{l:List au}{x:au}(hn:2^20<n)(hb:l.length<=65536):∀(k i m m':Nat)(q:iA),i+k=l.length->k<m->k<m'->x∉l.take i->(∃(j:Nat) (p:List au),l[j]? =some x/\p.length<=65536/\Xs n (l,(j:Int))=some (p,(0:Int))/\K5 n l x m (i:Int)=some (.inr ((j:Int),(p,(0:Int))))/\K6 n l x m' ((i:Int),q)=some (.inr ((),⟨(j:Int),p,(0:Int)⟩)))\/ (x∉l/\K5 n l x m (i:Int)=some (.inl ())/\K6 n l x m' ((i:Int),q)=some (.inl ((),q))):=by
 intro k;induction k with
 |zero=>
  intro i m m' q hi hm hm' hx;obtain⟨m,rfl⟩:∃m',m=m'+1:=⟨m-1,RS⟩;obtain⟨m',rfl⟩:∃m'',m'=m''+1:=⟨m'-1,RS⟩;rw[rC RS] at hx;refine .inr ⟨hx,?_,?_⟩
  .rw[aoy,decide_eq_false RS,cond_false]
  .rw[aoA,decide_eq_false RS,cond_false]
 |succ k ih=>
  intro i m m' q hi hm hm' hx;obtain⟨m,rfl⟩:∃m',m=m'+1:=⟨m-1,RS⟩;obtain⟨m',rfl⟩:∃m'',m'=m''+1:=⟨m'-1,RS⟩;have hlt:i<l.length:=RS
  have hg:l[i]? =some l[i]:=fA hlt;rw[aoy,aoA,iG hg,cond_true,cond_true,fK RS];cases he:yP l[i] x with
  |true=>
   have hxe:=(V4 _ _).1 he;obtain⟨p,e,e1,e2,_,e4,e5⟩:=aEu (n:=n) (l:=l) (i:=(i:Int)) hn hb;obtain rfl:=e4 RS;refine .inl ⟨i,p,by rw[hg,hxe],e5,e1,?_,?_⟩
   .exact bs (eH hg) (iU ((Ao _ _).symm.trans he) (bs e1 rfl))
   .exact bs (eH hg) (iU ((Ao _ _).symm.trans he) (bs e2 rfl))
  |false=>
   have hxe:l[i]≠x:=fun h=>by rw[(V4 _ _).2 h] at he;cases he
   have hx':x∉l.take (i+1):=by
    rw[List.take_succ,hg];intro h;rcases qF.1 h with h|h
    .exact hx h
    .simp at h;exact hxe h.symm
   rcases ih (i+1) m m' q RS RS RS hx' with ⟨j,p,h1,h0,h2,h3,h4⟩| ⟨h1,h3,h4⟩
   .exact .inl ⟨j,p,h1,h0,h2,bs (eH hg) (lG ((Ao _ _).symm.trans he) h3),bs (eH hg) (lG ((Ao _ _).symm.trans he) h4)⟩
   .exact .inr ⟨h1,bs (eH hg) (lG ((Ao _ _).symm.trans he) h3),bs (eH hg) (lG ((Ao _ _).symm.trans he) h4)⟩
theorem aFB {n:Nat}{l:List au}{x:au}(hn:2^20<n)(hb:l.length<=65536):∃(j:Int) (p:List au) (e:Int),O7 n (l,x)=some (j,(p,e))/\Pb n (l,x)=some (⟨j,p,e⟩:iA)/\p.length<=65536/\ ((e=0/\∃k:Nat,j=(k:Int)/\l[k]? =some x/\Xs n (l,j)=some (p,(0:Int)))\/(e=5/\x∉l/\p=[])):=by
 rw[aDH,aDN];rcases aFA (n:=n) (l:=l) (x:=x) hn hb l.length 0 n n ⟨(0:Int),[],(0:Int)⟩ RS RS RS aD with ⟨j,p,h1,h0,h2,h3,h4⟩| ⟨h1,h3,h4⟩
 .exact⟨(j:Int),p,0,bs h3 rfl,bs h4 rfl,h0,.inl ⟨rfl,j,rfl,h1,h2⟩⟩
 .exact⟨0,[],5,bs h3 rfl,bs h4 rfl,aD,.inr ⟨rfl,h1,rfl⟩⟩
theorem aFC {n:Nat}{l:List au}(hb:l.length<=65536):∀(k i m:Nat),i+k=l.length->k<m->Qk n l l m (i:Int)=some (.inl ()):=by
 intro k;induction k with
 |zero=>intro i m hi hm;obtain⟨m,rfl⟩:∃m',m=m'+1:=⟨m-1,RS⟩;rw[ao6,decide_eq_false RS,cond_false]
 |succ k ih=>
  intro i m hi hm;obtain⟨m,rfl⟩:∃m',m=m'+1:=⟨m-1,RS⟩;have hlt:i<l.length:=RS
  have hg:l[i]? =some l[i]:=fA hlt;rw[ao6,iG hg,cond_true,fK RS];refine bs (eH hg) (bs (eH hg) (lG ?_ (ih (i+1) m RS RS)));exact(congrArg (fun b=>!b) ((Ao l[i] l[i]).symm.trans ((V4 _ _).2 rfl))).trans rfl
theorem apz {n:Nat}{l:List au}(hn:2^20<n)(hb:l.length<=65536):D9 n (l,l)=some true:=by rw[aEb];refine lG aD (bs (aFC (n:=n) hb l.length 0 n RS RS) rfl)
def Ap (id:Int)(e:Event):Bool:=bif e.Kind==(1:Int) then e.ID==id else false
def wE (l:List Event)(id:Int):Int:=match l.findIdx? (Ap id) with
 |some i=>(i:Int)|none=>-1
theorem aFD {n:Nat}{l:List Event}{r:Row}(h:l.length<n)(hb:l.length<2^62):Pm n (l,((),(r.Entry.ID,(r.Entry.jv,(r.Entry.gD,(r.Entry.iX,(r.Entry.From,(r.Entry.To,(r.Entry.j5,(r.Entry.Vec,(r.Entry.aW,r.gu)))))))))))=some (wE l r.Entry.ID):=by
 have:=Oq (L:=fun m i=>Qi n l r.Entry.ID r.Entry.jv r.Entry.gD r.Entry.iX r.Entry.From r.Entry.To r.Entry.j5 r.Entry.Vec r.Entry.aW r.gu m i) (l:=l) (fun d i r'=>bif Ap r.Entry.ID d then some (.inr (i:Int)) else r') (some (.inl ()))
  (fun m i d hd=>by have hlt:=q8 hd;rw[aoJ,iG hd,cond_true,fK RS];exact bs (eH hd) (bs (aDY n _ _ _ _ _ _ _ _ _ _ _) rfl))
  (fun m=>by rw[aoJ,BF];rfl) h
 rw[aDZ,this,Kn (Ap r.Entry.ID) (fun i=>(Sum.inr (i:Int):PUnit⊕Int)) (.inl ())];unfold wE;cases l.findIdx? (Ap r.Entry.ID) with
 |none=>rfl|some j=>simp;rfl
theorem apA {n:Nat}{l:List Event}{id:Int}(h:l.length<n)(hb:l.length<2^62):PL n (l,id)=some (wE l id):=by
 have:=Oq (L:=fun m i=>Qj n l id m i) (l:=l) (fun d i r'=>bif Ap id d then some (.inr (i:Int)) else r') (some (.inl ()))
  (fun m i d hd=>by have hlt:=q8 hd;rw[ao3,iG hd,cond_true,fK RS];refine bs (eH hd) (bs ((congrArg (fun o=>kC _ o _) (eH hd)).trans Ot) ?_);unfold Ap;cases d.Kind==(1:Int)<;>rfl)
  (fun m=>by rw[ao3,BF];rfl) h
 rw[aD8,this,Kn (Ap id) (fun i=>(Sum.inr (i:Int):PUnit⊕Int)) (.inl ())];unfold wE;cases l.findIdx? (Ap id) with
 |none=>rfl|some j=>simp;rfl
theorem apB {l:List Event}{id:Int}(h:¬wE l id<0):∃(j:Nat) (e:Event),wE l id=(j:Int)/\l[j]? =some e/\e.Kind=1/\e.ID=id:=by
 unfold wE at h⊢;cases hf:l.findIdx? (Ap id) with
 |none=>rw[hf] at h;exact absurd (show (-1:Int)<0 by decide) h|some j=>
  obtain⟨hj,h2,_⟩:=List.findIdx?_eq_some_iff_getElem.1 hf;refine⟨j,l[j],rfl,fA hj,?_⟩;unfold Ap at h2;cases hk:(l[j].Kind==(1:Int)) with
  |false=>rw[hk] at h2;cases h2|true=>rw[hk] at h2;exact⟨beq_iff_eq.1 hk,beq_iff_eq.1 h2⟩
end Sh
end
section
open Go aR
namespace uN
variable {U β γ:Type}
theorem tG {c:Bool}{o:Option U}{P:U->Prop}(h:c=true)(k:∃r,o=some r/\P r):∃r,(bif c then o else none)=some r/\P r:=Eu
theorem tI {i:Int}{n:Nat}{o:Option U}{P:U->Prop}(h0:0<=i)(h1:i<n)(k:∃r,o=some r/\P r):∃r,(bif decide (0<=i/\i< ((n:Nat):Int)) then o else none)=some r/\P r:=tG (decide_eq_true ⟨h0,h1⟩) k
theorem tD {p:Prop}[Decidable p]{a b:Option U}{P:U->Prop}(ha:p->∃r,a=some r/\P r)(hb:¬p->∃r,b=some r/\P r):∃r,(bif decide p then a else b)=some r/\P r:=by
 by_cases h:p
 .rw[decide_eq_true h];exact ha h
 .rw[decide_eq_false h];exact hb h
theorem Em {p:Prop}[Decidable p]{a b:Option U}{P:U->Prop}(ha:¬p->∃r,a=some r/\P r)(hb:p->∃r,b=some r/\P r):∃r,(bif !decide p then a else b)=some r/\P r:=by
 by_cases h:p
 .rw[decide_eq_true h];exact hb h
 .rw[decide_eq_false h];exact ha h
theorem En {c:Bool}{a b:Option U}{P:U->Prop}(ha:c=true->∃r,a=some r/\P r)(hb:c=false->∃r,b=some r/\P r):∃r,(bif c then a else b)=some r/\P r:=by
 cases c
 .exact hb rfl
 .exact ha rfl
theorem tS {a:U}{P:U->Prop}(h:P a):∃r,some a=some r/\P r:=⟨a,rfl,h⟩
theorem tB {o:Option U}{f:U->Option β}{Q:U->Prop}{P:β->Prop}(h:∃x,o=some x/\Q x)(k:∀x,Q x->∃r,f x=some r/\P r):∃r,o.bind f=some r/\P r:=by obtain⟨x,e,q⟩:=h;rw[e];exact k x q
theorem tE {o:Option U}{f:U->Option β}{x:U}{P:β->Prop}(h:o=some x)(k:∃r,f x=some r/\P r):∃r,o.bind f=some r/\P r:=Eu
theorem tW {o:Option U}{P Q:U->Prop}(h:∃r,o=some r/\Q r)(k:∀r,Q r->P r):∃r,o=some r/\P r:=by obtain⟨x,e,q⟩:=h;exact⟨x,e,k x q⟩
theorem mu {τ:Type}{L:Nat->τ->Option β}(Inv:τ->Prop)(V5:τ->Nat)(Post:β->Prop)(h:∀m p,Inv p->(∀p',Inv p'->V5 p'<V5 p->∃r,L m p'=some r/\Post r)->∃r,L (m+1) p=some r/\Post r):∀m p,Inv p->V5 p<m->∃r,L m p=some r/\Post r
 |0,p,_,hm=>RS|m+1,p,hp,hm=>h m p hp fun p' hp' hlt=>mu Inv V5 Post h m p' hp' RS
theorem wr {i:Int}(h0: -(2^62)<=i)(h:i<=2^62):wrap .i64 i=i:=Au
def aL (d:U)(l:List U)(i:Int):U:=(l[i.toNat]?).getD d
theorem dF (d:U){l:List U}{i:Int}(h0:0<=i)(h1:i<l.length):aH l i=some (aL d l i):=by
 unfold aH aL;rw[if_pos ⟨h0,h1⟩];have:i.toNat<l.length:=RS
 rw[fA this];rfl
theorem aFE (d:U){l:List U}{i:Int}(h0:0<=i)(h1:i<l.length):aL d l i∈l:=by
 unfold aL;have:i.toNat<l.length:=RS
 rw[fA this];exact lq _
theorem xU {l:List U}{i:Int}{x:U}:(bn l i x).length=l.length:=by unfold bn;exact List.length_set
theorem apC {d:U}{l:List U}{i k:Int}{x:U}(h0:0<=i)(h1:i<l.length)(hk:0<=k):aL d (bn l i x) k=if k=i then x else aL d l k:=by
 unfold aL bn;rw[List.getElem?_set];by_cases e:k=i
 .subst e;rw[if_pos rfl,if_pos rfl,if_pos RS];rfl
 .rw[if_neg e,if_neg RS]
def swp (d:U)(l:List U)(i j:Int):List U:=bn (bn l i (aL d l j)) j (aL d l i)
theorem QF {d:U}{l:List U}{i j:Int}:(swp d l i j).length=l.length:=by unfold swp;rw[xU,xU]
theorem p9 {d:U}{l:List U}{i j k:Int}(h0:0<=i)(h1:i<l.length)(h2:0<=j)(h3:j<l.length)(hk:0<=k):aL d (swp d l i j) k=if k=j then aL d l i else if k=i then aL d l j else aL d l k:=by unfold swp;rw[apC h2 (by rw[xU];exact h3) hk,apC h0 h1 hk]
theorem aFF {d:U}{l:List U}{i j:Int}(h0:0<=i)(h1:i<l.length)(h2:0<=j)(h3:j<l.length):(swp d l i j).Perm l:=by
 have a1:i.toNat<l.toArray.size:=dz
 have a2:j.toNat<l.toArray.size:=dz
 have:=(Array.swap_perm (xs:=l.toArray) a1 a2).toList;have e:(l.toArray.swap i.toNat j.toNat a1 a2).toList=swp d l i j:=by unfold swp bn aL;rw[Array.toList_swap];simp only[List.size_toArray] at a1 a2;rw[fA a1,fA a2];simp
 rw[e] at this;exact this
structure eF (d:U)(a b:Int)(l l':List U):Prop where
 len:l'.length=l.length
 out:∀k,0<=k->(k<a\/b<=k)->aL d l' k=aL d l k
 perm:l'.Perm l
 all:∀φ:U->Prop,(∀k,a<=k->k<b->φ (aL d l k))->∀k,a<=k->k<b->φ (aL d l' k)
theorem eF.refl (d:U)(a b:Int)(l:List U):eF d a b l l:=⟨rfl,fun _ _ _=>rfl,List.Perm.refl _,fun _ h=>h⟩
theorem eF.trans {d:U}{a b:Int}{l l' l'':List U}(h:eF d a b l l')(k:eF d a b l' l''):eF d a b l l'':=
 ⟨k.len.trans h.len,fun i h0 h1=>(k.out i h0 h1).trans (h.out i h0 h1),k.perm.trans h.perm,fun φ hφ=>k.all φ (h.all φ hφ)⟩
theorem eF.swp {d:U}{a b i j:Int}{l l':List U}(h:eF d a b l l')(ha:0<=a)(hb:b<=l.length)(i0:a<=i)(i1:i<b)(j0:a<=j)(j1:j<b):eF d a b l (swp d l' i j):=by
 have hl:=h.len;refine h.trans ⟨QF,fun k k0 k1=>?_,aFF RS RS RS RS,fun φ hφ k k0 k1=>?_⟩
 .rw[p9 RS RS RS RS k0,if_neg RS,if_neg RS]
 .rw[p9 RS RS RS RS RS];split
  .exact hφ i i0 i1
  .split
   .exact hφ j j0 j1
   .exact hφ k k0 k1
theorem eF.wide {d:U}{a b a' b':Int}{l l':List U}(h:eF d a b l l')(ha:a'<=a)(hb:b<=b')(h0:0<=a'):eF d a' b' l l':=by
 refine⟨h.len,fun k k0 k1=>h.out k k0 RS,h.perm,fun φ hφ k k0 k1=>?_⟩;by_cases hk:a<=k/\k<b
 .have:=h.all (fun x=>φ x) (fun i i0 i1=>hφ i RS RS) k hk.1 hk.2;exact this
 .rw[h.out k RS RS];exact hφ k k0 k1
structure Ord (lt:U->U->Prop):Prop where
 asym:∀x y,lt x y->¬lt y x
 neg:∀x y z,¬lt x y->¬lt y z->¬lt x z
theorem Ord.wF {lt:U->U->Prop}(h:Ord lt)(x:U):¬lt x x:=fun k=>h.asym x x k k
theorem Ord.trans {lt:U->U->Prop}(h:Ord lt){x y z:U}(h1:lt x y)(h2:lt y z):lt x z:=by refine Classical.byContradiction fun k=>?_;exact h.neg x z y k (h.asym y z h2) h1
def lJ (lt:U->U->Prop)(d:U)(a b:Int)(l:List U):Prop:=∀i j,a<=i->i<j->j<b->¬lt (aL d l j) (aL d l i)
theorem lJ.aFG {lt:U->U->Prop}(ho:Ord lt){d:U}{a b:Int}{l:List U}(h:∀i,a<i->i<b->¬lt (aL d l i) (aL d l (i-1))):lJ lt d a b l:=by
 have key:∀(k:Nat)(i j:Int),a<=i->j=i+1+k->j<b->¬lt (aL d l j) (aL d l i):=by
  intro k;induction k with
  |zero=>
   intro i j h0 h1 h2;have:=h j RS h2
   rwa[show j-1=i by omega] at this
  |succ k ih=>intro i j h0 h1 h2;exact ho.neg _ _ _ (h j RS h2) (ih i (j-1) h0 RS RS)
 intro i j h0 h1 h2;exact key (j-i-1).toNat i j h0 RS h2
theorem lJ.pw {lt:U->U->Prop}{d:U}{l:List U}(h:lJ lt d 0 l.length l):l.Pairwise fun x y=>¬lt y x:=by rw[List.pairwise_iff_getElem];intro i j hi hj hij;have:=h (i:Int) (j:Int) RS RS RS;unfold aL at this;rw[Int.toNat_natCast,Int.toNat_natCast,fA hi,fA hj] at this;exact this
def kG (Ok:U->Prop)(l:List U):Prop:=∀x∈l,Ok x
theorem eF.al {Ok:U->Prop}{d:U}{a b:Int}{l l':List U}(h:eF d a b l l')(k:kG Ok l):kG Ok l':=fun x hx=>k x (h.perm.mem_iff.1 hx)
theorem kG.at {Ok:U->Prop}{l:List U}(h:kG Ok l)(d:U){i:Int}(h0:0<=i)(h1:i<l.length):Ok (aL d l i):=h _ (aFE d h0 h1)
def Aq (Ok:U->Prop)(lt:U->U->Prop)(K:{β:Type}->U->U->(Bool->Option β)->Option β):Prop:=∀a b,Ok a->Ok b->∃r:Bool,(r=true↔lt a b)/\∀{β:Type}(f:Bool->Option β),K a b f=f r
theorem tM {β:Type}{Ok:U->Prop}{lt:U->U->Prop}{K:{β:Type}->U->U->(Bool->Option β)->Option β}(h:Aq Ok lt K){a b:U}{f:Bool->Option β}{P:β->Prop}(ha:Ok a)(hb:Ok b)(k:∀r:Bool,(r=true↔lt a b)->∃s,f (decide (r=true))=some s/\P s):∃s,K a b f=some s/\P s:=by obtain⟨r,h1,h2⟩:=h a b ha hb;have:=k r h1;rw[Bool.decide_eq_true] at this;have e:K a b f=f r:=h2 f;rw[e];exact this
end uN
end
section
open Go aR
namespace uN
variable {U:Type}
section
variable {d:U}{Ok:U->Prop}{lt:U->U->Prop}{K:{β:Type}->U->U->(Bool->Option β)->Option β}(hc:Aq Ok lt K)(ho:Ord lt){L4:Int->Int->Int->Nat->Int×List U->Option (PUnit×List U)}(h4:∀(x1 x2 x4:Int) (m:Nat) (x6:Int) (x7:List U),L4 x1 x2 x4 (m+1) (x6,x7)=bif decide (x6>x1) then bif decide (0<=x6/\x6< (x7.length:Int)) then (aH x7 x6).bind fun (r8:U)=>bif decide (0<=(wrap .i64 (x6-(1:Int)))/\(wrap .i64 (x6-(1:Int)))< (x7.length:Int)) then (aH x7 (wrap .i64 (x6-(1:Int)))).bind fun (bG:U)=>
      K r8 bG fun (dx:Bool)=>bif dx then bif decide (0<=(wrap .i64 (x6-(1:Int)))/\(wrap .i64 (x6-(1:Int)))< (x7.length:Int)) then (aH x7 (wrap .i64 (x6-(1:Int)))).bind fun (bN:U)=>bif decide (0<=x6/\x6< (x7.length:Int)) then (aH x7 x6).bind fun (gN:U)=>bif decide (0<=x6/\x6< (x7.length:Int)) then (aH x7 x6).bind fun (_:U)=>bif decide (0<=(wrap .i64 (x6-(1:Int)))/\(wrap .i64 (x6-(1:Int)))< (((bn x7 x6 bN).length:Nat):Int)) then (aH (bn x7 x6 bN) (wrap .i64 (x6-(1:Int)))).bind fun (_:U)=>
           L4 x1 x2 x4 m ((wrap .i64 (x6-(1:Int)),bn (bn x7 x6 bN) (wrap .i64 (x6-(1:Int))) gN))else none else none else none else none else some (((),x7))else none else none else some (((),x7)))
include hc ho h4
theorem aFH {a i x2 x4:Int}{l:List U}{m:Nat}(h0:0<=a)(h1:a<=i)(h2:i<l.length)(hb:l.length<2^60)(hal:kG Ok l)(hs:lJ lt d a i l)(hm:(i-a).toNat<m):
 ∃r,L4 a x2 x4 m (i,l)=some r/\eF d a (i+1) l r.2/\lJ lt d a (i+1) r.2:=by
 refine mu (τ:=Int×List U) (L:=L4 a x2 x4) (fun p=>a<=p.1/\p.1<=i/\eF d a (i+1) l p.2/\(∀u v,a<=u->u<v->v<=i->u≠p.1->v≠p.1->¬lt (aL d p.2 v) (aL d p.2 u))/\(∀v,p.1<v->v<=i->¬lt (aL d p.2 v) (aL d p.2 p.1))) (fun p=>(p.1-a).toNat) _ ?_ m (i,l) ⟨h1,lM _,.refl _ _ _ _,fun u v k1 k2 k3 k4 k5=>hs u v k1 k2 RS,fun v k1 k2=>RS⟩ hm;rintro m ⟨j,D⟩ ⟨i1,i2,i3,i4,i5⟩ gV;dsimp only at i1 i2 i3 i4 i5 gV⊢;have hl:=i3.len;have jV:=i3.al hal;rw[h4];simp (disch:=omega) only[wr];refine tD (fun hj=>?_) (fun hj=>?_)
 .refine tI RS RS (tE (dF d RS RS) (tI RS RS (tE (dF d RS RS) (tM hc (jV.at d RS RS) (jV.at d RS RS) fun r hr=>?_))));refine tD (fun hlt=>?_) (fun hlt=>?_)
  .refine tI RS RS (tE (dF d RS RS) (tI RS RS (tE (dF d RS RS) (tI RS RS (tE (dF d RS RS) (tI RS Cb (tE (dF d RS Cb) ?_)))))));have hlt':=hr.1 hlt;refine gV (j-1,swp d D j (j-1)) ⟨dB,dB,i3.swp h0 RS RS RS RS RS,fun u v k1 k2 k3 k4 k5=>?_,fun v k1 k2=>?_⟩ dB
   .dsimp only at k4 k5⊢;rw[p9 RS RS RS RS RS,p9 RS RS RS RS RS,if_neg k5,if_neg k4];by_cases e1:v=j
    .rw[if_pos e1];by_cases e2:u=j
     .omega
     .rw[if_neg e2];exact i4 u (j-1) k1 RS RS e2 RS
    .rw[if_neg e1];by_cases e2:u=j
     .rw[if_pos e2];exact i4 (j-1) v RS RS k3 RS e1
     .rw[if_neg e2];exact i4 u v k1 k2 k3 e2 e1
   .dsimp only at k1 k2⊢;rw[p9 RS RS RS RS RS,p9 RS RS RS RS RS,if_neg RS,if_pos rfl];by_cases e1:v=j
    .rw[if_pos e1];exact ho.asym _ _ hlt'
    .rw[if_neg e1];exact i5 v RS k2
  .refine tS ⟨i3,?_⟩;have hlt':¬lt (aL d D j) (aL d D (j-1)):=fun h=>hlt (hr.2 h);intro u v k1 k2 k3;by_cases e1:v=j
   .subst e1;by_cases e2:u=v-1
    .rw[e2];exact hlt'
    .exact ho.neg _ _ _ hlt' (i4 u (v-1) k1 RS RS RS RS)
   .by_cases e2:u=j
    .subst e2;exact i5 v k2 RS
    .exact i4 u v k1 k2 RS e2 e1
 .refine tS ⟨i3,?_⟩;have e:j=a:=RS
  intro u v k1 k2 k3;by_cases e2:u=j
  .subst e2;exact i5 v k2 RS
  .exact i4 u v k1 k2 RS e2 RS
variable {n:Nat}{L1:Int->Int->Nat->Int×List U->Option (PUnit×List U)}(h1:∀(x1 x2:Int) (m:Nat) (x4:Int) (x5:List U),L1 x1 x2 (m+1) (x4,x5)=bif decide (x4<x2) then (L4 x1 x2 x4 n ((x4,x5))).bind fun (kF:PUnit×List U)=>
    L1 x1 x2 m ((wrap .i64 (x4+(1:Int)),kF.2))else some (((),x5)))
include h1
theorem aFI {a b:Int}{l:List U}(h0:0<=a)(hab:a<=b)(h2:b<=l.length)(hb:l.length<2^60)(hal:kG Ok l)(hn:(b-a).toNat+1<n):
 ∃r,L1 a b n (wrap .i64 (a+1),l)=some r/\eF d a b l r.2/\lJ lt d a b r.2:=by
 rw[wr RS RS];refine mu (τ:=Int×List U) (L:=L1 a b) (fun p=>a<p.1/\(p.1<=b\/p.1=a+1)/\eF d a b l p.2/\lJ lt d a p.1 p.2) (fun p=>(b-p.1).toNat) _ ?_ n (a+1,l) ⟨dB,.inr rfl,.refl _ _ _ _,fun u v k1 k2 k3=>by dsimp only at k3;omega⟩ dB;rintro m ⟨i,D⟩ ⟨i1,i2,i3,i4⟩ gV;dsimp only at i1 i2 i3 i4 gV⊢;have hl:=i3.len;rw[h1];refine tD (fun hi=>?_) (fun hi=>?_)
 .refine tB (aFH hc ho h4 (d:=d) h0 RS RS RS (i3.al hal) i4 RS) fun r ⟨r1,r2⟩=>?_;rw[wr RS RS];exact gV (i+1,r.2) ⟨dB,.inl dB,i3.trans (r1.wide (lM _) RS h0),r2⟩ dB
 .refine tS ⟨i3,?_⟩;intro u v k1 k2 k3;exact i4 u v k1 k2 RS
end
section
variable {d:U}{n:Nat}{L2:Nat->(Int×Int)×List U->Option (PUnit×List U)}(h2:∀(m:Nat) (x4 x5:Int) (x6:List U),L2 (m+1) ((x4,x5),x6)=bif decide (x4<x5) then bif decide (0<=x5/\x5< (x6.length:Int)) then (aH x6 x5).bind fun (r7:U)=>bif decide (0<=x4/\x4< (x6.length:Int)) then (aH x6 x4).bind fun (r8:U)=>bif decide (0<=x4/\x4< (x6.length:Int)) then (aH x6 x4).bind fun (_:U)=>bif decide (0<=x5/\x5< (((bn x6 x4 r7).length:Nat):Int)) then (aH (bn x6 x4 r7) x5).bind fun (_:U)=>
        L2 m (((wrap .i64 (x4+(1:Int)),wrap .i64 (x5-(1:Int))),bn (bn x6 x4 r7) x5 r8))else none else none else none else none else some (((),x6)))
include h2
theorem revAll {a b:Int}{l:List U}(h0:0<=a)(hab:a<=b)(h3:b<=l.length)(hb:l.length<2^60)(hn:(b-a).toNat+1<n):
 ∃r,L2 n ((a,wrap .i64 (b-1)),l)=some r/\eF d a b l r.2:=by
 rw[wr RS RS];refine mu (τ:=(Int×Int)×List U) (L:=L2) (fun p=>a<=p.1.1/\p.1.2<b/\a-1<=p.1.2/\p.1.1<=b/\eF d a b l p.2) (fun p=>(p.1.2-p.1.1+1).toNat) _ ?_ n ((a,b-1),l) ⟨lM _,dB,dB,dB,.refl _ _ _ _⟩ dB;rintro m ⟨⟨i,j⟩,D⟩ ⟨i1,i2,i3,i4,i5⟩ gV;dsimp only at i1 i2 i3 i4 i5 gV⊢;have hl:=i5.len;rw[h2];refine tD (fun hi=>?_) (fun hi=>tS i5);refine tI RS RS (tE (dF d RS RS) (tI RS RS (tE (dF d RS RS) (tI RS RS (tE (dF d RS RS) (tI RS Cb (tE (dF d RS Cb) ?_)))))));rw[wr RS RS,wr RS RS];exact gV ((i+1,j-1),swp d D i j) ⟨dB,dB,dB,dB,i5.swp h0 RS RS RS RS RS⟩ dB
end
end uN
end
section
open Go aR
namespace uN
variable {U:Type}
def Hp (lt:U->U->Prop)(d:U)(f s hi:Int)(l:List U):Prop:=∀i c,s<=i->(c=2*i+1\/c=2*i+2)->c<hi->¬lt (aL d l (f+i)) (aL d l (f+c))
def two {β:Type}(r:(PUnit×β)⊕(PUnit×β)):β:=Sum.elim (fun q=>q.2) (fun q=>q.2) r
section
variable {d:U}{Ok:U->Prop}{lt:U->U->Prop}{K:{β:Type}->U->U->(Bool->Option β)->Option β}(hc:Aq Ok lt K)(ho:Ord lt){S1:Int->Int->Nat->(Int×List U)->Option ((PUnit×List U)⊕(PUnit×List U))}(hS1:∀(x2 x3:Int) (m:Nat) (x5:Int) (x6:List U),S1 x2 x3 (m+1) (x5,x6)=bif decide ((wrap .i64 ((wrap .i64 ((2:Int)*x5))+(1:Int)))>=x2) then some (.inl (((),x6)))else Option.bind (α:=Int) ( bif decide ((wrap .i64 ((wrap .i64 ((wrap .i64 ((2:Int)*x5))+(1:Int)))+(1:Int)))<x2) then bif decide (0<=(wrap .i64 (x3+(wrap .i64 ((wrap .i64 ((2:Int)*x5))+(1:Int)))))/\(wrap .i64 (x3+(wrap .i64 ((wrap .i64 ((2:Int)*x5))+(1:Int)))))< (x6.length:Int)) then (aH x6 (wrap .i64 (x3+(wrap .i64 ((wrap .i64 ((2:Int)*x5))+(1:Int)))))).bind fun (r7:U)=>bif decide (0<=(wrap .i64 ((wrap .i64 (x3+(wrap .i64 ((wrap .i64 ((2:Int)*x5))+(1:Int)))))+(1:Int)))/\(wrap .i64 ((wrap .i64 (x3+(wrap .i64 ((wrap .i64 ((2:Int)*x5))+(1:Int)))))+(1:Int)))< (x6.length:Int)) then (aH x6 (wrap .i64 ((wrap .i64 (x3+(wrap .i64 ((wrap .i64 ((2:Int)*x5))+(1:Int)))))+(1:Int)))).bind fun (r8:U)=>
        K r7 r8 fun (bG:Bool)=>bif bG then some (wrap .i64 ((wrap .i64 ((wrap .i64 ((2:Int)*x5))+(1:Int)))+(1:Int)))else some (wrap .i64 ((wrap .i64 ((2:Int)*x5))+(1:Int)))else none else none else some (wrap .i64 ((wrap .i64 ((2:Int)*x5))+(1:Int)))) fun (dx:Int)=>bif decide (0<=(wrap .i64 (x3+x5))/\(wrap .i64 (x3+x5))< (x6.length:Int)) then (aH x6 (wrap .i64 (x3+x5))).bind fun (bN:U)=>bif decide (0<=(wrap .i64 (x3+dx))/\(wrap .i64 (x3+dx))< (x6.length:Int)) then (aH x6 (wrap .i64 (x3+dx))).bind fun (gN:U)=>
      K bN gN fun (eG:Bool)=>bif !(eG) then some (.inr (((),x6)))else bif decide (0<=(wrap .i64 (x3+dx))/\(wrap .i64 (x3+dx))< (x6.length:Int)) then (aH x6 (wrap .i64 (x3+dx))).bind fun (fJ:U)=>bif decide (0<=(wrap .i64 (x3+x5))/\(wrap .i64 (x3+x5))< (x6.length:Int)) then (aH x6 (wrap .i64 (x3+x5))).bind fun (kF:U)=>bif decide (0<=(wrap .i64 (x3+x5))/\(wrap .i64 (x3+x5))< (x6.length:Int)) then (aH x6 (wrap .i64 (x3+x5))).bind fun (r16:U)=>bif decide (0<=(wrap .i64 (x3+dx))/\(wrap .i64 (x3+dx))< (((bn x6 (wrap .i64 (x3+x5)) fJ).length:Nat):Int)) then (aH (bn x6 (wrap .i64 (x3+x5)) fJ) (wrap .i64 (x3+dx))).bind fun (lZ:U)=>
           S1 x2 x3 m ((dx,bn (bn x6 (wrap .i64 (x3+x5)) fJ) (wrap .i64 (x3+dx)) kF))else none else none else none else none else none else none)
include hc ho hS1
theorem aFJ {f lo hi:Int}{l:List U}{m:Nat}(h0:0<=f)(hlo:0<=lo)(hlb:lo<2^58)(hhi:0<=hi)(hf:f+hi<=l.length)(hb:l.length<2^58)(hal:kG Ok l)(hh:Hp lt d f (lo+1) hi l)(hm:(hi-lo).toNat<m):
 ∃r,S1 hi f m (lo,l)=some r/\eF d f (f+hi) l (two r)/\Hp lt d f lo hi (two r):=by
 refine mu (τ:=Int×List U) (L:=S1 hi f) (fun p=>lo<=p.1/\(p.1=lo\/p.1<hi)/\eF d f (f+hi) l p.2/\(∀i c,lo<=i->i≠p.1->(c=2*i+1\/c=2*i+2)->c<hi->¬lt (aL d p.2 (f+i)) (aL d p.2 (f+c)))/\
  (∀q c,lo<=q->(p.1=2*q+1\/p.1=2*q+2)->(c=2*p.1+1\/c=2*p.1+2)->c<hi->¬lt (aL d p.2 (f+q)) (aL d p.2 (f+c)))) (fun p=>(hi-p.1).toNat) _ ?_ m (lo,l)
  ⟨lM _,.inl rfl,.refl _ _ _ _,fun i c k1 k2 k3 k4=>hh i c (by dsimp only at k2;omega) k3 k4,fun q c k1 k2=>by dsimp only at k2;omega⟩ hm
 rintro m ⟨x,D⟩ ⟨i1,i2,i3,i4,i5⟩ gV;dsimp only at i1 i2 i3 i4 i5 gV⊢;have hl:=i3.len;have jV:=i3.al hal;rw[hS1];simp (disch:=omega) only[wr];refine tD (fun hge=>tS ⟨i3,fun i c k1 k2 k3=>?_⟩) (fun hge=>?_)
 .by_cases e:i=x
  .omega
  .exact i4 i c k1 e k2 k3
 refine tB (Q:=fun c=>(c=2*x+1\/c=2*x+2)/\c<hi/\∀c',(c'=2*x+1\/c'=2*x+2)->c'<hi->¬lt (aL d D (f+c)) (aL d D (f+c'))) ?_ fun c=>?_
 .refine tD (fun h2=>?_) (fun h2=>tS ⟨.inl rfl,RS,fun c' k1 k2=>?_⟩)
  .refine tI RS RS (tE (dF d RS RS) (tI RS RS (tE (dF d RS RS) (tM hc (jV.at d RS RS) (jV.at d RS RS) fun r hr=>?_))));have e2:f+(2*x+1)+1=f+(2*x+2):=RS
   rw[e2] at hr;refine tD (fun h3=>tS ⟨.inr RS,RS,fun c' k1 k2=>?_⟩) (fun h3=>tS ⟨.inl rfl,RS,fun c' k1 k2=>?_⟩)
   .have hlt:=hr.1 h3;rw[show 2*x+1+1=2*x+2 by omega];rcases k1 with rfl|rfl
    .exact ho.asym _ _ hlt
    .exact ho.wF _
   .rcases k1 with rfl|rfl
    .exact ho.wF _
    .exact fun h=>h3 (hr.2 h)
  .have e:c'=2*x+1:=RS
   rw[e];exact ho.wF _
 .rintro⟨hc1,hc2,hc3⟩;simp (disch:=omega) only[wr];refine tI RS RS (tE (dF d RS RS) (tI RS RS (tE (dF d RS RS) (tM hc (jV.at d RS RS) (jV.at d RS RS) fun r hr=>?_))));refine Em (fun h3=>tS ⟨i3,fun i c' k1 k2 k3=>?_⟩) (fun h3=>?_)
  .by_cases e:i=x
   .subst e;exact ho.neg _ _ _ (fun h=>h3 (hr.2 h)) (hc3 c' k2 k3)
   .exact i4 i c' k1 e k2 k3
  .have hlt:=hr.1 h3;refine tI RS RS (tE (dF d RS RS) (tI RS RS (tE (dF d RS RS) (tI RS RS (tE (dF d RS RS) (tI RS Cb (tE (dF d RS Cb) ?_)))))));have l9:∀k,0<=k->aL d (swp d D (f+x) (f+c)) (f+k)=if k=c then aL d D (f+x) else if k=x then aL d D (f+c) else aL d D (f+k):=fun k hk=>by
    rw[p9 RS RS RS RS RS];by_cases e1:k=c
    .rw[if_pos e1,if_pos RS]
    .rw[if_neg e1,if_neg RS];by_cases e2:k=x
     .rw[if_pos e2,if_pos RS]
     .rw[if_neg e2,if_neg RS]
   refine gV (c,swp d D (f+x) (f+c)) ⟨dB,.inr hc2,i3.swp h0 RS RS RS RS RS,fun i c' k1 k2 k3 k4=>?_,fun q c' k1 k2 k3 k4=>?_⟩ dB
   .dsimp only at k2⊢;rw[l9 i RS,l9 c' RS,if_neg k2];by_cases e1:c'=c
    .have ei:i=x:=RS;rw[if_pos e1,if_pos ei];exact ho.asym _ _ hlt
    .rw[if_neg e1];by_cases e2:c'=x
     .rw[if_pos e2,if_neg RS];exact i5 i c k1 RS hc1 hc2
     .rw[if_neg e2];by_cases e3:i=x
      .rw[if_pos e3];exact hc3 c' RS k4
      .rw[if_neg e3];exact i4 i c' k1 e3 k3 k4
   .dsimp only at k2 k3⊢;have eq:q=x:=RS;rw[l9 q RS,l9 c' RS,if_neg RS,if_pos eq,if_neg RS,if_neg RS];exact i4 c c' RS RS k3 k4
variable {n:Nat}{sift:Unit×Int×Int×Int×(Unit×Unit)->List U->Option (PUnit×List U)}(hS:∀(x1 x2 x3:Int) (x4:List U),sift (((),(x1,(x2,(x3,((),())))))) (x4)=
   (S1 x2 x3 n ((x1,x4))).bind fun (fG:(PUnit×List U)⊕(PUnit×List U))=>
   Sum.elim (fun (aFK:PUnit×List U)=>some (((),aFK.2)))
    (fun (BS:PUnit×List U)=>some (((),BS.2))) fG)
include hS
theorem apD {f lo hi:Int}{l:List U}(h0:0<=f)(hlo:0<=lo)(hlb:lo<2^58)(hhi:0<=hi)(hf:f+hi<=l.length)(hb:l.length<2^58)(hal:kG Ok l)(hh:Hp lt d f (lo+1) hi l)(hn:hi.toNat<n):
 ∃r,sift ((),lo,hi,f,((),())) l=some r/\eF d f (f+hi) l r.2/\Hp lt d f lo hi r.2:=by
 rw[hS];refine tB (aFJ hc ho hS1 (d:=d) h0 hlo hlb hhi hf hb hal hh RS) fun r=>?_;rintro⟨r1,r2⟩;rcases r with r|r<;>exact tS ⟨r1,r2⟩
variable {H4:Int->Int->Nat->(Int×List U)->Option (PUnit×List U)}{Lh:Int->Nat->(Int×List U)->Option (PUnit×List U)}(Qs:∀(x1 x2:Int) (m:Nat) (x4:Int) (x5:List U),H4 x1 x2 (m+1) (x4,x5)=bif decide (x4>=(0:Int)) then (sift (((),(x4,(wrap .i64 (x2-x1),(x1,((),())))))) x5).bind fun (r6:PUnit×List U)=>
    H4 x1 x2 m ((wrap .i64 (x4-(1:Int)),r6.2))else some (((),x5)))(agB:∀(x1:Int) (m:Nat) (x8:Int) (dD:List U),Lh x1 (m+1) (x8,dD)=bif decide (x8>=(0:Int)) then bif decide (0<=(wrap .i64 (x1+x8))/\(wrap .i64 (x1+x8))< (dD.length:Int)) then (aH dD (wrap .i64 (x1+x8))).bind fun (dx:U)=>bif decide (0<=x1/\x1< (dD.length:Int)) then (aH dD x1).bind fun (bN:U)=>bif decide (0<=x1/\x1< (dD.length:Int)) then (aH dD x1).bind fun (gN:U)=>bif decide (0<=(wrap .i64 (x1+x8))/\(wrap .i64 (x1+x8))< (((bn dD x1 dx).length:Nat):Int)) then (aH (bn dD x1 dx) (wrap .i64 (x1+x8))).bind fun (eG:U)=>(sift (((),((0:Int),(x8,(x1,((),())))))) (bn (bn dD x1 dx) (wrap .i64 (x1+x8)) bN)).bind fun (fJ:PUnit×List U)=>
        Lh x1 m ((wrap .i64 (x8-(1:Int)),fJ.2))else none else none else none else none else some (((),dD)))
include Qs
theorem build {a b:Int}{l:List U}{m:Nat}{k:Int}(h0:0<=a)(hab:a<=b)(hbl:b<=l.length)(hb:l.length<2^57)(hal:kG Ok l)(hn:(b-a).toNat<n)(hk: -1<=k)(hkb:k<2^57)(hh:Hp lt d a (k+1) (b-a) l)(hm:(k+1).toNat<m):
 ∃r,H4 a b m (k,l)=some r/\eF d a b l r.2/\Hp lt d a 0 (b-a) r.2:=by
 refine mu (τ:=Int×List U) (L:=H4 a b) (fun p=>-1<=p.1/\p.1<=k/\eF d a b l p.2/\Hp lt d a (p.1+1) (b-a) p.2) (fun p=>(p.1+1).toNat) _ ?_ m (k,l) ⟨hk,lM _,.refl _ _ _ _,hh⟩ hm;rintro m ⟨x,D⟩ ⟨i1,i2,i3,i4⟩ gV;dsimp only at i1 i2 i3 i4 gV⊢;have hl:=i3.len;rw[Qs];refine tD (fun hge=>?_) (fun hge=>tS ⟨i3,?_⟩)
 .simp (disch:=omega) only[wr];refine tB (apD hc ho hS1 hS (d:=d) h0 RS RS RS RS RS (i3.al hal) i4 hn) fun r=>?_;rintro⟨r1,r2⟩;rw[show a+(b-a)=b by omega] at r1;exact gV (x-1,r.2) ⟨dB,dB,i3.trans r1,by rw[show x-1+1=x by omega];exact r2⟩ dB
 .rw[show x+1=0 by omega] at i4;exact i4
omit hc hS1 hS Qs in
theorem Hp.root {f hi:Int}{l:List U}(h:Hp lt d f 0 hi l):∀(k:Nat),(k:Int)<hi->¬lt (aL d l f) (aL d l (f+k)):=by
 intro k;induction k using Nat.strongRecOn with
 |_ k ih=>
  intro hk;cases k with
  |zero=>rw[show f+((0:Nat):Int)=f by omega];exact ho.wF _|succ k=>have h1:=ih (k/2) RS RS;exact ho.neg _ _ _ h1 (h ((k/2:Nat):Int) ((k+1:Nat):Int) RS RS hk)
include agB
theorem pop {a b:Int}{l:List U}{m:Nat}(h0:0<=a)(hab:a<=b)(hbl:b<=l.length)(hb:l.length<2^57)(hal:kG Ok l)(hn:(b-a).toNat<n)(hh:Hp lt d a 0 (b-a) l)(hm:(b-a).toNat<m):
 ∃r,Lh a m (b-a-1,l)=some r/\eF d a b l r.2/\lJ lt d a b r.2:=by
 refine mu (τ:=Int×List U) (L:=Lh a) (fun p=>-1<=p.1/\p.1<b-a/\eF d a b l p.2/\Hp lt d a 0 (p.1+1) p.2/\lJ lt d (a+p.1+1) b p.2/\(∀u v,a<=u->u<=a+p.1->a+p.1<v->v<b->¬lt (aL d p.2 v) (aL d p.2 u))) (fun p=>(p.1+1).toNat) _ ?_ m (b-a-1,l)
  ⟨dB,dB,.refl _ _ _ _,by rw[show b-a-1+1=b-a by omega];exact hh,fun u v k1 k2 k3=>by dsimp only at k1;omega,fun u v k1 k2 k3 k4=>by dsimp only at k3;omega⟩ dB
 rintro m ⟨x,D⟩ ⟨i1,i2,i3,i4,i5,i6⟩ gV;dsimp only at i1 i2 i3 i4 i5 i6 gV⊢;have hl:=i3.len;rw[agB];simp (disch:=omega) only[wr];refine tD (fun hge=>?_) (fun hge=>tS ⟨i3,fun u v k1 k2 k3=>i5 u v RS k2 k3⟩);refine tI RS RS (tE (dF d RS RS) (tI RS RS (tE (dF d RS RS) (tI RS RS (tE (dF d RS RS) (tI RS Cb (tE (dF d RS Cb) ?_)))))));have l9:∀k,0<=k->aL d (swp d D a (a+x)) (a+k)=if k=x then aL d D a else if k=0 then aL d D (a+x) else aL d D (a+k):=fun k hk=>by
  rw[p9 RS RS RS RS RS];by_cases e1:k=x
  .rw[if_pos e1,if_pos RS]
  .rw[if_neg e1,if_neg RS];by_cases e2:k=0
   .rw[if_pos e2,if_pos RS]
   .rw[if_neg e2,if_neg RS]
 have s1:eF d a b l (swp d D a (a+x)):=i3.swp h0 RS RS RS RS RS;have hroot:∀k,0<=k->k<=x->¬lt (aL d D a) (aL d D (a+k)):=fun k k0 k1=>by
  have:=Hp.root ho i4 k.toNat RS
  rwa[show (k.toNat:Int)=k by omega] at this
 refine tB (apD hc ho hS1 hS (d:=d) (hi:=x) (lo:=0) (l:=swp d D a (a+x)) h0 RS RS hge (by rw[QF];omega) (by rw[QF];omega) (s1.al hal) (fun i c k1 k2 k3=>?_) RS) fun r=>?_
 .rw[l9 i RS,l9 c RS,if_neg RS,if_neg RS,if_neg RS,if_neg RS];exact i4 i c RS k2 RS
 .rintro⟨r1,r2⟩;have hM:∀k,x<=k->a+k<b->aL d r.2 (a+k)=aL d (swp d D a (a+x)) (a+k):=fun k k0 k1=>r1.out _ RS RS;have sm:∀φ:U->Prop,(∀k,0<=k->k<=x->φ (aL d D (a+k)))->∀u,a<=u->u<a+x->φ (aL d r.2 u):=fun φ hφ u k0 k1=>by
   refine r1.all φ (fun w w0 w1=>?_) u k0 k1;have:=l9 (w-a) RS;rw[show a+(w-a)=w by omega] at this;rw[this,if_neg RS];by_cases e:w-a=0
   .rw[if_pos e];exact hφ x RS RS
   .rw[if_neg e];have:=hφ (w-a) RS RS
    rwa[show a+(w-a)=w by omega] at this
  refine gV (x-1,r.2) ⟨dB,dB,s1.trans (r1.wide (lM _) RS h0),by rw[show x-1+1=x by omega];exact r2,fun u v k1 k2 k3=>?_,fun u v k1 k2 k3 k4=>?_⟩ dB
  .dsimp only at k1⊢;have e1:=hM (u-a) RS RS;have e2:=hM (v-a) RS RS;rw[show a+(u-a)=u by omega] at e1;rw[show a+(v-a)=v by omega] at e2;have e3:=l9 (u-a) RS;have e4:=l9 (v-a) RS;rw[show a+(u-a)=u by omega] at e3;rw[show a+(v-a)=v by omega] at e4;rw[e1,e2,e3,e4,if_neg (by omega:¬v-a=x),if_neg (by omega:¬v-a=0)];by_cases e:u-a=x
   .rw[if_pos e];exact i6 a v RS RS RS k3
   .rw[if_neg e,if_neg RS];exact i5 u v RS k2 k3
  .dsimp only at k2 k3⊢;have e2:=hM (v-a) RS RS;rw[show a+(v-a)=v by omega] at e2;have e4:=l9 (v-a) RS;rw[show a+(v-a)=v by omega] at e4;rw[e2,e4,if_neg (by omega:¬v-a=0)];by_cases e:v-a=x
   .rw[if_pos e];exact sm (fun z=>¬lt (aL d D a) z) (fun k k0 k1=>hroot k k0 k1) u k1 RS
   .rw[if_neg e];exact sm (fun z=>¬lt (aL d D v) z) (fun k k0 k1=>i6 (a+k) v RS RS RS k4) u k1 RS
variable {heap:Unit×Int×Int×(Unit×Unit)->List U->Option (PUnit×List U)}(hH:∀(x1 x2:Int) (x3:List U),heap (((),(x1,(x2,((),()))))) (x3)=bif !((2:Int)==(0:Int)) then (H4 x1 x2 n ((wrap .i64 (Int.tdiv (wrap .i64 ((wrap .i64 (x2-x1))-(1:Int))) (2:Int)),x3))).bind fun (r7:PUnit×List U)=>(Lh x1 n ((wrap .i64 ((wrap .i64 (x2-x1))-(1:Int)),r7.2))).bind fun (kF:PUnit×List U)=>some (((),kF.2))else none)
include hH
theorem aFL {a b:Int}{l:List U}(h0:0<=a)(hab:a<=b)(hbl:b<=l.length)(hb:l.length<2^57)(hal:kG Ok l)(hn:(b-a).toNat+1<n):
 ∃r,heap ((),a,b,((),())) l=some r/\eF d a b l r.2/\lJ lt d a b r.2:=by
 rw[hH];simp (disch:=omega) only[wr];refine tG aG ?_;have ht:Int.tdiv (b-a-1) 2<=b-a/\ -1<=Int.tdiv (b-a-1) 2/\(0<b-a->b-a-1<2*Int.tdiv (b-a-1) 2+2/\0<=Int.tdiv (b-a-1) 2):=by
  by_cases h:0<b-a
  .rw[Int.tdiv_eq_ediv_of_nonneg RS];omega
  .rw[show b-a-1= -1 by omega];simp;omega
 rw[wr (i:=Int.tdiv (b-a-1) 2) RS RS];refine tB (build hc ho hS1 hS Qs (d:=d) (k:=Int.tdiv (b-a-1) 2) h0 hab hbl hb hal RS RS RS (fun i c k1 k2 k3=>?_) RS) fun r=>?_
 .omega
 .rintro⟨r1,r2⟩;have hl:=r1.len;refine tB (pop hc ho hS1 hS Qs agB (d:=d) h0 hab RS RS (r1.al hal) RS r2 RS) fun s=>?_;rintro⟨s1,s2⟩;exact tS ⟨r1.trans s1,s2⟩
end
end uN
end
