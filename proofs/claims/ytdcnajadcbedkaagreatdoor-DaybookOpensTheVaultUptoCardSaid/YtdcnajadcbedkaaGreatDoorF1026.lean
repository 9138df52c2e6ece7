import Derived.Test.YtdcnajadcbedkaaGreatDoorF1025
set_option linter.all false
open Go.IntKind (wrap)
section
open Go Go.Proofs aQ
namespace Sh
def P7 (l:List Int)(c:Nat):Int:=if c=0 then 0 else l.getD (c-1) 0
def aoA (n:Nat)(c:Int)(r:Row):Prop:=(r.gN=0\/(1<=r.gN/\r.gN<=c))/\y5 r.Entry n/\r.Entry.iT<=65538*c/\0<=r.Entry.iT
structure nu (n:Nat)(s:aM)(b:Book):Prop where
 schema:b.aM=s
 commit:b.bN=((b.gy.length:Nat):Int)
 days:b.gy.length<=2^30
 rows:b.Rows.length<=65536
 row:∀r∈b.Rows,aoA n b.bN r
structure StepB (b:Book)(e:Event)(b':Book):Prop where
 commit:b'.bN=b.bN+1
 day:b'.Day=e.Day
 days:b'.gy=b.gy++[e.Day]
 rows:∃(f:Row->Row) (t:List Row),b'.Rows=b.Rows.map f++t/\∀r,Dd (b.bN+1) r (f r)
 ids:∀y∈b'.Rows,(∃x∈b.Rows,x.Entry.ID=y.Entry.ID)\/(e.Kind=1/\y.Entry.ID=e.ID)
def afw (b:Book)(e:Event)(b':Book):Prop:=∃t:List Row,b'.Rows=b.Rows++t/\∀y∈t,y.gN=0/\y.Entry.From=e.Until
def afx (e:Event):Prop:=(rI e.ID/\rI e.fM/\rI e.Day/\rI e.From/\rI e.Until)/\(∀x∈e.Vec,rI x)/\∀a∈e.aX,rI a.Kind/\rI a.N
theorem aoB {c:Int}(h0:0<=c)(h:c<=2^30):rI c:=QL
theorem P8 {a b:Int}(h:rI a)(g:rI b):rI (imax a b):=by unfold imax;split<;>assumption
theorem afy {a b:Int}(h:rI a)(g:rI b):rI (wT a b):=by unfold wT;split<;>assumption
def afz (e:Event)(n:Nat):Prop:=e.Vec.length<n/\e.Vec.length<2^62/\e.aX.length<n/\e.aX.length<2^62/\afx e
def xM (e:Event)(n:Nat):Prop:=e.Vec.length<n/\e.Vec.length<2^62/\e.aX.length<n/\e.aX.length<2^62/\qI e.Vec e.aX/\afx e
def wB (n:Nat)(s:aM)(b:Book)(e:Event)(r:cB):Prop:=nu n s r.B/\(r.E=0->StepB b e r.B)
theorem xO {n:Nat}{s:aM}{b:Book}{e:Event}(h:nu n s b){k:Int}(hk:k≠0):wB n s b e ⟨b,k⟩:=⟨h,fun h=>absurd h hk⟩
structure BJ (b:Book)(e:Event):Prop where
 c:e.bN=b.bN+1
 c2:e.bN<=2^30
 d:b.Day<=e.Day
theorem xM.entry {n:Nat}{e:Event}(he:xM e n){i v o f r t c:Int}(h1:rI i)(h2:rI o)(h3:rI f)(h4:rI r)(h5:rI t)(h6:rI c):y5 (⟨i,v,o,f,r,t,c,e.Vec,e.aX⟩:Entry) n:=⟨he.1,he.2.1,he.2.2.1,he.2.2.2.1,he.2.2.2.2.1,⟨h1,h2,h3,h4,h5,h6⟩,he.2.2.2.2.2.2⟩
theorem BJ.rc {b:Book}{e:Event}(h:BJ b e)(hb:0<=b.bN:=by omega):rI e.bN:=aoB (by have:=h.c;omega) h.c2
theorem aDX {n:Nat}{e:Event}{mK rows added:List Row}{v ver:Int}{k:Nat}(h:CI n e mK v k ver rows added)(hA:added=[]\/(∃x∈mK,x.Entry.ID=e.ID)\/e.Kind=1):∀y∈rows++added,(∃x∈mK,x.Entry.ID=y.Entry.ID)\/(e.Kind=1/\y.Entry.ID=e.ID):=by
 obtain⟨f,hf,hd⟩:=h.f;intro y hy;rcases rH.1 hy with hy|hy
 .rw[hf] at hy;obtain⟨x,hx,rfl⟩:=Eo.1 hy;exact .inl ⟨x,hx,by rw[(hd x).entry]⟩
 .obtain⟨_,_,a3,_⟩:=h.add y hy;rcases hA with hA| ⟨x,hx,hA⟩|hA
  .rw[hA] at hy;cases hy
  .exact .inl ⟨x,hx,by rw[hA,a3]⟩
  .exact .inr ⟨hA,a3⟩
theorem aDY {n:Nat}{s:aM}{b:Book}{e:Event}(hb:nu n s b)(he:BJ b e){v ver:Int}{k:Nat}{rows added:List Row}(h:CI n e b.Rows v k ver rows added)(hk:k<=65537)(hv0:v<=65538*b.bN)(hvp:0<=v)(hv:∀r∈b.Rows,r.Entry.ID=e.ID->r.Entry.iT<=v)(hlen:rows.length+added.length<=65536)(hA:added=[]\/(∃x∈b.Rows,x.Entry.ID=e.ID)\/e.Kind=1):wB n s b e ⟨⟨b.aM,e.bN,e.Day,([]++b.gy)++[e.Day],([]++rows)++added⟩,0⟩:=by
 obtain⟨f,hf,hd⟩:=h.f;have hcl:=hb.commit;have hc:=he.c;have hc2:=he.c2;have v2:=h.v2;rw[List.nil_append,List.nil_append];refine⟨⟨hb.schema,?_,?_,?_,fun r hr=>?_⟩,fun _=>⟨hc,rfl,rfl,⟨f,added,by show rows++added=_;rw[hf],fun r=>by rw[<-hc];exact hd r⟩,aDX h hA⟩⟩
 .show e.bN=_;rw[fG,List.length_singleton];omega
 .show (b.gy++[e.Day]).length<=_;rw[fG,List.length_singleton];omega
 .show (rows++added).length<=_;rw[fG];omega
 .have hr':r∈rows++added:=hr;show aoA n e.bN r;rcases rH.1 hr' with hr'|hr'
  .rw[hf] at hr';obtain⟨x,hx,rfl⟩:=Eo.1 hr';obtain⟨g1,g2,g3,g4⟩:=hb.row x hx;rcases hd x with h1| ⟨h1,h2⟩
   .rw[h1];exact⟨RS,g2,RS,g4⟩
   .rw[h2];exact⟨.inr ⟨by show 1<=e.bN;omega,lN _⟩,g2,by show x.Entry.iT<=_;omega,g4⟩
  .obtain⟨a1,a2,a3,a4,a5⟩:=h.add r hr';exact⟨.inl a1,a2,RS,RS⟩
theorem P9 {n:Nat}{s:aM}{b:Book}{e:Event}{l:List Row}{to:List dX}{more:Entry}(hn:2^20<n)(hs:rF s n)(hb:nu n s b)(hl:l.length<=65536)(hlt:to.length=l.length)(hlr:∀r∈l,r∈b.Rows/\r.Entry.ID=e.ID)(hto:∀d∈to,rI d.from_/\rI d.to)(hm:y5 more n/\(more.ID=0\/more.ID=e.ID))(he:BJ b e)(hF:l≠[]\/e.Kind=1\/more.ID=0):∃r:cB,Bw n (b,(e,(l,(to,more))))=some r/\wB n s b e r/\(l=[]->r.E=0->∃t:List Row,r.B.Rows=b.Rows++t/\∀y∈t,y.gN=0/\y.Entry.From=more.From):=by
 have hA0:(∃x∈b.Rows,x.Entry.ID=e.ID)\/e.Kind=1\/(l=[]/\more.ID=0):=by
  cases l with
  |cons r l=>exact .inl ⟨r,hlr r (jv ..)⟩|nil=>
   rcases hF with h|h|h
   .exact absurd rfl h
   .exact .inr (.inl h)
   .exact .inr (.inr ⟨rfl,h⟩)
 have hcl:=hb.commit;have afA:=hb.rows;have hc:=he.c;have hc2:=he.c2;have hdl:b.gy.length<2^30:=RS
 have hc1:1<=e.bN:=RS
 obtain⟨v,hv,hv0,hv1,hv2⟩:=aDV (n:=n) (b:=b) (id:=e.ID) (V:=65538*b.bN) RS RS (fun r hr=>(hb.row r hr).2.2.1) RS;obtain⟨⟨ver,rows,added⟩,h1,hI⟩:=aDU (b:=b) (e:=e) (to:=to) (more:=more) (mK:=b.Rows) (v:=v) hn hl hlt (fun r hr=>⟨(hb.row r (hlr r hr).1).2.1,(hlr r hr).2⟩) hto (aoB RS hc2) hc1 afA hv0 RS l.length 0 n v b.Rows [] RS RS ⟨⟨id,aD,fun r=>.inl rfl⟩,lN _,RS,aD,(fun r hr=>by cases hr)⟩;dsimp only at hI;have hrl:=hI.length;have hal:=hI.len;have v1:=hI.v1;have v2:=hI.v2;have hnil:l=[]->added=[]/\rows=b.Rows:=by intro e0;subst e0;obtain⟨m,rfl⟩:∃m,n=m+1:=⟨n-1,RS⟩;rw[afk] at h1;have h1':some ((v,(b.Rows,([]:List Row))))=some (ver,(rows,added)):=h1;cases h1';exact⟨rfl,rfl⟩
 have fin:∀(tO:List Row)(k:Nat)(aoC:Int),CI n e b.Rows v k aoC rows tO->k<=65537->(l=[]->∀y∈tO,y.gN=0/\y.Entry.From=more.From)->(tO=[]\/(∃x∈b.Rows,x.Entry.ID=e.ID)\/e.Kind=1)->∃r:cB,(bif decide ((wrap .i64 ((rows.length:Int)+(((tO.length:Nat):Int))))> (65536:Int)) then some ((⟨b,(2:Int)⟩:cB))else bif bZ (((0:Nat))+b.gy.length) 8 then bif bZ ((([]++b.gy).length)+([e.Day].length)) 8 then bif bZ (((0:Nat))+rows.length) 112 then bif bZ ((([]++rows).length)+tO.length) 112 then some ((⟨(⟨b.aM,e.bN,e.Day,([]++b.gy)++[e.Day],([]++rows)++tO⟩:Book),(0:Int)⟩:cB))else none else none else none else none)=some r/\wB n s b e r/\(l=[]->r.E=0->∃t:List Row,r.B.Rows=b.Rows++t/\∀y∈t,y.gN=0/\y.Entry.From=more.From):=by
  intro tO k aoC k1 k2 k3 k4;have hl':=k1.len;rw[Uj RS];refine kF (fun _=>kP ⟨xO hb aK,fun _ h=>absurd (show (2:Int)=0 from h) aK⟩) (fun hx=>?_);have hx':rows.length+tO.length<=65536:=by have:=of_decide_eq_false hx;omega
  refine KW (KW (KW (KW ?_ dw) dw) dw) dw;exact kP ⟨aDY hb he k1 k2 hv1 hv0 hv2 hx' k4,fun h0 _=>⟨tO,by show ([]++rows)++tO=_;rw[List.nil_append,(hnil h0).2],k3 h0⟩⟩
 rw[aCc];refine fO ⟨v,hv,?_⟩;refine fO ⟨_,h1,?_⟩;dsimp only;have hw:wrap .i64 (ver+(1:Int))=ver+1:=gX RS RS;rw[hw];refine kF (fun hid=>?_) (fun _=>fin added l.length ver hI RS (fun h0 y hy=>by rw[(hnil h0).1] at hy;cases hy) (hA0.elim (fun h=>.inr (.inl h)) (fun h=>h.elim (fun h=>.inr (.inr h)) (fun h=>.inl (hnil h.1).1))));have aDZ:more.ID=e.ID:=hm.2.resolve_left (by simpa using hid);obtain⟨er,her⟩:=aou (n:=n) (s:=b.aM) (e:=⟨more.ID,ver+(1:Int),more.fM,more.iF,more.From,more.To,more.jo,more.Vec,more.aX⟩) (hb.schema.symm▸hs) hm.1;refine fO ⟨er,her,?_⟩;refine kF (fun h0=>kP ⟨xO hb QM,fun _ h=>absurd h QM⟩) (fun _=>?_);refine KW ?_ dw;have:=fin (added++[(⟨(⟨more.ID,ver+(1:Int),more.fM,more.iF,more.From,more.To,more.jo,more.Vec,more.aX⟩:Entry),(0:Int)⟩:Row)]) (l.length+1) (ver+1) (hI.push rfl hm.1 aDZ rfl) RS (fun h0 y hy=>by rw[(hnil h0).1,List.nil_append,iZ] at hy;rw[hy];exact⟨rfl,rfl⟩) (hA0.elim (fun h=>.inr (.inl h)) (fun h=>h.elim (fun h=>.inr (.inr h)) (fun h=>absurd h.2 (by simpa using hid))));exact this
theorem aD0 {n:Nat}{s:aM}{b:Book}{e:Event}(hn:2^20<n)(hs:rF s n)(hb:nu n s b)(he:xM e n)(hv:BJ b e)(hk1:e.Kind=1):∃r:cB,ZZ n (b,e)=some r/\wB n s b e r/\(r.E=0->afw b e r.B):=by have hr:=hb.rows;obtain⟨h,hh⟩:=aDI (n:=n) (b:=b) (d:=e.ID) RS RS;rw[aCd];refine fO ⟨h,hh,?_⟩;refine kF (fun _=>kP ⟨xO hb aK,fun h=>absurd (show (6:Int)=0 from h) aK⟩) (fun _=>?_);have hcl:=hb.commit;have hen:y5 (⟨e.ID,(1:Int),e.fM,e.Day,e.Until,(1048577:Int),e.bN,e.Vec,e.aX⟩:Entry) n:=he.entry he.2.2.2.2.2.1.1 he.2.2.2.2.2.1.2.1 he.2.2.2.2.2.1.2.2.1 he.2.2.2.2.2.1.2.2.2.2 QL hv.rc;obtain⟨er,her⟩:=aou (n:=n) (s:=b.aM) (e:=⟨e.ID,(1:Int),e.fM,e.Day,e.Until,(1048577:Int),e.bN,e.Vec,e.aX⟩) (hb.schema.symm▸hs) hen;refine fO ⟨er,her,?_⟩;refine kF (fun h0=>kP ⟨xO hb QM,fun h=>absurd h QM⟩) (fun _=>?_);obtain⟨r,h1,h2,h3⟩:=P9 (l:=[]) (to:=[]) (more:=⟨e.ID,(1:Int),e.fM,e.Day,e.Until,(1048577:Int),e.bN,e.Vec,e.aX⟩) hn hs hb aD rfl aD (fun d hd=>uW) ⟨hen,.inr rfl⟩ hv (.inr (.inl hk1));exact fO ⟨r,h1,kP ⟨h2,fun h=>h3 rfl h⟩⟩
theorem afB {n:Nat}{l:List Row}(h:l≠[])(hb:l.length<2^62):∃x:Row,x∈l/\Bz n l=some x.Entry.To:=by have hp:0<l.length:=uZ.2 h;obtain⟨x,hx,hxm⟩:=Dt (l:=l) (i:=l.length-1) RS;exact⟨x,hxm,by rw[aCf,Ui hp hb];exact bs hx rfl⟩
theorem afC {L:Nat->List dX->Int->Option (List dX)}{l:List Row}(hl:l.length<=65536)(hs:∀m (i:Nat) (acc:List dX),i<l.length->acc.length=i->∃d:dX,(rI d.from_/\rI d.to)/\L (m+1) acc (i:Int)=L m (acc++[d]) ((i+1:Nat):Int))(hf:∀m acc,L (m+1) acc (l.length:Int)=some acc){n:Nat}(hn:l.length<n):∃to:List dX,L n [] (0:Int)=some to/\to.length=l.length/\∀d∈to,rI d.from_/\rI d.to:=by
 have key:∀(k i m:Nat)(acc:List dX),i+k=l.length->k<m->acc.length=i->(∀d∈acc,rI d.from_/\rI d.to)->∃to:List dX,L m acc (i:Int)=some to/\to.length=l.length/\∀d∈to,rI d.from_/\rI d.to:=by
  intro k;induction k with
  |zero=>
   intro i m acc hi hm ha hac;obtain⟨m,rfl⟩:∃m',m=m'+1:=⟨m-1,RS⟩;obtain rfl:i=l.length:=RS
   exact⟨acc,hf _ _,ha,hac⟩
  |succ k ih=>intro i m acc hi hm ha hac;obtain⟨m,rfl⟩:∃m',m=m'+1:=⟨m-1,RS⟩;obtain⟨d,hdr,hd⟩:=hs m i acc RS ha;rw[hd];exact ih (i+1) m _ RS RS (by simp[ha]) (fun y hy=>by rcases rH.1 hy with hy|hy;exact hac y hy;rw[iZ.1 hy];exact hdr)
 exact key l.length 0 n [] RS hn rfl (fun d hd=>uW)
theorem afD {n:Nat}(hn:2^20<n):y5 (⟨(0:Int),(0:Int),(0:Int),(0:Int),(0:Int),(0:Int),(0:Int),[],[]⟩:Entry) n:=⟨dw,aD,dw,aD,⟨aD,aD,fun x hx=>absurd hx List.not_mem_nil⟩,⟨Gx,Gx,Gx,Gx,Gx,Gx⟩,fun x hx=>absurd hx List.not_mem_nil,fun x hx=>absurd hx List.not_mem_nil⟩
theorem aD1 {n:Nat}{s:aM}{b:Book}{e:Event}{l:List Row}(hn:2^20<n)(hs:rF s n)(hb:nu n s b)(he:xM e n)(hv:BJ b e)(hne:l≠[])(hl:l.length<=65536)(hlr:∀r∈l,r∈b.Rows/\r.Entry.ID=e.ID):∃r:cB,DC n (b,(e,l))=some r/\wB n s b e r:=by
 have hp:0<l.length:=uZ.2 hne;obtain⟨x,hx,hxm⟩:=Dt (l:=l) (i:=0) hp;obtain⟨tr,htr,ht⟩:=afB (n:=n) hne RS;have hrow:∀r∈l,Gp r.Entry:=fun r hr=>(hb.row r (hlr r hr).1).2.1.2.2.2.2.2;have hcl:=hb.commit;obtain⟨t',ht'⟩:=KV (c:= !(decide (e.From< (0:Int)))) (o:=Bz n l) (d:=(0:Int)) (fun _=>⟨tr.Entry.To,ht⟩);obtain⟨to,h1,h2,hto⟩:=afC (L:=fun m acc i=>Gi n b e l x m (acc,i)) (n:=n) hl (fun m i acc hi ha=>by
  obtain⟨y,hy,hym⟩:=Dt (l:=l) (i:=i) hi;refine⟨⟨y.Entry.From,wT y.Entry.To (imax (imax e.From x.Entry.From) y.Entry.From)⟩,⟨(hrow y hym).1.2.2.2.1,afy (hrow y hym).1.2.2.2.2.1 (P8 (P8 he.2.2.2.2.2.1.2.2.2.1 (hrow x hxm).1.2.2.2.1) (hrow y hym).1.2.2.2.1)⟩,?_⟩;show Gi n b e l x (m+1) (acc,(i:Int))=_;rw[anD,decide_eq_true RS,cond_true];refine bs hy ?_;rw[fU RS];exact Uk dw)
  (fun m acc=>by show Gi n b e l x (m+1) (acc,(l.length:Int))=_;rw[anD,zU];rfl) RS
 obtain⟨r,h3,h4,_⟩:=P9 (l:=l) (to:=to) (more:=⟨x.Entry.ID,x.Entry.iT,x.Entry.fM,x.Entry.iF,imax e.From x.Entry.From,tr.Entry.To,e.bN,e.Vec,e.aX⟩) hn hs hb hl h2 hlr hto ⟨he.entry (hrow x hxm).1.1 (hrow x hxm).1.2.1 (hrow x hxm).1.2.2.1 (P8 he.2.2.2.2.2.1.2.2.2.1 (hrow x hxm).1.2.2.2.1) (hrow tr htr).1.2.2.2.2.1 hv.rc,.inr (hlr x hxm).2⟩ hv (.inl hne);rw[aCg];refine fO ⟨x,hx,?_⟩;refine fO ⟨t',ht',?_⟩;refine kF (fun _=>kP (xO hb aK)) (fun _=>?_);refine fO ⟨to,h1,?_⟩;refine fO ⟨x,hx,?_⟩;refine fO ⟨tr.Entry.To,ht,?_⟩;exact fO ⟨r,h3,kP h4⟩
theorem aD2 {n:Nat}{s:aM}{b:Book}{e:Event}{l:List Row}(hn:2^20<n)(hs:rF s n)(hb:nu n s b)(he:xM e n)(hv:BJ b e)(hne:l≠[])(hl:l.length<=65536)(hlr:∀r∈l,r∈b.Rows/\r.Entry.ID=e.ID):∃r:cB,DF n (b,(e,l))=some r/\wB n s b e r:=by
 obtain⟨tr,htr,ht⟩:=afB (n:=n) hne RS;have hrow:∀r∈l,Gp r.Entry:=fun r hr=>(hb.row r (hlr r hr).1).2.1.2.2.2.2.2;have hcl:=hb.commit;obtain⟨to,h1,h2,hto⟩:=afC (L:=fun m acc i=>Gj n b e l m (acc,i)) (n:=n) hl (fun m i acc hi ha=>by
  obtain⟨y,hy,hym⟩:=Dt (l:=l) (i:=i) hi;refine⟨⟨y.Entry.From,wT y.Entry.To (imax e.From y.Entry.From)⟩,⟨(hrow y hym).1.2.2.2.1,afy (hrow y hym).1.2.2.2.2.1 (P8 he.2.2.2.2.2.1.2.2.2.1 (hrow y hym).1.2.2.2.1)⟩,?_⟩;show Gj n b e l (m+1) (acc,(i:Int))=_;rw[anE,decide_eq_true RS,cond_true];refine bs hy ?_;rw[fU RS];exact Uk dw)
  (fun m acc=>by show Gj n b e l (m+1) (acc,(l.length:Int))=_;rw[anE,zU];rfl) RS
 obtain⟨r,h3,h4,_⟩:=P9 (l:=l) (to:=to) hn hs hb hl h2 hlr hto ⟨afD hn,.inl rfl⟩ hv (.inl hne);rw[aCh];refine kF (fun _=>?_) (fun _=>kP (xO hb aK));refine fO ⟨tr.Entry.To,ht,?_⟩;refine kF (fun _=>kP (xO hb aK)) (fun _=>?_);refine fO ⟨to,h1,?_⟩;exact fO ⟨r,h3,kP h4⟩
theorem aD3 {n:Nat}{s:aM}{b:Book}{e:Event}{l:List Row}(hn:2^20<n)(hs:rF s n)(hb:nu n s b)(he:xM e n)(hv:BJ b e)(hne:l≠[])(hl:l.length<=65536)(hlr:∀r∈l,r∈b.Rows/\r.Entry.ID=e.ID):∃r:cB,QQ n (b,(e,l))=some r/\wB n s b e r:=by
 have hp:0<l.length:=uZ.2 hne;obtain⟨x,hx,hxm⟩:=Dt (l:=l) (i:=0) hp;obtain⟨tr,htr,ht⟩:=afB (n:=n) hne RS;have hrow:∀r∈l,Gp r.Entry:=fun r hr=>(hb.row r (hlr r hr).1).2.1.2.2.2.2.2;have hcl:=hb.commit;obtain⟨to,h1,h2,hto⟩:=afC (L:=fun m acc i=>D6 n b e l x m (acc,i)) (n:=n) hl (fun m i acc hi ha=>by
  obtain⟨y,hy,hym⟩:=Dt (l:=l) (i:=i) hi;refine⟨bif bif (i:Int)==(0:Int) then decide (e.Until<x.Entry.From) else false then ⟨e.Until,y.Entry.To⟩ else ⟨imax y.Entry.From (wT e.Until y.Entry.To),y.Entry.To⟩,?_,?_⟩
  .cases (bif (i:Int)==(0:Int) then decide (e.Until<x.Entry.From) else false)
   .exact⟨P8 (hrow y hym).1.2.2.2.1 (afy he.2.2.2.2.2.1.2.2.2.2 (hrow y hym).1.2.2.2.2.1),(hrow y hym).1.2.2.2.2.1⟩
   .exact⟨he.2.2.2.2.2.1.2.2.2.2,(hrow y hym).1.2.2.2.2.1⟩
  show D6 n b e l x (m+1) (acc,(i:Int))=_;rw[anF,decide_eq_true RS,cond_true];refine bs hy ?_;cases (bif (i:Int)==(0:Int) then decide (e.Until<x.Entry.From) else false)
  .rw[cond_false,cond_false,fU RS];exact Uk dw
  .rw[cond_true,cond_true,fU RS];exact Uk dw)
  (fun m acc=>by show D6 n b e l x (m+1) (acc,(l.length:Int))=_;rw[anF,zU];rfl) RS
 obtain⟨r,h3,h4,_⟩:=P9 (l:=l) (to:=to) hn hs hb hl h2 hlr hto ⟨afD hn,.inl rfl⟩ hv (.inl hne);rw[aCi];refine fO ⟨x,hx,?_⟩;refine kF (fun _=>kP (xO hb aK)) (fun _=>?_);refine kF (fun _=>?_) (fun _=>kP (xO hb aK));refine fO ⟨tr.Entry.To,ht,?_⟩;refine kF (fun _=>kP (xO hb aK)) (fun _=>?_);refine fO ⟨to,h1,?_⟩;exact fO ⟨r,h3,kP h4⟩
theorem afE {n:Nat}{s:aM}{b:Book}{e:Event}(hn:2^20<n)(hs:rF s n)(hb:nu n s b)(he:xM e n):∃r:cB,Ki n (b,e)=some r/\wB n s b e r/\(r.E=0->e.Kind=1->afw b e r.B):=by
 have hcl:=hb.commit;have afA:=hb.rows;have hdl:=hb.days;rw[aCj];refine kF (fun _=>kP ⟨xO hb aK,fun h=>absurd (show (9:Int)=0 from h) aK⟩) (fun hcond=>?_);have hw:wrap .i64 (b.bN+(1:Int))=b.bN+1:=by rw[hcl,IntKind.wrap_i64];omega
 rw[hw] at hcond;have hc:e.bN=b.bN+1:=by
  by_cases c:e.bN=b.bN+1
  .exact c
  .rw[bne_iff_ne.2 c] at hcond;simp at hcond
 have hc2:e.bN<=2^30:=by
  by_cases c:e.bN> (1073741824:Int)
  .rw[decide_eq_true c] at hcond;cases h:(e.bN !=b.bN+1)<;>rw[h] at hcond<;>simp at hcond
  .omega
 have hdd:b.Day<=e.Day:=by
  by_cases c:e.Day<b.Day
  .rw[decide_eq_true c] at hcond;cases h:(e.bN !=b.bN+1)<;>rw[h] at hcond
   .cases h':decide (e.bN> (1073741824:Int))<;>rw[h'] at hcond<;>simp at hcond
   .simp at hcond
  .omega
 have hv:BJ b e:=⟨hc,hc2,hdd⟩;obtain⟨l,hl1,hl2,hl3⟩:=aDR (n:=n) (b:=b) (id:=e.ID) RS RS;have err:∀k:Int,k≠0->∃r:cB,some ((⟨b,k⟩:cB))=some r/\wB n s b e r:=fun k hk=>kP (xO hb hk);have live:∃r:cB,((Dz n ((b,e.ID))).bind fun (r5:List Row)=>bif (r5.length:Int)==(0:Int) then some ((⟨b,(5:Int)⟩:cB))else bif e.Kind==(2:Int) then (DC n ((b,(e,r5)))).bind fun (r6:cB)=>some r6 else bif e.Kind==(3:Int) then (DF n ((b,(e,r5)))).bind fun (r7:cB)=>some r7 else (QQ n ((b,(e,r5)))).bind fun (r8:cB)=>some r8)=some r/\wB n s b e r:=by
  refine fO ⟨l,hl1,?_⟩;refine kF (fun _=>err 5 aK) (fun hne=>?_);have hne':l≠[]:=by rintro rfl;simp at hne
  have afF:l.length<=65536:=eZ hl2 afA;refine kF (fun _=>?_) (fun _=>kF (fun _=>?_) (fun _=>?_))
  .obtain⟨r,h1,h2⟩:=aD1 hn hs hb he hv hne' afF hl3;exact fO ⟨r,h1,kP h2⟩
  .obtain⟨r,h1,h2⟩:=aD2 hn hs hb he hv hne' afF hl3;exact fO ⟨r,h1,kP h2⟩
  .obtain⟨r,h1,h2⟩:=aD3 hn hs hb he hv hne' afF hl3;exact fO ⟨r,h1,kP h2⟩
 have tL:∀{o:Option cB},(e.Kind==(1:Int))=false->(∃r:cB,o=some r/\wB n s b e r)->∃r:cB,o=some r/\wB n s b e r/\(r.E=0->e.Kind=1->afw b e r.B):=fun hk ⟨r,h1,h2⟩=>⟨r,h1,h2,fun _ h3=>by rw[h3] at hk;simp at hk⟩;refine kF (fun hk=>?_) (fun hk=>tL hk (kF (fun _=>?_) (fun _=>kF (fun _=>live) (fun _=>kF (fun _=>live) (fun _=>kF (fun _=>live) (fun _=>err 1 aK))))))
 .obtain⟨r,h1,h2,h3⟩:=aD0 hn hs hb he hv (beq_iff_eq.1 hk);exact fO ⟨r,h1,kP ⟨h2,fun h _=>h3 h⟩⟩
 .obtain⟨r,h1,h2,_⟩:=P9 (l:=[]) (to:=[]) hn hs hb aD rfl aD (fun d hd=>uW) ⟨afD hn,.inl rfl⟩ hv (.inr (.inr rfl));exact fO ⟨r,h1,kP h2⟩
def mM (n:Nat):Book->List Event->Book->Prop
 |b,[],b'=>b'=b|b,e::l,b'=>∃r:cB,Ki n (b,e)=some r/\r.E=0/\mM n r.B l b'
theorem mM.aoD {n:Nat}:∀{l:List Event}{b b1 b2:Book},mM n b l b1->mM n b l b2->b1=b2
 | [],b,b1,b2,h1,h2=>by have h1:b1=b:=h1;have h2:b2=b:=h2;rw[h1,h2]|e::l,b,b1,b2,⟨r1,a1,_,c1⟩,⟨r2,a2,_,c2⟩=>by rw[a1] at a2;cases a2;exact mM.aoD c1 c2
theorem mM.split {n:Nat}:∀{l1 l2:List Event}{b b':Book},mM n b (l1++l2) b'->∃bm,mM n b l1 bm/\mM n bm l2 b'
 | [],l2,b,b',h=>⟨b,rfl,h⟩|e::l1,l2,b,b',⟨r,a,c,d⟩=>by obtain⟨bm,h1,h2⟩:=mM.split d;exact⟨bm,⟨r,a,c,h1⟩,h2⟩
structure Later (a b:Book):Prop where
 c:a.bN<=b.bN
 days:∃t,b.gy=a.gy++t
 rows:∃(f:Row->Row) (t:List Row),b.Rows=a.Rows.map f++t/\∀r,f r=r\/(r.gN=0/\∃c,a.bN<c/\f r=⟨r.Entry,c⟩)
theorem Later.refl (a:Book):Later a a:=⟨lN _,⟨[],aD⟩,id,[],aD,fun r=>.inl rfl⟩
theorem Later.trans {a b c:Book}(h0:0<=a.bN)(h:Later a b)(g:Later b c):Later a c:=by
 obtain⟨h1,⟨t,h2⟩,f,u,h3,h4⟩:=h;obtain⟨g1,⟨t',g2⟩,f',u',g3,g4⟩:=g;refine⟨Int.le_trans h1 g1,⟨t++t',by rw[g2,h2,fP]⟩,fun r=>f' (f r),u.map f'++u',by rw[g3,h3,qM,Ap,fP];rfl,fun r=>?_⟩;rcases h4 r with e| ⟨e1,k,e2,e3⟩
 .rcases g4 r with e'| ⟨Ja,k',e2',e3'⟩
  .left;show f' (f r)=r;rw[e,e']
  .right;exact⟨Ja,k',RS,by show f' (f r)=_;rw[e,e3']⟩
 .right;rcases g4 (f r) with e'| ⟨Ja,_⟩
  .exact⟨e1,k,e2,by show f' (f r)=_;rw[e',e3]⟩
  .rw[e3] at Ja;have:k=0:=Ja;omega
theorem StepB.later {b b':Book}{e:Event}(h:StepB b e b'):Later b b':=by
 obtain⟨h1,h2,h3,⟨f,t,h4,h5⟩,_⟩:=h;refine⟨RS,⟨[e.Day],h3⟩,f,t,h4,fun r=>?_⟩;rcases h5 r with g| ⟨g1,g2⟩
 .exact .inl g
 .exact .inr ⟨g1,b.bN+1,RS,g2⟩
theorem mM.ok {n:Nat}{s:aM}(hn:2^20<n)(hs:rF s n):∀{l:List Event}{b b':Book},nu n s b->(∀e∈l,xM e n)->mM n b l b'->nu n s b'/\Later b b'
 | [],b,b',hb,_,h=>by have h:b'=b:=h;subst h;exact⟨hb,.refl _⟩|e::l,b,b',hb,he,⟨r,h1,h2,h3⟩=>by obtain⟨r',g1,⟨g2,g3⟩,_⟩:=afE hn hs hb (he e (jv ..));rw[h1] at g1;cases g1;obtain⟨k1,k2⟩:=mM.ok hn hs g2 (fun x hx=>he x (jT _ hx)) h3;have hc:=hb.commit;exact⟨k1,(g3 h2).later.trans RS k2⟩
theorem mM.filed {n:Nat}{s:aM}(hn:2^20<n)(hs:rF s n):∀{l:List Event}{b b':Book},nu n s b->(∀e∈l,xM e n)->mM n b l b'->∀r∈b'.Rows,(∃x∈b.Rows,x.Entry.ID=r.Entry.ID)\/∃e∈l,e.Kind=1/\e.ID=r.Entry.ID
 | [],b,b',hb,_,h=>by have h:b'=b:=h;subst h;exact fun r hr=>.inl ⟨r,hr,rfl⟩
 |e::l,b,b',hb,he,⟨r,h1,h2,h3⟩=>by
  obtain⟨r',g1,⟨g2,g3⟩,_⟩:=afE hn hs hb (he e (jv ..));rw[h1] at g1;cases g1;intro y hy;rcases mM.filed hn hs g2 (fun x hx=>he x (jT _ hx)) h3 y hy with ⟨x,hx,hxy⟩| ⟨x,hx,hxy⟩
  .rcases (g3 h2).ids x hx with ⟨z,hz,hzx⟩| ⟨k1,k2⟩
   .exact .inl ⟨z,hz,hzx.trans hxy⟩
   .exact .inr ⟨e,jv ..,k1,k2.symm.trans hxy⟩
  .exact .inr ⟨x,jT _ hx,hxy⟩
def book0 (s:aM):Book:=⟨s,0,0,[],[]⟩
theorem afG (n:Nat)(s:aM):nu n s (book0 s):=⟨rfl,rfl,by simp[book0],by simp[book0],fun r hr=>by cases hr⟩
def Gq (n:Nat)(s:aM):Prop:=F8 n s=some ⟨book0 s,0⟩
theorem aD4 {n:Nat}{s:aM}(hn:2^20<n)(hs:rF s n):Gq n s\/∃nw:cB,F8 n s=some nw/\nw.E≠0:=by
 obtain⟨e0,he0⟩:=aDE hs RS;have e:F8 n s=_:=(aB3 n s).trans (bs he0 rfl);cases h:(e0 !=(0:Int))
 .rw[h] at e;exact .inl e
 .rw[h] at e;exact .inr ⟨_,e,ze⟩
theorem aD5 {n:Nat}{s:aM}{l:List Event}(hn:2^20<n)(hs:rF s n)(hl:l.length<n)(hb:l.length<2^62)(he:∀e∈l,xM e n):∃f:gU,OA n (s,l)=some f/\(f.E=0->Gq n s/\mM n (book0 s) l f.B)/\(Gq n s->∀b,mM n (book0 s) l b->f.E=0/\f.B=b):=by
 have key:∀(k i m:Nat)(f:gU)(bk:cB),i+k=l.length->k<m->bk.E=0->nu n s bk.B->∃q:(PUnit×gU×cB)⊕(PUnit×gU),KI n l m ((i:Int),(f,bk))=some q/\(match q with
  |.inl q=>q.2.2.E=0/\mM n bk.B (l.drop i) q.2.2.B|.inr q=>q.2.E≠0/\∀b,¬mM n bk.B (l.drop i) b):=by
  intro k;induction k with
  |zero=>intro i m f bk hi hm hz hB;obtain⟨m,rfl⟩:∃m',m=m'+1:=⟨m-1,RS⟩;refine⟨.inl ((),(f,bk)),by rw[afl,decide_eq_false RS];rfl,hz,?_⟩;rw[nG RS];rfl
  |succ k ih=>
   intro i m f bk hi hm hz hB;obtain⟨m,rfl⟩:∃m',m=m'+1:=⟨m-1,RS⟩;have hlt:i<l.length:=RS
   have hx:l[i]? =some l[i]:=fI hlt;obtain⟨r,h1,⟨h2,h3⟩,_⟩:=afE hn hs hB (he _ (lM hlt));rw[om hlt,afl,decide_eq_true RS,hz];refine fO ⟨_,eG hx,?_⟩;refine fO ⟨r,h1,?_⟩;refine kF (fun hE=>kP ⟨by simpa using hE,?_⟩) (fun hE=>?_)
   .rintro b ⟨r',a1,a2,_⟩;rw[h1] at a1;cases a1;rw[a2] at hE;simp at hE
   .have hE':r.E=0:=(by simpa using hE);rw[fU RS];obtain⟨q,q1,q2⟩:=ih (i+1) m f r RS RS hE' h2;refine⟨q,q1,?_⟩;cases q with
    |inl q=>exact⟨q2.1,r,h1,hE',q2.2⟩|inr q=>refine⟨q2.1,?_⟩;rintro b ⟨r',a1,a2,a3⟩;rw[h1] at a1;cases a1;exact q2.2 b a3
 rw[aCk];rcases aD4 hn hs with hnw| ⟨nw,hnw,hE⟩
 .obtain⟨q,h1,h2⟩:=key l.length 0 n ⟨⟨⟨0,0,[]⟩,0,0,[],[]⟩,0,0⟩ ⟨book0 s,0⟩ RS hl rfl (afG n s);refine fO ⟨_,hnw,?_⟩;refine fO ⟨q,h1,?_⟩;cases q with
  |inl q=>have h2':mM n (book0 s) l q.2.2.B:=h2.2;refine kF (fun hz=>?_) (fun hz=>kP ⟨fun _=>⟨hnw,h2'⟩,fun _ b hb=>⟨rfl,mM.aoD h2' hb⟩⟩);rw[h2.1] at hz;simp at hz
  |inr q=>exact kP ⟨fun h=>absurd h h2.1,fun _ b hb=>absurd hb (h2.2 b)⟩
 .have hq:KI n l n ((0:Int),((⟨⟨⟨0,0,[]⟩,0,0,[],[]⟩,0,0⟩:gU),nw))=some (.inl ((),(⟨⟨⟨0,0,[]⟩,0,0,[],[]⟩,0,0⟩,nw))):=by
   obtain⟨m,rfl⟩:∃m,n=m+1:=⟨n-1,RS⟩;rw[afl];have e1:(nw.E==(0:Int))=false:=by simpa using hE
   rw[e1];cases decide ((0:Int)< (l.length:Int))<;>rfl
  refine fO ⟨_,hnw,?_⟩;refine fO ⟨_,hq,?_⟩;have hno:¬Gq n s:=fun h=>by unfold Gq at h;rw[hnw] at h;cases h;exact hE rfl
  refine kF (fun hz=>kP ⟨fun h=>absurd h hE,fun h=>absurd h hno⟩) (fun hz=>?_);have:nw.E=0:=by simpa using hz
  exact absurd this hE
theorem aD6 {n:Nat}{s:aM}{l:List Event}(hn:2^20<n)(hs:rF s n)(hl:l.length<n)(hb:l.length<2^62)(he:∀e∈l,afz e n):∃q:Book×Bool,OB n (s,l)=some q/\(q.2=true->Gq n s/\mM n (book0 s) l q.1/\∀e∈l,xM e n)/\(Gq n s->∀b,mM n (book0 s) l b->q.1=b\/q.1.Rows=[]):=by
 obtain⟨b1,h1⟩:=aDH (n:=n) (l:=l) (k:=25) ⟨hl,hb,fun x hx=>⟨(he x hx).2.2.1,(he x hx).2.2.2.1⟩⟩;obtain⟨b2,h2⟩:=KV (c:= !(!b1)) (o:=Ke n (s,(6:Int))) (d:=false) (fun _=>aDF hs);rw[aCl];refine fO ⟨b1,h1,?_⟩;refine fO ⟨b2,h2,?_⟩;refine kF (fun _=>kP ⟨(fun h=>cZ),fun _ b _=>.inr rfl⟩) (fun hc=>?_);have hb1:b1=true:=by cases b1<;>simp at hc⊢
 rw[hb1] at h1;have ht:=aDO hb (fun e h=>(he e h).2.2.2.1) h1;have hev:∀e∈l,xM e n:=fun e h=>⟨(he e h).1,(he e h).2.1,(he e h).2.2.1,(he e h).2.2.2.1,ht e h,(he e h).2.2.2.2⟩;obtain⟨f,f1,f2,f3⟩:=aD5 hn hs hl hb hev;refine fO ⟨f,f1,kP ⟨fun h=>?_,fun ho b hr=>.inl (f3 ho b hr).2⟩⟩;obtain⟨g1,g2⟩:=f2 ze;exact⟨g1,g2,hev⟩
def Qa (b:Book)(r:Row):Nat:=if r.gN>0 then (r.gN-1).toNat else b.bN.toNat
def qd (b:Book)(r:Row):Bool:=decide (r.Entry.From<=P7 b.gy (Qa b r))
theorem aD7 {n:Nat}{b:Book}{c:Nat}(h:c<=b.gy.length)(hb:b.gy.length<=2^30):Kj n (b,(c:Int))=some (P7 b.gy c):=by
 rw[aCm];cases c with
 |zero=>rfl|succ c=>
  have hx:b.gy[c]? =some b.gy[c]:=fI RS;have hw:wrap .i64 (((c+1:Nat):Int)-(1:Int))=((c:Nat):Int):=by have:=Ui (i:=c+1) RS RS;simpa using this
  have e:(((c+1:Nat):Int)==(0:Int))=false:=dw
  rw[e,cond_false,hw];refine bs (eG hx) ?_;unfold P7;rw[if_neg RS,nE,show c+1-1=c by omega,hx];rfl
theorem aoE {n:Nat}{s:aM}{b:Book}(hb:nu n s b){r:Row}(hr:r∈b.Rows):Qa b r<=b.gy.length:=by have hc:=hb.commit;have:=(hb.row r hr).1;unfold Qa;split<;>omega
theorem aD8 {n:Nat}{s:aM}{b:Book}(hb:nu n s b){r:Row}(hr:r∈b.Rows):Kk n (b,r)=some (qd b r):=by
 have hc:=hb.commit;have hd:=(hb.row r hr).1;have hl:=aoE hb hr;have FT:=hb.days;have key:=aD7 (n:=n) hl FT;unfold qd;unfold Qa at key hl⊢;rw[aCn];by_cases h:r.gN>0
 .rw[if_pos h] at key hl;rw[decide_eq_true h,cond_true,if_pos h];have hw:wrap .i64 (r.gN-(1:Int))=(((r.gN-1).toNat:Nat):Int):=by rw[gX RS RS];omega
  rw[hw];exact bs key rfl
 .rw[if_neg h] at key hl;rw[decide_eq_false h,cond_false,if_neg h];have hw:b.bN=((b.bN.toNat:Nat):Int):=RS
  rw[<-hw] at key;exact bs key rfl
theorem aD9 {n:Nat}{b:Book}{p:Row->Bool}(hl:b.Rows.length<=65536)(hp:∀r∈b.Rows,Kk n (b,r)=some (p r)):∀(k i m:Nat)(x y:List Row),i+k=b.Rows.length->k<m->x.length<=i->y.length<=i->
 KJ n b.Rows b.aM.j3 b.aM.lY b.aM.Defs b.bN b.Day b.gy b.Rows m (x,(y,(i:Int)))=some (x++(b.Rows.drop i).filter p,y++(b.Rows.drop i).filter fun r=>!p r):=by
 intro k;induction k with
 |zero=>intro i m x y hi hm hx hy;obtain⟨m,rfl⟩:∃m',m=m'+1:=⟨m-1,RS⟩;rw[anG,decide_eq_false RS,nG RS];simp
 |succ k ih=>
  intro i m x y hi hm hx hy;obtain⟨m,rfl⟩:∃m',m=m'+1:=⟨m-1,RS⟩;have hlt:i<b.Rows.length:=RS
  have hg:b.Rows[i]? =some b.Rows[i]:=fI hlt;have hp':=hp _ (lM hlt);rw[anG,iU hg,cond_true,om hlt];refine bs (eG hg) ?_;have h1:OE n (b.Rows[i],(b.aM.j3,(b.aM.lY,(b.aM.Defs,(b.bN,(b.Day,(b.gy,b.Rows)))))))=some (p b.Rows[i]):=(aCo n _ _ _ _ _ _ _ _).trans (bs hp' rfl);refine bs h1 ?_;rw[fU RS];cases hv:p b.Rows[i]
  .refine kQ rfl (iV (uR dw RS) ?_);rw[ih (i+1) m x (y++[b.Rows[i]]) RS RS RS dw,Ev sH,Ew sH,fP];rfl
  .refine iV rfl (iV (uR dw RS) ?_);rw[ih (i+1) m (x++[b.Rows[i]]) y RS RS dw RS,Ew sH,Ev sH,fP];rfl
theorem aEa {n:Nat}{l:List Row}(hl:l.length<=65536):∀(k i m:Nat)(x y:List Row),i+k=l.length->k<m->x.length<=i->y.length<=i->
 KL n l m (x,(y,(i:Int)))=some (x++(l.drop i).filter fun r=>r.gN==(0:Int),y++(l.drop i).filter fun r=>!(r.gN==(0:Int))):=by
 intro k;induction k with
 |zero=>intro i m x y hi hm hx hy;obtain⟨m,rfl⟩:∃m',m=m'+1:=⟨m-1,RS⟩;rw[anH,decide_eq_false RS,nG RS];simp
 |succ k ih=>
  intro i m x y hi hm hx hy;obtain⟨m,rfl⟩:∃m',m=m'+1:=⟨m-1,RS⟩;have hlt:i<l.length:=RS
  have hg:l[i]? =some l[i]:=fI hlt;rw[anH,iU hg,cond_true,om hlt];refine bs (eG hg) ?_;refine bs (aCq n _) ?_;rw[fU RS];cases hv:(l[i].gN==(0:Int))
  .refine kQ rfl (iV (uR dw RS) ?_);rw[ih (i+1) m x (y++[l[i]]) RS RS RS dw,Ev sH,Ew sH,fP];rfl
  .refine iV rfl (iV (uR dw RS) ?_);rw[ih (i+1) m (x++[l[i]]) y RS RS dw RS,Ew sH,Ev sH,fP];rfl
def VB (b:Book):List Row:=b.Rows.filter (qd b)
def qJ (b:Book):List Row:=(b.Rows.filter fun r=>!qd b r).filter fun r=>r.gN==(0:Int)
theorem aoF {n:Nat}{s:aM}{b:Book}(hn:2^20<n)(hb:nu n s b):Kl n b=some (VB b,qJ b):=by have aoG:=hb.rows;have hf:(b.Rows.filter fun r=>!qd b r).length<=b.Rows.length:=List.length_filter_le _ _;have h1:=aD9 (n:=n) aoG (fun r hr=>aD8 hb hr) b.Rows.length 0 n [] [] RS RS (iR _) (iR _);have h2:=aEa (n:=n) (l:=b.Rows.filter fun r=>!qd b r) RS (b.Rows.filter fun r=>!qd b r).length 0 n [] [] RS RS (iR _) (iR _);rw[List.nil_append,List.nil_append,qm] at h1 h2;rw[aCs];refine bs (a:=(VB b,b.Rows.filter fun r=>!qd b r)) ((aCp n _ _ _ _ _ _ _ _).trans (bs h1 rfl)) ?_;exact bs (a:=(qJ b,(b.Rows.filter fun r=>!qd b r).filter fun r=>!(r.gN==(0:Int)))) ((aCr n _).trans (bs h2 rfl)) rfl
theorem afH (b:Book):qJ b=b.Rows.filter fun r=>!qd b r&& (r.gN==(0:Int)):=by unfold qJ;rw[List.filter_filter];congr 1;funext r;exact Bool.and_comm _ _
end Sh
end
section
open Go Go.Proofs aQ
namespace Sh
set_option maxRecDepth 100000
attribute [local irreducible] j4
theorem aEb {n:Nat}{b:Book}{c:Nat}(h:c<=b.gy.length)(hb:b.gy.length<=2^30):KD n (b,(c:Int))=some (P7 b.gy c):=by
 rw[aC4];cases c with
 |zero=>rfl|succ c=>
  have hx:b.gy[c]? =some b.gy[c]:=fI RS;have hw:wrap .i64 (((c+1:Nat):Int)-(1:Int))=((c:Nat):Int):=by have:=Ui (i:=c+1) RS RS;simpa using this
  have e:(bif decide (((c+1:Nat):Int)< (1:Int)) then true else decide (((c+1:Nat):Int)> ((b.gy.length:Nat):Int)))=false:=by rw[decide_eq_false RS,cond_false];exact decide_eq_false RS
  rw[e,cond_false,hw];refine bs (eG hx) ?_;unfold P7;rw[if_neg RS,nE,show c+1-1=c by omega,hx];rfl
theorem aEc {n:Nat}{s:aM}{b:Book}(hb:nu n s b){r:Row}(hr:r∈b.Rows):Pq n (b,r)=some (qd b r):=by
 have hc:=hb.commit;have hd:=(hb.row r hr).1;have hl:=aoE hb hr;have FT:=hb.days;have key:=aEb (n:=n) hl FT;unfold qd;unfold Qa at key hl⊢;rw[aC5];by_cases h:r.gN>0
 .rw[if_pos h] at key hl;have e:(r.gN==(0:Int))=false:=by rw[beq_eq_false_iff_ne];omega
  rw[e,cond_false,if_pos h];have hw:wrap .i64 (r.gN-(1:Int))=(((r.gN-1).toNat:Nat):Int):=by rw[gX RS RS];omega
  rw[hw];exact bs key rfl
 .rw[if_neg h] at key hl;have e:(r.gN==(0:Int))=true:=by rw[beq_iff_eq];omega
  rw[e,cond_true,if_neg h];have hw:b.bN=((b.bN.toNat:Nat):Int):=RS
  rw[<-hw] at key;exact bs key rfl
def Qb (b:Book)(x:Bool)(r:Row):Bool:=bif x then qd b r else !qd b r&& (r.gN==(0:Int))
theorem aEd {n:Nat}{s:aM}{b:Book}{x:Bool}(hb:nu n s b):∀(k i m:Nat)(acc:List Row),i+k=b.Rows.length->k<m->acc.length<=i->KQ n b x m (acc,(i:Int))=some (acc++(b.Rows.drop i).filter (Qb b x)):=by
 have hl:=hb.rows;intro k;induction k with
 |zero=>intro i m acc hi hm ha;obtain⟨m,rfl⟩:∃m',m=m'+1:=⟨m-1,RS⟩;rw[aoj,decide_eq_false RS,nG RS];simp
 |succ k ih=>
  intro i m acc hi hm ha;obtain⟨m,rfl⟩:∃m',m=m'+1:=⟨m-1,RS⟩;have hlt:i<b.Rows.length:=RS
  have hg:b.Rows[i]? =some b.Rows[i]:=fI hlt;have hp:=aEc (n:=n) hb (lM hlt);rw[aoj,iU hg,cond_true,om hlt];refine bs (eG hg) (bs hp ?_);refine bs ((congrArg (fun o=>nU _ o _) (eG hg)).trans Uh) ?_;rw[fU RS];have hc':∀d:Row,(bif bif qd b b.Rows[i] then x else false then true else bif bif !qd b b.Rows[i] then !x else false then (bif (bif !(bif qd b b.Rows[i] then x else false) then bif !qd b b.Rows[i] then !x else false else false) then b.Rows[i] else d).gN==(0:Int) else false)=Qb b x b.Rows[i]:=by intro d;unfold Qb;cases hv:qd b b.Rows[i]<;>cases x<;>simp
  cases hv:Qb b x b.Rows[i]
  .refine kQ ((hc' _).trans hv) ?_;rw[ih (i+1) m acc RS RS RS,Ev sH]
  .refine iV ((hc' _).trans hv) (bs (eG hg) (iV (uR dw RS) ?_));rw[ih (i+1) m (acc++[b.Rows[i]]) RS RS dw,Ew sH,fP];rfl
theorem aEe {n:Nat}{s:aM}{b:Book}(x:Bool)(hn:2^20<n)(hb:nu n s b):KE n (b,x)=some (b.Rows.filter (Qb b x)):=by have aoG:=hb.rows;rw[aC6];refine bs (aEd (n:=n) (x:=x) hb b.Rows.length 0 n [] RS RS (iR _)) ?_;rw[List.nil_append,qm]
theorem aEf {n:Nat}{s:aM}{b:Book}(hn:2^20<n)(hb:nu n s b):KE n (b,false)=some (qJ b):=by rw[afH];exact aEe false hn hb
theorem KX (x y:au):xB x y=true↔x=y:=by rw[BG];cases x;cases y;simp only[aZ,beq_iff_eq,au.mk.injEq,and_true]
theorem aEg {n:Nat}{l:List au}{x:au}(hn:2^20<n)(hb:l.length<=65536):∀(k i m m':Nat)(q:iG),i+k=l.length->k<m->k<m'->x∉l.take i->(∃(j:Nat) (p:List au),l[j]? =some x/\p.length<=65536/\ZS n (l,(j:Int))=some (p,(0:Int))/\KO n l x m (i:Int)=some (.inr ((j:Int),(p,(0:Int))))/\KP n l x m' ((i:Int),q)=some (.inr ((),⟨(j:Int),p,(0:Int)⟩)))\/ (x∉l/\KO n l x m (i:Int)=some (.inl ())/\KP n l x m' ((i:Int),q)=some (.inl ((),q))):=by
 intro k;induction k with
 |zero=>
  intro i m m' q hi hm hm' hx;obtain⟨m,rfl⟩:∃m',m=m'+1:=⟨m-1,RS⟩;obtain⟨m',rfl⟩:∃m'',m'=m''+1:=⟨m'-1,RS⟩;rw[rJ RS] at hx;refine .inr ⟨hx,?_,?_⟩
  .rw[aob,decide_eq_false RS,cond_false]
  .rw[aoi,decide_eq_false RS,cond_false]
 |succ k ih=>
  intro i m m' q hi hm hm' hx;obtain⟨m,rfl⟩:∃m',m=m'+1:=⟨m-1,RS⟩;obtain⟨m',rfl⟩:∃m'',m'=m''+1:=⟨m'-1,RS⟩;have hlt:i<l.length:=RS
  have hg:l[i]? =some l[i]:=fI hlt;rw[aob,aoi,iU hg,cond_true,cond_true,fU RS];cases he:xB l[i] x with
  |true=>
   have hxe:=(KX _ _).1 he;obtain⟨p,e,e1,e2,_,e4,e5⟩:=aDi (n:=n) (l:=l) (i:=(i:Int)) hn hb;obtain rfl:=e4 RS;refine .inl ⟨i,p,by rw[hg,hxe],e5,e1,?_,?_⟩
   .exact bs (eG hg) (iV ((BG _ _).symm.trans he) (bs e1 rfl))
   .exact bs (eG hg) (iV ((BG _ _).symm.trans he) (bs e2 rfl))
  |false=>
   have hxe:l[i]≠x:=fun h=>by rw[(KX _ _).2 h] at he;cases he
   have hx':x∉l.take (i+1):=by
    rw[List.take_succ,hg];intro h;rcases rH.1 h with h|h
    .exact hx h
    .simp at h;exact hxe h.symm
   rcases ih (i+1) m m' q RS RS RS hx' with ⟨j,p,h1,h0,h2,h3,h4⟩| ⟨h1,h3,h4⟩
   .exact .inl ⟨j,p,h1,h0,h2,bs (eG hg) (kQ ((BG _ _).symm.trans he) h3),bs (eG hg) (kQ ((BG _ _).symm.trans he) h4)⟩
   .exact .inr ⟨h1,bs (eG hg) (kQ ((BG _ _).symm.trans he) h3),bs (eG hg) (kQ ((BG _ _).symm.trans he) h4)⟩
theorem afI {n:Nat}{l:List au}{x:au}(hn:2^20<n)(hb:l.length<=65536):∃(j:Int) (p:List au) (e:Int),Gd n (l,x)=some (j,(p,e))/\Vt n (l,x)=some (⟨j,p,e⟩:iG)/\p.length<=65536/\ ((e=0/\∃k:Nat,j=(k:Int)/\l[k]? =some x/\ZS n (l,j)=some (p,(0:Int)))\/(e=5/\x∉l/\p=[])):=by
 rw[aCP,aC3];rcases aEg (n:=n) (l:=l) (x:=x) hn hb l.length 0 n n ⟨(0:Int),[],(0:Int)⟩ RS RS RS aD with ⟨j,p,h1,h0,h2,h3,h4⟩| ⟨h1,h3,h4⟩
 .exact⟨(j:Int),p,0,bs h3 rfl,bs h4 rfl,h0,.inl ⟨rfl,j,rfl,h1,h2⟩⟩
 .exact⟨0,[],5,bs h3 rfl,bs h4 rfl,aD,.inr ⟨rfl,h1,rfl⟩⟩
def xP (id:Int)(e:Event):Bool:=bif e.Kind==(1:Int) then e.ID==id else false
def pK (l:List Event)(id:Int):Int:=match l.findIdx? (xP id) with
 |some i=>(i:Int)|none=>-1
theorem aEh {n:Nat}{l:List Event}{r:Row}(h:l.length<n)(hb:l.length<2^62):OG n (l,((),(r.Entry.ID,(r.Entry.iT,(r.Entry.fM,(r.Entry.iF,(r.Entry.From,(r.Entry.To,(r.Entry.jo,(r.Entry.Vec,(r.Entry.aX,r.gN)))))))))))=some (pK l r.Entry.ID):=by
 have:=J5 (L:=fun m i=>PD n l r.Entry.ID r.Entry.iT r.Entry.fM r.Entry.iF r.Entry.From r.Entry.To r.Entry.jo r.Entry.Vec r.Entry.aX r.gN m i) (l:=l) (fun d i r'=>bif xP r.Entry.ID d then some (.inr (i:Int)) else r') (some (.inl ()))
  (fun m i d hd=>by have hlt:=pI hd;rw[anI,iU hd,cond_true,fU RS];exact bs (eG hd) (bs (aCt n _ _ _ _ _ _ _ _ _ _ _) rfl))
  (fun m=>by rw[anI,zU];rfl) h
 rw[aCu,this,F4 (xP r.Entry.ID) (fun i=>(Sum.inr (i:Int):PUnit⊕Int)) (.inl ())];unfold pK;cases l.findIdx? (xP r.Entry.ID) with
 |none=>rfl|some j=>simp;rfl
theorem afJ {n:Nat}{l:List Event}{id:Int}(h:l.length<n)(hb:l.length<2^62):Kt n (l,id)=some (pK l id):=by
 have:=J5 (L:=fun m i=>PS n l id m i) (l:=l) (fun d i r'=>bif xP id d then some (.inr (i:Int)) else r') (some (.inl ()))
  (fun m i d hd=>by have hlt:=pI hd;rw[aoa,iU hd,cond_true,fU RS];refine bs (eG hd) (bs ((congrArg (fun o=>nU _ o _) (eG hd)).trans Uh) ?_);unfold xP;cases d.Kind==(1:Int)<;>rfl)
  (fun m=>by rw[aoa,zU];rfl) h
 rw[aCO,this,F4 (xP id) (fun i=>(Sum.inr (i:Int):PUnit⊕Int)) (.inl ())];unfold pK;cases l.findIdx? (xP id) with
 |none=>rfl|some j=>simp;rfl
theorem VD {l:List Event}{id:Int}(h:¬pK l id<0):∃(j:Nat) (e:Event),pK l id=(j:Int)/\l[j]? =some e/\e.Kind=1/\e.ID=id:=by
 unfold pK at h⊢;cases hf:l.findIdx? (xP id) with
 |none=>rw[hf] at h;exact absurd (show (-1:Int)<0 by decide) h|some j=>
  obtain⟨hj,h2,_⟩:=List.findIdx?_eq_some_iff_getElem.1 hf;refine⟨j,l[j],rfl,fI hj,?_⟩;unfold xP at h2;cases hk:(l[j].Kind==(1:Int)) with
  |false=>rw[hk] at h2;cases h2|true=>rw[hk] at h2;exact⟨beq_iff_eq.1 hk,beq_iff_eq.1 h2⟩
theorem aEi {l:List Event}{e:Event}(h:e∈l)(hk:e.Kind=1):¬pK l e.ID<0:=by
 unfold pK;cases hf:l.findIdx? (xP e.ID) with
 |none=>rw[List.findIdx?_eq_none_iff] at hf;have:=hf e h;unfold xP at this;rw[beq_iff_eq.2 hk] at this;simp at this|some j=>show¬((j:Nat):Int)<0;omega
end Sh
end
section
open Go aQ
namespace tQ
variable {U β γ:Type}
theorem tG {c:Bool}{o:Option U}{P:U->Prop}(h:c=true)(k:∃r,o=some r/\P r):∃r,(bif c then o else none)=some r/\P r:=Ef
theorem tI {i:Int}{n:Nat}{o:Option U}{P:U->Prop}(h0:0<=i)(h1:i<n)(k:∃r,o=some r/\P r):∃r,(bif decide (0<=i/\i< ((n:Nat):Int)) then o else none)=some r/\P r:=tG (decide_eq_true ⟨h0,h1⟩) k
theorem tD {p:Prop}[Decidable p]{a b:Option U}{P:U->Prop}(ha:p->∃r,a=some r/\P r)(hb:¬p->∃r,b=some r/\P r):∃r,(bif decide p then a else b)=some r/\P r:=by
 by_cases h:p
 .rw[decide_eq_true h];exact ha h
 .rw[decide_eq_false h];exact hb h
theorem D7 {p:Prop}[Decidable p]{a b:Option U}{P:U->Prop}(ha:¬p->∃r,a=some r/\P r)(hb:p->∃r,b=some r/\P r):∃r,(bif !decide p then a else b)=some r/\P r:=by
 by_cases h:p
 .rw[decide_eq_true h];exact hb h
 .rw[decide_eq_false h];exact ha h
theorem D8 {c:Bool}{a b:Option U}{P:U->Prop}(ha:c=true->∃r,a=some r/\P r)(hb:c=false->∃r,b=some r/\P r):∃r,(bif c then a else b)=some r/\P r:=by
 cases c
 .exact hb rfl
 .exact ha rfl
theorem tS {a:U}{P:U->Prop}(h:P a):∃r,some a=some r/\P r:=⟨a,rfl,h⟩
theorem tB {o:Option U}{f:U->Option β}{Q:U->Prop}{P:β->Prop}(h:∃x,o=some x/\Q x)(k:∀x,Q x->∃r,f x=some r/\P r):∃r,o.bind f=some r/\P r:=by obtain⟨x,e,q⟩:=h;rw[e];exact k x q
theorem tE {o:Option U}{f:U->Option β}{x:U}{P:β->Prop}(h:o=some x)(k:∃r,f x=some r/\P r):∃r,o.bind f=some r/\P r:=Ef
theorem tW {o:Option U}{P Q:U->Prop}(h:∃r,o=some r/\Q r)(k:∀r,Q r->P r):∃r,o=some r/\P r:=by obtain⟨x,e,q⟩:=h;exact⟨x,e,k x q⟩
theorem mu {τ:Type}{L:Nat->τ->Option β}(Inv:τ->Prop)(VE:τ->Nat)(Post:β->Prop)(h:∀m p,Inv p->(∀p',Inv p'->VE p'<VE p->∃r,L m p'=some r/\Post r)->∃r,L (m+1) p=some r/\Post r):∀m p,Inv p->VE p<m->∃r,L m p=some r/\Post r
 |0,p,_,hm=>RS|m+1,p,hp,hm=>h m p hp fun p' hp' hlt=>mu Inv VE Post h m p' hp' RS
theorem wr {i:Int}(h0: -(2^62)<=i)(h:i<=2^62):wrap .i64 i=i:=Ai
def aL (d:U)(l:List U)(i:Int):U:=(l[i.toNat]?).getD d
theorem dD (d:U){l:List U}{i:Int}(h0:0<=i)(h1:i<l.length):aG l i=some (aL d l i):=by
 unfold aG aL;rw[if_pos ⟨h0,h1⟩];have:i.toNat<l.length:=RS
 rw[fI this];rfl
theorem aEj (d:U){l:List U}{i:Int}(h0:0<=i)(h1:i<l.length):aL d l i∈l:=by
 unfold aL;have:i.toNat<l.length:=RS
 rw[fI this];exact lM _
theorem xR {l:List U}{i:Int}{x:U}:(bf l i x).length=l.length:=by unfold bf;exact List.length_set
theorem aoH {d:U}{l:List U}{i k:Int}{x:U}(h0:0<=i)(h1:i<l.length)(hk:0<=k):aL d (bf l i x) k=if k=i then x else aL d l k:=by
 unfold aL bf;rw[List.getElem?_set];by_cases e:k=i
 .subst e;rw[if_pos rfl,if_pos rfl,if_pos RS];rfl
 .rw[if_neg e,if_neg RS]
def swp (d:U)(l:List U)(i j:Int):List U:=bf (bf l i (aL d l j)) j (aL d l i)
theorem Qq {d:U}{l:List U}{i j:Int}:(swp d l i j).length=l.length:=by unfold swp;rw[xR,xR]
theorem qg {d:U}{l:List U}{i j k:Int}(h0:0<=i)(h1:i<l.length)(h2:0<=j)(h3:j<l.length)(hk:0<=k):aL d (swp d l i j) k=if k=j then aL d l i else if k=i then aL d l j else aL d l k:=by unfold swp;rw[aoH h2 (by rw[xR];exact h3) hk,aoH h0 h1 hk]
theorem aEk {d:U}{l:List U}{i j:Int}(h0:0<=i)(h1:i<l.length)(h2:0<=j)(h3:j<l.length):(swp d l i j).Perm l:=by
 have a1:i.toNat<l.toArray.size:=dw
 have a2:j.toNat<l.toArray.size:=dw
 have:=(Array.swap_perm (xs:=l.toArray) a1 a2).toList;have e:(l.toArray.swap i.toNat j.toNat a1 a2).toList=swp d l i j:=by unfold swp bf aL;rw[Array.toList_swap];simp only[List.size_toArray] at a1 a2;rw[fI a1,fI a2];simp
 rw[e] at this;exact this
structure eF (d:U)(a b:Int)(l l':List U):Prop where
 len:l'.length=l.length
 out:∀k,0<=k->(k<a\/b<=k)->aL d l' k=aL d l k
 perm:l'.Perm l
 all:∀φ:U->Prop,(∀k,a<=k->k<b->φ (aL d l k))->∀k,a<=k->k<b->φ (aL d l' k)
theorem eF.refl (d:U)(a b:Int)(l:List U):eF d a b l l:=⟨rfl,fun _ _ _=>rfl,List.Perm.refl _,fun _ h=>h⟩
theorem eF.trans {d:U}{a b:Int}{l l' l'':List U}(h:eF d a b l l')(k:eF d a b l' l''):eF d a b l l'':=
 ⟨k.len.trans h.len,fun i h0 h1=>(k.out i h0 h1).trans (h.out i h0 h1),k.perm.trans h.perm,fun φ hφ=>k.all φ (h.all φ hφ)⟩
theorem eF.swp {d:U}{a b i j:Int}{l l':List U}(h:eF d a b l l')(ha:0<=a)(hb:b<=l.length)(i0:a<=i)(i1:i<b)(j0:a<=j)(j1:j<b):eF d a b l (swp d l' i j):=by
 have hl:=h.len;refine h.trans ⟨Qq,fun k k0 k1=>?_,aEk RS RS RS RS,fun φ hφ k k0 k1=>?_⟩
 .rw[qg RS RS RS RS k0,if_neg RS,if_neg RS]
 .rw[qg RS RS RS RS RS];split
  .exact hφ i i0 i1
  .split
   .exact hφ j j0 j1
   .exact hφ k k0 k1
theorem eF.wide {d:U}{a b a' b':Int}{l l':List U}(h:eF d a b l l')(ha:a'<=a)(hb:b<=b')(h0:0<=a'):eF d a' b' l l':=by
 refine⟨h.len,fun k k0 k1=>h.out k k0 RS,h.perm,fun φ hφ k k0 k1=>?_⟩;by_cases hk:a<=k/\k<b
 .have:=h.all (fun x=>φ x) (fun i i0 i1=>hφ i RS RS) k hk.1 hk.2;exact this
 .rw[h.out k RS RS];exact hφ k k0 k1
structure Ord (lt:U->U->Prop):Prop where
 asym:∀x y,lt x y->¬lt y x
 neg:∀x y z,¬lt x y->¬lt y z->¬lt x z
theorem Ord.wC {lt:U->U->Prop}(h:Ord lt)(x:U):¬lt x x:=fun k=>h.asym x x k k
theorem Ord.trans {lt:U->U->Prop}(h:Ord lt){x y z:U}(h1:lt x y)(h2:lt y z):lt x z:=by refine Classical.byContradiction fun k=>?_;exact h.neg x z y k (h.asym y z h2) h1
def lJ (lt:U->U->Prop)(d:U)(a b:Int)(l:List U):Prop:=∀i j,a<=i->i<j->j<b->¬lt (aL d l j) (aL d l i)
theorem lJ.aEl {lt:U->U->Prop}(ho:Ord lt){d:U}{a b:Int}{l:List U}(h:∀i,a<i->i<b->¬lt (aL d l i) (aL d l (i-1))):lJ lt d a b l:=by
 have key:∀(k:Nat)(i j:Int),a<=i->j=i+1+k->j<b->¬lt (aL d l j) (aL d l i):=by
  intro k;induction k with
  |zero=>
   intro i j h0 h1 h2;have:=h j RS h2
   rwa[show j-1=i by omega] at this
  |succ k ih=>intro i j h0 h1 h2;exact ho.neg _ _ _ (h j RS h2) (ih i (j-1) h0 RS RS)
 intro i j h0 h1 h2;exact key (j-i-1).toNat i j h0 RS h2
theorem lJ.pw {lt:U->U->Prop}{d:U}{l:List U}(h:lJ lt d 0 l.length l):l.Pairwise fun x y=>¬lt y x:=by rw[List.pairwise_iff_getElem];intro i j hi hj hij;have:=h (i:Int) (j:Int) RS RS RS;unfold aL at this;rw[Int.toNat_natCast,Int.toNat_natCast,fI hi,fI hj] at this;exact this
def kG (Ok:U->Prop)(l:List U):Prop:=∀x∈l,Ok x
theorem eF.al {Ok:U->Prop}{d:U}{a b:Int}{l l':List U}(h:eF d a b l l')(k:kG Ok l):kG Ok l':=fun x hx=>k x (h.perm.mem_iff.1 hx)
theorem kG.at {Ok:U->Prop}{l:List U}(h:kG Ok l)(d:U){i:Int}(h0:0<=i)(h1:i<l.length):Ok (aL d l i):=h _ (aEj d h0 h1)
def Af (Ok:U->Prop)(lt:U->U->Prop)(K:{β:Type}->U->U->(Bool->Option β)->Option β):Prop:=∀a b,Ok a->Ok b->∃r:Bool,(r=true↔lt a b)/\∀{β:Type}(f:Bool->Option β),K a b f=f r
theorem tM {β:Type}{Ok:U->Prop}{lt:U->U->Prop}{K:{β:Type}->U->U->(Bool->Option β)->Option β}(h:Af Ok lt K){a b:U}{f:Bool->Option β}{P:β->Prop}(ha:Ok a)(hb:Ok b)(k:∀r:Bool,(r=true↔lt a b)->∃s,f (decide (r=true))=some s/\P s):∃s,K a b f=some s/\P s:=by obtain⟨r,h1,h2⟩:=h a b ha hb;have:=k r h1;rw[Bool.decide_eq_true] at this;have e:K a b f=f r:=h2 f;rw[e];exact this
end tQ
end
section
open Go aQ
namespace tQ
variable {U:Type}
section
variable {d:U}{Ok:U->Prop}{lt:U->U->Prop}{K:{β:Type}->U->U->(Bool->Option β)->Option β}(hc:Af Ok lt K)(ho:Ord lt){L4:Int->Int->Int->Nat->Int×List U->Option (PUnit×List U)}(h4:∀(x1 x2 x4:Int) (m:Nat) (x6:Int) (x7:List U),L4 x1 x2 x4 (m+1) (x6,x7)=bif decide (x6>x1) then bif decide (0<=x6/\x6< (x7.length:Int)) then (aG x7 x6).bind fun (r8:U)=>bif decide (0<=(wrap .i64 (x6-(1:Int)))/\(wrap .i64 (x6-(1:Int)))< (x7.length:Int)) then (aG x7 (wrap .i64 (x6-(1:Int)))).bind fun (cK:U)=>
      K r8 cK fun (dB:Bool)=>bif dB then bif decide (0<=(wrap .i64 (x6-(1:Int)))/\(wrap .i64 (x6-(1:Int)))< (x7.length:Int)) then (aG x7 (wrap .i64 (x6-(1:Int)))).bind fun (bG:U)=>bif decide (0<=x6/\x6< (x7.length:Int)) then (aG x7 x6).bind fun (gP:U)=>bif decide (0<=x6/\x6< (x7.length:Int)) then (aG x7 x6).bind fun (_:U)=>bif decide (0<=(wrap .i64 (x6-(1:Int)))/\(wrap .i64 (x6-(1:Int)))< (((bf x7 x6 bG).length:Nat):Int)) then (aG (bf x7 x6 bG) (wrap .i64 (x6-(1:Int)))).bind fun (_:U)=>
           L4 x1 x2 x4 m ((wrap .i64 (x6-(1:Int)),bf (bf x7 x6 bG) (wrap .i64 (x6-(1:Int))) gP))else none else none else none else none else some (((),x7))else none else none else some (((),x7)))
include hc ho h4
theorem aEm {a i x2 x4:Int}{l:List U}{m:Nat}(h0:0<=a)(h1:a<=i)(h2:i<l.length)(hb:l.length<2^60)(hal:kG Ok l)(hs:lJ lt d a i l)(hm:(i-a).toNat<m):
 ∃r,L4 a x2 x4 m (i,l)=some r/\eF d a (i+1) l r.2/\lJ lt d a (i+1) r.2:=by
 refine mu (τ:=Int×List U) (L:=L4 a x2 x4) (fun p=>a<=p.1/\p.1<=i/\eF d a (i+1) l p.2/\(∀u v,a<=u->u<v->v<=i->u≠p.1->v≠p.1->¬lt (aL d p.2 v) (aL d p.2 u))/\(∀v,p.1<v->v<=i->¬lt (aL d p.2 v) (aL d p.2 p.1))) (fun p=>(p.1-a).toNat) _ ?_ m (i,l) ⟨h1,lN _,.refl _ _ _ _,fun u v k1 k2 k3 k4 k5=>hs u v k1 k2 RS,fun v k1 k2=>RS⟩ hm;rintro m ⟨j,D⟩ ⟨i1,i2,i3,i4,i5⟩ gV;dsimp only at i1 i2 i3 i4 i5 gV⊢;have hl:=i3.len;have jS:=i3.al hal;rw[h4];simp (disch:=omega) only[wr];refine tD (fun hj=>?_) (fun hj=>?_)
 .refine tI RS RS (tE (dD d RS RS) (tI RS RS (tE (dD d RS RS) (tM hc (jS.at d RS RS) (jS.at d RS RS) fun r hr=>?_))));refine tD (fun hlt=>?_) (fun hlt=>?_)
  .refine tI RS RS (tE (dD d RS RS) (tI RS RS (tE (dD d RS RS) (tI RS RS (tE (dD d RS RS) (tI RS BP (tE (dD d RS BP) ?_)))))));have hlt':=hr.1 hlt;refine gV (j-1,swp d D j (j-1)) ⟨dz,dz,i3.swp h0 RS RS RS RS RS,fun u v k1 k2 k3 k4 k5=>?_,fun v k1 k2=>?_⟩ dz
   .dsimp only at k4 k5⊢;rw[qg RS RS RS RS RS,qg RS RS RS RS RS,if_neg k5,if_neg k4];by_cases e1:v=j
    .rw[if_pos e1];by_cases e2:u=j
     .omega
     .rw[if_neg e2];exact i4 u (j-1) k1 RS RS e2 RS
    .rw[if_neg e1];by_cases e2:u=j
     .rw[if_pos e2];exact i4 (j-1) v RS RS k3 RS e1
     .rw[if_neg e2];exact i4 u v k1 k2 k3 e2 e1
   .dsimp only at k1 k2⊢;rw[qg RS RS RS RS RS,qg RS RS RS RS RS,if_neg RS,if_pos rfl];by_cases e1:v=j
    .rw[if_pos e1];exact ho.asym _ _ hlt'
    .rw[if_neg e1];exact i5 v RS k2
  .refine tS ⟨i3,?_⟩;have hlt':¬lt (aL d D j) (aL d D (j-1)):=fun h=>hlt (hr.2 h);intro u v k1 k2 k3;by_cases e1:v=j
   .subst e1;by_cases e2:u=v-1
    .rw[e2];exact hlt'
    .exact ho.neg _ _ _ hlt' (i4 u (v-1) k1 RS RS RS RS)
   .by_cases e2:u=j
    .subst e2;exact i5 v k2 RS
    .exact i4 u v k1 k2 RS e2 e1
 .refine tS ⟨i3,?_⟩;have e:j=a:=RS
  intro u v k1 k2 k3;by_cases e2:u=j
  .subst e2;exact i5 v k2 RS
  .exact i4 u v k1 k2 RS e2 RS
variable {n:Nat}{L1:Int->Int->Nat->Int×List U->Option (PUnit×List U)}(h1:∀(x1 x2:Int) (m:Nat) (x4:Int) (x5:List U),L1 x1 x2 (m+1) (x4,x5)=bif decide (x4<x2) then (L4 x1 x2 x4 n ((x4,x5))).bind fun (kE:PUnit×List U)=>
    L1 x1 x2 m ((wrap .i64 (x4+(1:Int)),kE.2))else some (((),x5)))
include h1
theorem aEn {a b:Int}{l:List U}(h0:0<=a)(hab:a<=b)(h2:b<=l.length)(hb:l.length<2^60)(hal:kG Ok l)(hn:(b-a).toNat+1<n):
 ∃r,L1 a b n (wrap .i64 (a+1),l)=some r/\eF d a b l r.2/\lJ lt d a b r.2:=by
 rw[wr RS RS];refine mu (τ:=Int×List U) (L:=L1 a b) (fun p=>a<p.1/\(p.1<=b\/p.1=a+1)/\eF d a b l p.2/\lJ lt d a p.1 p.2) (fun p=>(b-p.1).toNat) _ ?_ n (a+1,l) ⟨dz,.inr rfl,.refl _ _ _ _,fun u v k1 k2 k3=>by dsimp only at k3;omega⟩ dz;rintro m ⟨i,D⟩ ⟨i1,i2,i3,i4⟩ gV;dsimp only at i1 i2 i3 i4 gV⊢;have hl:=i3.len;rw[h1];refine tD (fun hi=>?_) (fun hi=>?_)
 .refine tB (aEm hc ho h4 (d:=d) h0 RS RS RS (i3.al hal) i4 RS) fun r ⟨r1,r2⟩=>?_;rw[wr RS RS];exact gV (i+1,r.2) ⟨dz,.inl dz,i3.trans (r1.wide (lN _) RS h0),r2⟩ dz
 .refine tS ⟨i3,?_⟩;intro u v k1 k2 k3;exact i4 u v k1 k2 RS
end
section
variable {d:U}{n:Nat}{L2:Nat->(Int×Int)×List U->Option (PUnit×List U)}(h2:∀(m:Nat) (x4 x5:Int) (x6:List U),L2 (m+1) ((x4,x5),x6)=bif decide (x4<x5) then bif decide (0<=x5/\x5< (x6.length:Int)) then (aG x6 x5).bind fun (r7:U)=>bif decide (0<=x4/\x4< (x6.length:Int)) then (aG x6 x4).bind fun (r8:U)=>bif decide (0<=x4/\x4< (x6.length:Int)) then (aG x6 x4).bind fun (_:U)=>bif decide (0<=x5/\x5< (((bf x6 x4 r7).length:Nat):Int)) then (aG (bf x6 x4 r7) x5).bind fun (_:U)=>
        L2 m (((wrap .i64 (x4+(1:Int)),wrap .i64 (x5-(1:Int))),bf (bf x6 x4 r7) x5 r8))else none else none else none else none else some (((),x6)))
include h2
theorem revAll {a b:Int}{l:List U}(h0:0<=a)(hab:a<=b)(h3:b<=l.length)(hb:l.length<2^60)(hn:(b-a).toNat+1<n):
 ∃r,L2 n ((a,wrap .i64 (b-1)),l)=some r/\eF d a b l r.2:=by
 rw[wr RS RS];refine mu (τ:=(Int×Int)×List U) (L:=L2) (fun p=>a<=p.1.1/\p.1.2<b/\a-1<=p.1.2/\p.1.1<=b/\eF d a b l p.2) (fun p=>(p.1.2-p.1.1+1).toNat) _ ?_ n ((a,b-1),l) ⟨lN _,dz,dz,dz,.refl _ _ _ _⟩ dz;rintro m ⟨⟨i,j⟩,D⟩ ⟨i1,i2,i3,i4,i5⟩ gV;dsimp only at i1 i2 i3 i4 i5 gV⊢;have hl:=i5.len;rw[h2];refine tD (fun hi=>?_) (fun hi=>tS i5);refine tI RS RS (tE (dD d RS RS) (tI RS RS (tE (dD d RS RS) (tI RS RS (tE (dD d RS RS) (tI RS BP (tE (dD d RS BP) ?_)))))));rw[wr RS RS,wr RS RS];exact gV ((i+1,j-1),swp d D i j) ⟨dz,dz,dz,dz,i5.swp h0 RS RS RS RS RS⟩ dz
end
end tQ
end
section
open Go aQ
namespace tQ
variable {U:Type}
def Hp (lt:U->U->Prop)(d:U)(f s hi:Int)(l:List U):Prop:=∀i c,s<=i->(c=2*i+1\/c=2*i+2)->c<hi->¬lt (aL d l (f+i)) (aL d l (f+c))
def two {β:Type}(r:(PUnit×β)⊕(PUnit×β)):β:=Sum.elim (fun q=>q.2) (fun q=>q.2) r
section
variable {d:U}{Ok:U->Prop}{lt:U->U->Prop}{K:{β:Type}->U->U->(Bool->Option β)->Option β}(hc:Af Ok lt K)(ho:Ord lt){S1:Int->Int->Nat->(Int×List U)->Option ((PUnit×List U)⊕(PUnit×List U))}(hS1:∀(x2 x3:Int) (m:Nat) (x5:Int) (x6:List U),S1 x2 x3 (m+1) (x5,x6)=bif decide ((wrap .i64 ((wrap .i64 ((2:Int)*x5))+(1:Int)))>=x2) then some (.inl (((),x6)))else Option.bind (α:=Int) ( bif decide ((wrap .i64 ((wrap .i64 ((wrap .i64 ((2:Int)*x5))+(1:Int)))+(1:Int)))<x2) then bif decide (0<=(wrap .i64 (x3+(wrap .i64 ((wrap .i64 ((2:Int)*x5))+(1:Int)))))/\(wrap .i64 (x3+(wrap .i64 ((wrap .i64 ((2:Int)*x5))+(1:Int)))))< (x6.length:Int)) then (aG x6 (wrap .i64 (x3+(wrap .i64 ((wrap .i64 ((2:Int)*x5))+(1:Int)))))).bind fun (r7:U)=>bif decide (0<=(wrap .i64 ((wrap .i64 (x3+(wrap .i64 ((wrap .i64 ((2:Int)*x5))+(1:Int)))))+(1:Int)))/\(wrap .i64 ((wrap .i64 (x3+(wrap .i64 ((wrap .i64 ((2:Int)*x5))+(1:Int)))))+(1:Int)))< (x6.length:Int)) then (aG x6 (wrap .i64 ((wrap .i64 (x3+(wrap .i64 ((wrap .i64 ((2:Int)*x5))+(1:Int)))))+(1:Int)))).bind fun (r8:U)=>
        K r7 r8 fun (cK:Bool)=>bif cK then some (wrap .i64 ((wrap .i64 ((wrap .i64 ((2:Int)*x5))+(1:Int)))+(1:Int)))else some (wrap .i64 ((wrap .i64 ((2:Int)*x5))+(1:Int)))else none else none else some (wrap .i64 ((wrap .i64 ((2:Int)*x5))+(1:Int)))) fun (dB:Int)=>bif decide (0<=(wrap .i64 (x3+x5))/\(wrap .i64 (x3+x5))< (x6.length:Int)) then (aG x6 (wrap .i64 (x3+x5))).bind fun (bG:U)=>bif decide (0<=(wrap .i64 (x3+dB))/\(wrap .i64 (x3+dB))< (x6.length:Int)) then (aG x6 (wrap .i64 (x3+dB))).bind fun (gP:U)=>
      K bG gP fun (eO:Bool)=>bif !(eO) then some (.inr (((),x6)))else bif decide (0<=(wrap .i64 (x3+dB))/\(wrap .i64 (x3+dB))< (x6.length:Int)) then (aG x6 (wrap .i64 (x3+dB))).bind fun (fF:U)=>bif decide (0<=(wrap .i64 (x3+x5))/\(wrap .i64 (x3+x5))< (x6.length:Int)) then (aG x6 (wrap .i64 (x3+x5))).bind fun (kE:U)=>bif decide (0<=(wrap .i64 (x3+x5))/\(wrap .i64 (x3+x5))< (x6.length:Int)) then (aG x6 (wrap .i64 (x3+x5))).bind fun (r16:U)=>bif decide (0<=(wrap .i64 (x3+dB))/\(wrap .i64 (x3+dB))< (((bf x6 (wrap .i64 (x3+x5)) fF).length:Nat):Int)) then (aG (bf x6 (wrap .i64 (x3+x5)) fF) (wrap .i64 (x3+dB))).bind fun (lZ:U)=>
           S1 x2 x3 m ((dB,bf (bf x6 (wrap .i64 (x3+x5)) fF) (wrap .i64 (x3+dB)) kE))else none else none else none else none else none else none)
include hc ho hS1
theorem aEo {f lo hi:Int}{l:List U}{m:Nat}(h0:0<=f)(hlo:0<=lo)(hlb:lo<2^58)(hhi:0<=hi)(hf:f+hi<=l.length)(hb:l.length<2^58)(hal:kG Ok l)(hh:Hp lt d f (lo+1) hi l)(hm:(hi-lo).toNat<m):
 ∃r,S1 hi f m (lo,l)=some r/\eF d f (f+hi) l (two r)/\Hp lt d f lo hi (two r):=by
 refine mu (τ:=Int×List U) (L:=S1 hi f) (fun p=>lo<=p.1/\(p.1=lo\/p.1<hi)/\eF d f (f+hi) l p.2/\(∀i c,lo<=i->i≠p.1->(c=2*i+1\/c=2*i+2)->c<hi->¬lt (aL d p.2 (f+i)) (aL d p.2 (f+c)))/\
  (∀q c,lo<=q->(p.1=2*q+1\/p.1=2*q+2)->(c=2*p.1+1\/c=2*p.1+2)->c<hi->¬lt (aL d p.2 (f+q)) (aL d p.2 (f+c)))) (fun p=>(hi-p.1).toNat) _ ?_ m (lo,l)
  ⟨lN _,.inl rfl,.refl _ _ _ _,fun i c k1 k2 k3 k4=>hh i c (by dsimp only at k2;omega) k3 k4,fun q c k1 k2=>by dsimp only at k2;omega⟩ hm
 rintro m ⟨x,D⟩ ⟨i1,i2,i3,i4,i5⟩ gV;dsimp only at i1 i2 i3 i4 i5 gV⊢;have hl:=i3.len;have jS:=i3.al hal;rw[hS1];simp (disch:=omega) only[wr];refine tD (fun hge=>tS ⟨i3,fun i c k1 k2 k3=>?_⟩) (fun hge=>?_)
 .by_cases e:i=x
  .omega
  .exact i4 i c k1 e k2 k3
 refine tB (Q:=fun c=>(c=2*x+1\/c=2*x+2)/\c<hi/\∀c',(c'=2*x+1\/c'=2*x+2)->c'<hi->¬lt (aL d D (f+c)) (aL d D (f+c'))) ?_ fun c=>?_
 .refine tD (fun h2=>?_) (fun h2=>tS ⟨.inl rfl,RS,fun c' k1 k2=>?_⟩)
  .refine tI RS RS (tE (dD d RS RS) (tI RS RS (tE (dD d RS RS) (tM hc (jS.at d RS RS) (jS.at d RS RS) fun r hr=>?_))));have e2:f+(2*x+1)+1=f+(2*x+2):=RS
   rw[e2] at hr;refine tD (fun h3=>tS ⟨.inr RS,RS,fun c' k1 k2=>?_⟩) (fun h3=>tS ⟨.inl rfl,RS,fun c' k1 k2=>?_⟩)
   .have hlt:=hr.1 h3;rw[show 2*x+1+1=2*x+2 by omega];rcases k1 with rfl|rfl
    .exact ho.asym _ _ hlt
    .exact ho.wC _
   .rcases k1 with rfl|rfl
    .exact ho.wC _
    .exact fun h=>h3 (hr.2 h)
  .have e:c'=2*x+1:=RS
   rw[e];exact ho.wC _
 .rintro⟨hc1,hc2,hc3⟩;simp (disch:=omega) only[wr];refine tI RS RS (tE (dD d RS RS) (tI RS RS (tE (dD d RS RS) (tM hc (jS.at d RS RS) (jS.at d RS RS) fun r hr=>?_))));refine D7 (fun h3=>tS ⟨i3,fun i c' k1 k2 k3=>?_⟩) (fun h3=>?_)
  .by_cases e:i=x
   .subst e;exact ho.neg _ _ _ (fun h=>h3 (hr.2 h)) (hc3 c' k2 k3)
   .exact i4 i c' k1 e k2 k3
  .have hlt:=hr.1 h3;refine tI RS RS (tE (dD d RS RS) (tI RS RS (tE (dD d RS RS) (tI RS RS (tE (dD d RS RS) (tI RS BP (tE (dD d RS BP) ?_)))))));have l9:∀k,0<=k->aL d (swp d D (f+x) (f+c)) (f+k)=if k=c then aL d D (f+x) else if k=x then aL d D (f+c) else aL d D (f+k):=fun k hk=>by
    rw[qg RS RS RS RS RS];by_cases e1:k=c
    .rw[if_pos e1,if_pos RS]
    .rw[if_neg e1,if_neg RS];by_cases e2:k=x
     .rw[if_pos e2,if_pos RS]
     .rw[if_neg e2,if_neg RS]
   refine gV (c,swp d D (f+x) (f+c)) ⟨dz,.inr hc2,i3.swp h0 RS RS RS RS RS,fun i c' k1 k2 k3 k4=>?_,fun q c' k1 k2 k3 k4=>?_⟩ dz
   .dsimp only at k2⊢;rw[l9 i RS,l9 c' RS,if_neg k2];by_cases e1:c'=c
    .have ei:i=x:=RS;rw[if_pos e1,if_pos ei];exact ho.asym _ _ hlt
    .rw[if_neg e1];by_cases e2:c'=x
     .rw[if_pos e2,if_neg RS];exact i5 i c k1 RS hc1 hc2
     .rw[if_neg e2];by_cases e3:i=x
      .rw[if_pos e3];exact hc3 c' RS k4
      .rw[if_neg e3];exact i4 i c' k1 e3 k3 k4
   .dsimp only at k2 k3⊢;have eq:q=x:=RS;rw[l9 q RS,l9 c' RS,if_neg RS,if_pos eq,if_neg RS,if_neg RS];exact i4 c c' RS RS k3 k4
variable {n:Nat}{sift:Unit×Int×Int×Int×(Unit×Unit)->List U->Option (PUnit×List U)}(hS:∀(x1 x2 x3:Int) (x4:List U),sift (((),(x1,(x2,(x3,((),())))))) (x4)=
   (S1 x2 x3 n ((x1,x4))).bind fun (gD:(PUnit×List U)⊕(PUnit×List U))=>
   Sum.elim (fun (aEp:PUnit×List U)=>some (((),aEp.2)))
    (fun (BK:PUnit×List U)=>some (((),BK.2))) gD)
include hS
theorem aoI {f lo hi:Int}{l:List U}(h0:0<=f)(hlo:0<=lo)(hlb:lo<2^58)(hhi:0<=hi)(hf:f+hi<=l.length)(hb:l.length<2^58)(hal:kG Ok l)(hh:Hp lt d f (lo+1) hi l)(hn:hi.toNat<n):
 ∃r,sift ((),lo,hi,f,((),())) l=some r/\eF d f (f+hi) l r.2/\Hp lt d f lo hi r.2:=by
 rw[hS];refine tB (aEo hc ho hS1 (d:=d) h0 hlo hlb hhi hf hb hal hh RS) fun r=>?_;rintro⟨r1,r2⟩;rcases r with r|r<;>exact tS ⟨r1,r2⟩
variable {H4:Int->Int->Nat->(Int×List U)->Option (PUnit×List U)}{KY:Int->Nat->(Int×List U)->Option (PUnit×List U)}(Qc:∀(x1 x2:Int) (m:Nat) (x4:Int) (x5:List U),H4 x1 x2 (m+1) (x4,x5)=bif decide (x4>=(0:Int)) then (sift (((),(x4,(wrap .i64 (x2-x1),(x1,((),())))))) x5).bind fun (r6:PUnit×List U)=>
    H4 x1 x2 m ((wrap .i64 (x4-(1:Int)),r6.2))else some (((),x5)))(afK:∀(x1:Int) (m:Nat) (x8:Int) (bU:List U),KY x1 (m+1) (x8,bU)=bif decide (x8>=(0:Int)) then bif decide (0<=(wrap .i64 (x1+x8))/\(wrap .i64 (x1+x8))< (bU.length:Int)) then (aG bU (wrap .i64 (x1+x8))).bind fun (dB:U)=>bif decide (0<=x1/\x1< (bU.length:Int)) then (aG bU x1).bind fun (bG:U)=>bif decide (0<=x1/\x1< (bU.length:Int)) then (aG bU x1).bind fun (gP:U)=>bif decide (0<=(wrap .i64 (x1+x8))/\(wrap .i64 (x1+x8))< (((bf bU x1 dB).length:Nat):Int)) then (aG (bf bU x1 dB) (wrap .i64 (x1+x8))).bind fun (eO:U)=>(sift (((),((0:Int),(x8,(x1,((),())))))) (bf (bf bU x1 dB) (wrap .i64 (x1+x8)) bG)).bind fun (fF:PUnit×List U)=>
        KY x1 m ((wrap .i64 (x8-(1:Int)),fF.2))else none else none else none else none else some (((),bU)))
include Qc
theorem build {a b:Int}{l:List U}{m:Nat}{k:Int}(h0:0<=a)(hab:a<=b)(hbl:b<=l.length)(hb:l.length<2^57)(hal:kG Ok l)(hn:(b-a).toNat<n)(hk: -1<=k)(hkb:k<2^57)(hh:Hp lt d a (k+1) (b-a) l)(hm:(k+1).toNat<m):
 ∃r,H4 a b m (k,l)=some r/\eF d a b l r.2/\Hp lt d a 0 (b-a) r.2:=by
 refine mu (τ:=Int×List U) (L:=H4 a b) (fun p=>-1<=p.1/\p.1<=k/\eF d a b l p.2/\Hp lt d a (p.1+1) (b-a) p.2) (fun p=>(p.1+1).toNat) _ ?_ m (k,l) ⟨hk,lN _,.refl _ _ _ _,hh⟩ hm;rintro m ⟨x,D⟩ ⟨i1,i2,i3,i4⟩ gV;dsimp only at i1 i2 i3 i4 gV⊢;have hl:=i3.len;rw[Qc];refine tD (fun hge=>?_) (fun hge=>tS ⟨i3,?_⟩)
 .simp (disch:=omega) only[wr];refine tB (aoI hc ho hS1 hS (d:=d) h0 RS RS RS RS RS (i3.al hal) i4 hn) fun r=>?_;rintro⟨r1,r2⟩;rw[show a+(b-a)=b by omega] at r1;exact gV (x-1,r.2) ⟨dz,dz,i3.trans r1,by rw[show x-1+1=x by omega];exact r2⟩ dz
 .rw[show x+1=0 by omega] at i4;exact i4
omit hc hS1 hS Qc in
theorem Hp.root {f hi:Int}{l:List U}(h:Hp lt d f 0 hi l):∀(k:Nat),(k:Int)<hi->¬lt (aL d l f) (aL d l (f+k)):=by
 intro k;induction k using Nat.strongRecOn with
 |_ k ih=>
  intro hk;cases k with
  |zero=>rw[show f+((0:Nat):Int)=f by omega];exact ho.wC _|succ k=>have h1:=ih (k/2) RS RS;exact ho.neg _ _ _ h1 (h ((k/2:Nat):Int) ((k+1:Nat):Int) RS RS hk)
include afK
theorem pop {a b:Int}{l:List U}{m:Nat}(h0:0<=a)(hab:a<=b)(hbl:b<=l.length)(hb:l.length<2^57)(hal:kG Ok l)(hn:(b-a).toNat<n)(hh:Hp lt d a 0 (b-a) l)(hm:(b-a).toNat<m):
 ∃r,KY a m (b-a-1,l)=some r/\eF d a b l r.2/\lJ lt d a b r.2:=by
 refine mu (τ:=Int×List U) (L:=KY a) (fun p=>-1<=p.1/\p.1<b-a/\eF d a b l p.2/\Hp lt d a 0 (p.1+1) p.2/\lJ lt d (a+p.1+1) b p.2/\(∀u v,a<=u->u<=a+p.1->a+p.1<v->v<b->¬lt (aL d p.2 v) (aL d p.2 u))) (fun p=>(p.1+1).toNat) _ ?_ m (b-a-1,l)
  ⟨dz,dz,.refl _ _ _ _,by rw[show b-a-1+1=b-a by omega];exact hh,fun u v k1 k2 k3=>by dsimp only at k1;omega,fun u v k1 k2 k3 k4=>by dsimp only at k3;omega⟩ dz
 rintro m ⟨x,D⟩ ⟨i1,i2,i3,i4,i5,i6⟩ gV;dsimp only at i1 i2 i3 i4 i5 i6 gV⊢;have hl:=i3.len;rw[afK];simp (disch:=omega) only[wr];refine tD (fun hge=>?_) (fun hge=>tS ⟨i3,fun u v k1 k2 k3=>i5 u v RS k2 k3⟩);refine tI RS RS (tE (dD d RS RS) (tI RS RS (tE (dD d RS RS) (tI RS RS (tE (dD d RS RS) (tI RS BP (tE (dD d RS BP) ?_)))))));have l9:∀k,0<=k->aL d (swp d D a (a+x)) (a+k)=if k=x then aL d D a else if k=0 then aL d D (a+x) else aL d D (a+k):=fun k hk=>by
  rw[qg RS RS RS RS RS];by_cases e1:k=x
  .rw[if_pos e1,if_pos RS]
  .rw[if_neg e1,if_neg RS];by_cases e2:k=0
   .rw[if_pos e2,if_pos RS]
   .rw[if_neg e2,if_neg RS]
 have s1:eF d a b l (swp d D a (a+x)):=i3.swp h0 RS RS RS RS RS;have hroot:∀k,0<=k->k<=x->¬lt (aL d D a) (aL d D (a+k)):=fun k k0 k1=>by
  have:=Hp.root ho i4 k.toNat RS
  rwa[show (k.toNat:Int)=k by omega] at this
 refine tB (aoI hc ho hS1 hS (d:=d) (hi:=x) (lo:=0) (l:=swp d D a (a+x)) h0 RS RS hge (by rw[Qq];omega) (by rw[Qq];omega) (s1.al hal) (fun i c k1 k2 k3=>?_) RS) fun r=>?_
 .rw[l9 i RS,l9 c RS,if_neg RS,if_neg RS,if_neg RS,if_neg RS];exact i4 i c RS k2 RS
 .rintro⟨r1,r2⟩;have hM:∀k,x<=k->a+k<b->aL d r.2 (a+k)=aL d (swp d D a (a+x)) (a+k):=fun k k0 k1=>r1.out _ RS RS;have sm:∀φ:U->Prop,(∀k,0<=k->k<=x->φ (aL d D (a+k)))->∀u,a<=u->u<a+x->φ (aL d r.2 u):=fun φ hφ u k0 k1=>by
   refine r1.all φ (fun w w0 w1=>?_) u k0 k1;have:=l9 (w-a) RS;rw[show a+(w-a)=w by omega] at this;rw[this,if_neg RS];by_cases e:w-a=0
   .rw[if_pos e];exact hφ x RS RS
   .rw[if_neg e];have:=hφ (w-a) RS RS
    rwa[show a+(w-a)=w by omega] at this
  refine gV (x-1,r.2) ⟨dz,dz,s1.trans (r1.wide (lN _) RS h0),by rw[show x-1+1=x by omega];exact r2,fun u v k1 k2 k3=>?_,fun u v k1 k2 k3 k4=>?_⟩ dz
  .dsimp only at k1⊢;have e1:=hM (u-a) RS RS;have e2:=hM (v-a) RS RS;rw[show a+(u-a)=u by omega] at e1;rw[show a+(v-a)=v by omega] at e2;have e3:=l9 (u-a) RS;have e4:=l9 (v-a) RS;rw[show a+(u-a)=u by omega] at e3;rw[show a+(v-a)=v by omega] at e4;rw[e1,e2,e3,e4,if_neg (by omega:¬v-a=x),if_neg (by omega:¬v-a=0)];by_cases e:u-a=x
   .rw[if_pos e];exact i6 a v RS RS RS k3
   .rw[if_neg e,if_neg RS];exact i5 u v RS k2 k3
  .dsimp only at k2 k3⊢;have e2:=hM (v-a) RS RS;rw[show a+(v-a)=v by omega] at e2;have e4:=l9 (v-a) RS;rw[show a+(v-a)=v by omega] at e4;rw[e2,e4,if_neg (by omega:¬v-a=0)];by_cases e:v-a=x
   .rw[if_pos e];exact sm (fun z=>¬lt (aL d D a) z) (fun k k0 k1=>hroot k k0 k1) u k1 RS
   .rw[if_neg e];exact sm (fun z=>¬lt (aL d D v) z) (fun k k0 k1=>i6 (a+k) v RS RS RS k4) u k1 RS
variable {heap:Unit×Int×Int×(Unit×Unit)->List U->Option (PUnit×List U)}(hH:∀(x1 x2:Int) (x3:List U),heap (((),(x1,(x2,((),()))))) (x3)=bif !((2:Int)==(0:Int)) then (H4 x1 x2 n ((wrap .i64 (Int.tdiv (wrap .i64 ((wrap .i64 (x2-x1))-(1:Int))) (2:Int)),x3))).bind fun (r7:PUnit×List U)=>(KY x1 n ((wrap .i64 ((wrap .i64 (x2-x1))-(1:Int)),r7.2))).bind fun (kE:PUnit×List U)=>some (((),kE.2))else none)
include hH
theorem aEq {a b:Int}{l:List U}(h0:0<=a)(hab:a<=b)(hbl:b<=l.length)(hb:l.length<2^57)(hal:kG Ok l)(hn:(b-a).toNat+1<n):
 ∃r,heap ((),a,b,((),())) l=some r/\eF d a b l r.2/\lJ lt d a b r.2:=by
 rw[hH];simp (disch:=omega) only[wr];refine tG aK ?_;have ht:Int.tdiv (b-a-1) 2<=b-a/\ -1<=Int.tdiv (b-a-1) 2/\(0<b-a->b-a-1<2*Int.tdiv (b-a-1) 2+2/\0<=Int.tdiv (b-a-1) 2):=by
  by_cases h:0<b-a
  .rw[Int.tdiv_eq_ediv_of_nonneg RS];omega
  .rw[show b-a-1= -1 by omega];simp;omega
 rw[wr (i:=Int.tdiv (b-a-1) 2) RS RS];refine tB (build hc ho hS1 hS Qc (d:=d) (k:=Int.tdiv (b-a-1) 2) h0 hab hbl hb hal RS RS RS (fun i c k1 k2 k3=>?_) RS) fun r=>?_
 .omega
 .rintro⟨r1,r2⟩;have hl:=r1.len;refine tB (pop hc ho hS1 hS Qc afK (d:=d) h0 hab RS RS (r1.al hal) RS r2 RS) fun s=>?_;rintro⟨s1,s2⟩;exact tS ⟨r1.trans s1,s2⟩
end
end tQ
end
