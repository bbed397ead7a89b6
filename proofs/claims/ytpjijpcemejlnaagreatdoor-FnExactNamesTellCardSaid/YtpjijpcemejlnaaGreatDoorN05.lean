/- Texts joined. Conditions: as each theorem names them. -/
import Derived.Shelf.SlSortCmp.SmallK
import Derived.Shelf.SlicesE.Clone
import Derived.Shelf.Small.Bits
import Derived.Ground.SlsfProg
import Derived.Test.YtpjijpcemejlnaaGreatDoorProg
import Derived.Test.YtpjijpcemejlnaaGreatDoorN03
set_option maxRecDepth 100000
set_option maxHeartbeats 32000000
set_option linter.unusedVariables false
set_option linter.unusedSimpArgs false
namespace Go.Proofs.YtpjijpcemejlnaaGreatDoor
open Go.RowKit Go.Proofs.Tryz
theorem Xy{K:List UInt8->Option (Vl × List UInt8)}{P:Vl->Prop}(hK:∀s v r,K s=some (v,r)->P v/\s=Bh v++r):∀(m:Nat) (s:List UInt8) (vs:List Vl) (r:List UInt8),
  Cl K m s=some (vs,r)->vs≠[]/\vs.length<=m/\(∀x∈vs,P x)/\s=Ap 44 (vs.map Bh)++93::r:=by
 intro m;induction m with
 |zero=>intro s vs r h;cases h
 |succ m ih=>
  intro s vs r h;unfold Cl at h;cases hk:K s with
  |none=>rw[hk]at h;cases h
  |some q=>
   obtain⟨v,z⟩:=q;rw[hk]at h;simp only at h;obtain⟨hp,rfl⟩:=hK _ _ _ hk;cases hb:Al 44 z with
   |some q=>
    rw[hb]at h;simp only at h;cases hi:Cl K m q with
    |none=>rw[hi]at h;cases h
    |some y=>
     obtain⟨us,y⟩:=y;rw[hi]at h;simp only[aj,aD]at h;obtain⟨rfl,rfl⟩:=h;obtain⟨h1,h2,h3,h4⟩:=ih _ _ _ hi;rw[Bx]at hb;subst hb;refine⟨by simp,by simp;omega,by simpa using⟨hp,h3⟩,?_⟩;rw[ax,Ce 44 _ dy,h4];simp
   |none=>
    rw[hb]at h;simp only at h;cases hb:Al 93 z with
    |none=>rw[hb]at h;cases h
    |some q=>
     rw[hb]at h;simp only[aj,aD]at h;obtain⟨rfl,rfl⟩:=h;rw[Bx]at hb;subst hb;exact⟨by simp,by simp,by simpa using hp,by simp[Ap]⟩
theorem Qy{K:List UInt8->Option (Vl × List UInt8)}:∀(m:Nat) (vs:List Vl) (r:List UInt8),(∀x∈vs,∀r,Nn r->K (Bh x++r)=some (x,r))->vs≠[]->vs.length<=m ->
  Cl K m (Ap 44 (vs.map Bh)++93::r)=some (vs,r)
 |0,vs,r,_,h,hl=>by cases vs with|nil=>exact absurd rfl h|cons=>simp at hl
 |m+1,[],r,_,h,_=>absurd rfl h
 |m+1,[x],r,hK,_,_=>by
  have e:=hK x aK (93::r) (Gk _ aJ);simp only[ax,List.map_nil,Ap];unfold Cl;rw[e];simp only[C5 (show (93:UInt8)≠44 by decide),Bg]
 |m+1,x::y::vs,r,hK,_,hl=>by
  have ih:=Qy m (y::vs) r (fun z hz=>hK z dD) aK dZ;have e:=hK x aK (44::(Ap 44 ((y::vs).map Bh)++93::r)) (Gk _ aJ);rw[ax,Ce 44 _ aK,List.append_assoc,au];unfold Cl;rw[e];simp only[Bg,ih]
theorem Nx{K:Kd->List UInt8->Option (Vl × List UInt8)}{P:Fd->Vl->Prop}{fs:List Fd}(hK:∀f∈fs,∀s v r,K f.kind s=some (v,r)->P f v/\s=Bh v++r){s r:List UInt8}{p:Fd × Vl}
  (h:Cn K fs s=some (p,r)):p.1.tag<=200/\Bc fs p.1.tag=some p.1/\P p.1 p.2/\s=Bh (Dm p)++r:=by
 unfold Cn at h;cases ht:E0 fs s with
 |none=>rw[ht]at h;cases h
 |some q=>
  obtain⟨f,z⟩:=q;rw[ht]at h;simp only at h;obtain⟨h1,h2,rfl,_⟩:=Gu ht;cases hb:Al 61 z with
  |none=>rw[hb]at h;cases h
  |some q=>
   rw[hb]at h;simp only at h;rw[Bx]at hb;subst hb;cases hk:K f.kind q with
   |none=>rw[hk]at h;cases h
   |some y=>
    obtain⟨v,y⟩:=y;rw[hk]at h;simp only[aj,aD]at h;obtain⟨rfl,rfl⟩:=h;obtain⟨h3,rfl⟩:=hK f (Cb h2).2 _ _ _ hk;exact⟨h1,h2,h3,by simp[Dm,Bh,D7,H9,Ap]⟩
theorem Nz{K:Kd->List UInt8->Option (Vl × List UInt8)}{fs:List Fd}{p:Fd × Vl}{r:List UInt8}(h1:p.1.tag<=200)(h2:Bc fs p.1.tag=some p.1)(hK:K p.1.kind (Bh p.2++r)=some (p.2,r)):
  Cn K fs (Bh (Dm p)++r)=some (p,r):=by
 have e:Bh (Dm p)++r=Aw p.1.tag++(61::(Bh p.2++r)):=by simp[Dm,Bh,D7,H9,Ap]
 rw[e];unfold Cn;rw[Zm h1 h2 (Gk _ aJ)];simp only[Bg,hK]
theorem Zy{S:List Ty}{K:Kd->List UInt8->Option (Vl × List UInt8)}{P:Fd->Vl->Prop}{fs:List Fd}(hK:∀f∈fs,∀s v r,K f.kind s=some (v,r)->P f v/\s=Bh v++r):∀(m last:Nat) (s:List UInt8) (ps:List (Fd × Vl)) (r:List UInt8),
  Dg S K fs m last s=some (ps,r)->ps≠[]/\(∀p∈ps,last<p.1.tag/\Bc fs p.1.tag=some p.1/\P p.1 p.2/\Bh p.2≠P1 S p.1)/\(ps.Pairwise fun p q=>p.1.tag<q.1.tag)/\s=Ap 44 (ps.map fun p=>Bh (Dm p))++125::r:=by
 intro m;induction m with
 |zero=>intro last s ps r h;cases h
 |succ m ih=>
  intro last s ps r h;unfold Dg at h;cases hk:Cn K fs s with
  |none=>rw[hk]at h;cases h
  |some q=>
   obtain⟨p,z⟩:=q;rw[hk]at h;simp only at h;obtain⟨h1,h2,h3,rfl⟩:=Nx hK hk;split at h
   ·cases h
   rename_i hno;have hno1:last<p.1.tag:=aG;have hno2:Bh p.2≠P1 S p.1:=fun e=>hno (.inr e);cases hb:Al 44 z with
   |some q=>
    rw[hb]at h;simp only at h;cases hi:Dg S K fs m p.1.tag q with
    |none=>rw[hi]at h;cases h
    |some y=>
     obtain⟨us,y⟩:=y;rw[hi]at h;simp only[aj,aD]at h;obtain⟨rfl,rfl⟩:=h;obtain⟨i1,i2,i3,i4⟩:=ih _ _ _ _ hi;rw[Bx]at hb;subst hb;refine⟨by simp,?_,?_,?_⟩
     ·intro x hx;rcases az.1 hx with rfl|hx
      ·exact⟨hno1,h2,h3,hno2⟩
      obtain⟨j1,j2⟩:=i2 x hx;exact⟨by omega,j2⟩
     ·exact List.pairwise_cons.2 ⟨fun x hx=>(i2 x hx).1,i3⟩
     rw[ax,Ce 44 _ (by simpa using i1),i4];simp
   |none=>
    rw[hb]at h;simp only at h;cases hb:Al 125 z with
    |none=>rw[hb]at h;cases h
    |some q=>
     rw[hb]at h;simp only[aj,aD]at h;obtain⟨rfl,rfl⟩:=h;rw[Bx]at hb;subst hb;refine⟨by simp,?_,by simp,by simp[Ap]⟩;intro x hx;rw[ap]at hx;subst hx;exact⟨hno1,h2,h3,hno2⟩
theorem So{S:List Ty}{K:Kd->List UInt8->Option (Vl × List UInt8)}{fs:List Fd}:∀(m last:Nat) (ps:List (Fd × Vl)) (r:List UInt8),
  (∀p∈ps,∀r,Nn r->K p.1.kind (Bh p.2++r)=some (p.2,r))->ps≠[]->(∀p∈ps,last<p.1.tag/\p.1.tag<=200/\Bc fs p.1.tag=some p.1/\Bh p.2≠P1 S p.1)->(ps.Pairwise fun p q=>p.1.tag<q.1.tag)->201<=m+last ->
  Dg S K fs m last (Ap 44 (ps.map fun p=>Bh (Dm p))++125::r)=some (ps,r)
 |0,last,[],r,_,h,_,_,_=>absurd rfl h
 |0,last,p::ps,r,_,_,hp,_,hl=>by have:=hp p aK;omega
 |m+1,last,[],r,_,h,_,_,_=>absurd rfl h
 |m+1,last,[p],r,hK,_,hp,_,hl=>by
  obtain⟨h1,h2,h3,h4⟩:=hp p aK;have e:=Nz h2 h3 (hK p aK (125::r) (Gk _ aJ));simp only[ax,List.map_nil,Ap];unfold Dg;rw[e];simp only;rw[if_neg cq];simp only[C5 (show (125:UInt8)≠44 by decide),Bg]
 |m+1,last,p::q::ps,r,hK,_,hp,hw,hl=>by
  obtain⟨h1,h2,h3,h4⟩:=hp p aK;obtain⟨w1,w2⟩:=List.pairwise_cons.1 hw;have ih:=So m p.1.tag (q::ps) r (fun z hz=>hK z dD) aK (fun z hz=>⟨w1 z hz,(hp z dD).2⟩) w2 aG;have e:=Nz (K:=K) h2 h3 (hK p aK (44::(Ap 44 ((q::ps).map fun p=>Bh (Dm p))++125::r)) (Gk _ aJ));rw[ax,Ce 44 _ aK,List.append_assoc,au];unfold Dg;rw[e];simp only;rw[if_neg cq];simp only[Bg,ih]
theorem Zo{k:Kd}(h:C9 k){c:UInt8}{t:List UInt8}(hs:k.signs=c::t):c=91\/c=63:=by
 have:=h.1;rw[hs]at this;simp only[List.all_cons,av,Bi,Bool.or_eq_true,beq_iff_eq]at this;exact this.1
theorem Tw{S:List Ty}(hS:∀t∈S,D5 t){n:List UInt8}{t:Ty}(ht:By S n=some t)(h9:t.sort≠69){f:Fd}(hf:f∈t.fields):C9 f.kind/\f.tag<=200:=by
 have h:=(hS t (B6 ht).1).2.2.1.1 f hf;exact⟨(h.2.2.2.2 h9).1,h.2.1⟩
theorem Rj(fs:List (Fd × Vl)):Bh (.mk 82 [] 0 (fs.map Dm))=123::(Ap 44 (fs.map fun p=>Bh (Dm p))++[125]):=by
 simp[Bh,Pq,H9];rfl
theorem H7(ks:List Vl):Bh (.mk 91 [] 0 ks)=91::(Ap 44 (ks.map Bh)++[93]):=by simp[Bh,Pq,H9]
theorem Xa(f:Fd)(x:Vl):Bh (.mk 85 [] f.tag [x])=60::(Bh (Dm (f,x))++[62]):=by simp[Bh,D7,H9,Dm,Ap]
theorem Ex{S:List Ty}(hS:∀t∈S,D5 t)(m:Nat):∀(d:Nat) (k:Kd) (s:List UInt8) (v:Vl) (r:List UInt8),C9 k->Aj S m d k s=some (v,r)->My S d k v/\s=Bh v++r:=by
 intro d;induction d with
 |zero=>intro k s v r _ h;cases h
 |succ d ih=>
  intro k s v r hk h;unfold Aj at h;cases hs:k.signs with
  |cons c t=>
   rw[hs]at h;simp only at h;have hp:=(Pk hk).1;by_cases h91:c=91
   ·subst h91;rw[if_pos rfl]at h;unfold Q7 at h;cases hb:Al 91 s with
    |none=>rw[hb]at h;cases h
    |some q=>
     rw[hb]at h;simp only at h;rw[Bx]at hb;subst hb;cases hb:Al 93 q with
     |some z=>
      rw[hb]at h;simp only[aj,aD]at h;obtain⟨rfl,rfl⟩:=h;rw[Bx]at hb;subst hb;exact⟨.lst hs aK aK,by rw[H7];rfl⟩
     |none=>
      rw[hb]at h;simp only at h;cases hi:Cl (Aj S m d k.part) m q with
      |none=>rw[hi]at h;cases h
      |some y=>
       obtain⟨us,y⟩:=y;rw[hi]at h;simp only at h;split at h
       ·rename_i hl;simp only[aj,aD]at h;obtain⟨rfl,rfl⟩:=h;obtain⟨_,_,i3,i4⟩:=Xy (P:=My S d k.part) (fun s v r h=>ih _ _ _ _ hp h) _ _ _ _ hi;exact⟨.lst hs hl i3,by rw[H7,i4];simp⟩
       cases h
   have h63:=(Zo hk hs).resolve_left h91;subst h63;rw[if_neg h91]at h;unfold Yh at h;cases hb:Al 45 s with
   |some q=>
    rw[hb]at h;simp only[aj,aD]at h;obtain⟨rfl,rfl⟩:=h;rw[Bx]at hb;subst hb;exact⟨.non hs,rfl⟩
   |none=>
    rw[hb]at h;simp only at h;cases hb:Al 43 s with
    |none=>rw[hb]at h;cases h
    |some q=>
     rw[hb]at h;simp only at h;rw[Bx]at hb;subst hb;cases hi:Aj S m d k.part q with
     |none=>rw[hi]at h;cases h
     |some y=>
      obtain⟨x,y⟩:=y;rw[hi]at h;simp only[aj,aD]at h;obtain⟨rfl,rfl⟩:=h;obtain⟨i1,rfl⟩:=ih _ _ _ _ hp hi;exact⟨.som hs i1,by simp[Bh,D7,H9,Ap]⟩
  |nil=>
   rw[hs]at h;simp only at h;split at h
   ·rename_i hb;cases hn:Pc s with
    |none=>rw[hn]at h;cases h
    |some q=>
     obtain⟨n,q⟩:=q;rw[hn]at h;simp only[aj,aD]at h;obtain⟨rfl,rfl⟩:=h;obtain⟨h1,h2,_⟩:=To hn;exact⟨.n hs hb h1,by rw[h2];simp[Bh,D7,H9]⟩
   split at h
   ·rename_i hb;cases hn:Ki s with
    |none=>rw[hn]at h;cases h
    |some q=>
     obtain⟨x,q⟩:=q;rw[hn]at h;simp only[aj,aD]at h;obtain⟨rfl,rfl⟩:=h;obtain⟨h1,rfl⟩:=T9.1 hn;exact⟨.t hs hb h1,by simp[Bh,D7,H9]⟩
   split at h
   ·rename_i hb;cases hn:Mp s with
    |none=>rw[hn]at h;cases h
    |some q=>
     obtain⟨x,q⟩:=q;rw[hn]at h;simp only[aj,aD]at h;obtain⟨rfl,rfl⟩:=h;have:=Rm.1 hn;exact⟨.f hs hb,by rw[this];simp[Bh,D7,H9]⟩
   rename_i b1 b2 b3;have hb:k.base=[64]:=by
    rcases hk.2.1 with h|⟨h|h|h,_⟩
    ·exact h.1
    ·exact absurd h b1
    ·exact absurd h b2
    exact absurd h b3
   cases ht:By S k.name with
   |none=>rw[ht]at h;cases h
   |some t=>
    rw[ht]at h;simp only at h;unfold Ha at h;by_cases h9:t.sort=69
    ·rw[if_pos h9]at h;cases hb3:Al 35 s with
     |none=>rw[hb3]at h;cases h
     |some q=>
      rw[hb3]at h;simp only at h;rw[Bx]at hb3;subst hb3;cases hg:E0 t.fields q with
      |none=>rw[hg]at h;cases h
      |some y=>
       obtain⟨f,y⟩:=y;rw[hg]at h;simp only[aj,aD]at h;obtain⟨rfl,rfl⟩:=h;obtain⟨_,h2,h3,_⟩:=Gu hg;exact⟨.enm hs hb ht h9 h2,by rw[h3];simp[Bh,D7,H9]⟩
    rw[if_neg h9]at h;have hK:∀f∈t.fields,∀s v r,Aj S m d f.kind s=some (v,r)->My S d f.kind v/\s=Bh v++r:=fun f hf s v r hr=>ih _ _ _ _ (Tw hS ht h9 hf).1 hr;by_cases h5:t.sort=85
    ·rw[if_pos h5]at h;cases hb3:Al 60 s with
     |none=>rw[hb3]at h;cases h
     |some q=>
      rw[hb3]at h;simp only at h;rw[Bx]at hb3;subst hb3;cases hg:Cn (Aj S m d) t.fields q with
      |none=>rw[hg]at h;cases h
      |some y=>
       obtain⟨p,y⟩:=y;rw[hg]at h;simp only at h;cases hb4:Al 62 y with
       |none=>rw[hb4]at h;cases h
       |some z=>
        rw[hb4]at h;simp only[aj,aD]at h;obtain⟨rfl,rfl⟩:=h;rw[Bx]at hb4;subst hb4;obtain⟨_,h2,h3,rfl⟩:=Nx (P:=fun f v=>My S d f.kind v) hK hg;exact⟨.uni hs hb ht h5 h2 h3,by rw[Xa];simp⟩
    rw[if_neg h5]at h;have h2:t.sort=82:=by
     rcases(hS t (B6 ht).1).1 with h|h|h
     ·exact h
     ·exact absurd h h5
     exact absurd h h9
    cases hb3:Al 123 s with
    |none=>rw[hb3]at h;cases h
    |some q=>
     rw[hb3]at h;simp only at h;rw[Bx]at hb3;subst hb3;cases hb4:Al 125 q with
     |some z=>
      rw[hb4]at h;simp only[aj,aD]at h;obtain⟨rfl,rfl⟩:=h;rw[Bx]at hb4;subst hb4;exact⟨.rcd (fs:=[]) hs hb ht h2 aK aK aK aK,rfl⟩
     |none=>
      rw[hb4]at h;simp only at h;cases hg:Dg S (Aj S m d) t.fields 201 0 q with
      |none=>rw[hg]at h;cases h
      |some y=>
       obtain⟨ps,y⟩:=y;rw[hg]at h;simp only[aj,aD]at h;obtain⟨rfl,rfl⟩:=h;obtain⟨_,i2,i3,i4⟩:=Zy (P:=fun f v=>My S d f.kind v) hK _ _ _ _ _ hg;exact⟨.rcd hs hb ht h2 (fun p hp=>(i2 p hp).2.1) (fun p hp=>(i2 p hp).2.2.1) (fun p hp=>(i2 p hp).2.2.2) i3,by rw[Rj,i4];simp⟩
theorem Qd9{S:List Ty}{d:Nat}{k:Kd}{v:Vl}(h:My S d k v):∃c t,Bh v=c::t/\c≠93/\c≠125/\c≠44:=by
 cases h with
 |@n _ _ m hs hb h=>
  have e:Bh (.mk 110 (Aw m) 0 [])=Aw m:=by simp[Bh,D7,H9]
  rw[e];cases hd:Aw m with
  |nil=>exact absurd hd (Pr m)
  |cons c t=>
   have:=Kr m;rw[hd,List.all_cons,av,Cx]at this;refine⟨c,t,rfl,?_,?_,?_⟩<;>(rintro rfl;revert this;simp)
 |t=>exact⟨39,_,rfl,by decide,by decide,by decide⟩
 |@f _ _ b=>cases b<;>exact⟨_,_,rfl,by decide,by decide,by decide⟩
 |lst=>exact⟨91,_,rfl,by decide,by decide,by decide⟩
 |non=>exact⟨45,_,rfl,by decide,by decide,by decide⟩
 |som=>exact⟨43,_,rfl,by decide,by decide,by decide⟩
 |enm=>exact⟨35,_,rfl,by decide,by decide,by decide⟩
 |uni=>exact⟨60,_,rfl,by decide,by decide,by decide⟩
 |rcd=>exact⟨123,_,rfl,by decide,by decide,by decide⟩
theorem Jo{S:List Ty}(hS:∀t∈S,D5 t){m:Nat}(hm:20<=m):∀(d:Nat) (k:Kd) (v:Vl) (r:List UInt8),My S d k v->Nn r->Aj S m d k (Bh v++r)=some (v,r):=by
 intro d;induction d with
 |zero=>intro k v r h;cases h
 |succ d ih=>
  intro k v r h hr;unfold Aj;cases h with
  |@n _ _ n hs hb h=>
   rw[hs];simp only;rw[if_pos hb];have e:Bh (.mk 110 (Aw n) 0 [])=Aw n:=by simp[Bh,D7,H9]
   rw[e,Yj h hr]
  |@t _ _ s hs hb h=>
   rw[hs];simp only;rw[if_neg bE,if_pos hb];rw[show Ki (Bh (.mk 116 s 0 [])++r)=some (s,r)from T9.2 ⟨h,by simp[Bh,D7,H9]⟩]
  |@f _ _ b hs hb=>
   rw[hs];simp only;rw[if_neg bE,if_neg bE,if_pos hb];rw[show Mp (Bh (.mk 102 (if b then D4 else Kw) 0 [])++r)=some (b,r)from Rm.2 (by cases b<;>simp[Bh,D7,H9])]
  |@lst _ _ t ks hs hl h=>
   rw[hs];simp only;rw[if_pos Ab];unfold Q7;rw[H7,au,Bg];simp only;cases ks with
   |nil=>rfl
   |cons x ks=>
    obtain⟨c,q,e1,e2,_⟩:=Qd9 (h x aK);have e3:Al 93 (Ap 44 ((x::ks).map Bh)++[93]++r)=none:=by
     cases ks with
     |nil=>simp only[ax,List.map_nil,Ap,e1,au,C5 e2]
     |cons y ks=>rw[ax,Ce 44 _ aK,e1];simp only[au,C5 e2]
    rw[e3];simp only;rw[List.append_assoc,List.singleton_append,Qy m (x::ks) r (fun y hy r hr=>ih _ _ _ (h y hy) hr) aK aG];simp only;rw[if_pos hl]
  |@non _ _ t hs=>rw[hs];rfl
  |@som _ _ t x hs h=>
   rw[hs];simp only;rw[if_neg aJ];have e:Bh (.mk 63 [] 0 [x])=43::Bh x:=by simp[Bh,D7,H9,Ap]
   unfold Yh;rw[e,au,C5 aJ,Bg];simp only;rw[ih _ _ _ h hr]
  |@enm _ _ t f hs hb ht h9 hf=>
   rw[hs];simp only;rw[if_neg bE,if_neg bE,if_neg bE,ht];simp only;unfold Ha;have h200:f.tag<=200:=((hS t (B6 ht).1).2.2.1.1 f (Cb hf).2).2.1;have e:Bh (.mk 69 [] f.tag [])=35::Aw f.tag:=by simp[Bh,D7,H9]
   rw[if_pos h9,e,au,Bg];simp only;rw[Zm h200 hf hr]
  |@uni _ _ t f x hs hb ht h5 hf h=>
   rw[hs];simp only;rw[if_neg bE,if_neg bE,if_neg bE,ht];simp only;unfold Ha;have h9:t.sort≠69:=by rw[h5];decide
   rw[if_neg h9,if_pos h5,Xa,au,Bg];simp only;rw[List.append_assoc,List.singleton_append,Nz (p:=(f,x)) (Tw hS ht h9 (Cb hf).2).2 hf (ih _ _ (62::r) h (Gk (c:=62) _ aJ))];simp only[Bg]
  |@rcd _ _ t fs hs hb ht h2 hf h hn hp=>
   rw[hs];simp only;rw[if_neg bE,if_neg bE,if_neg bE,ht];simp only;unfold Ha;have h9:t.sort≠69:=dg;rw[if_neg h9,if_neg dg,Rj,au,Bg];simp only;cases fs with
   |nil=>rfl
   |cons p fs=>
    have e3:Al 125 (Ap 44 ((p::fs).map fun p=>Bh (Dm p))++[125]++r)=none:=by
     have e1:Bh (Dm p)=Aw p.1.tag++61::Bh p.2:=by simp[Dm,Bh,D7,H9,Ap]
     cases hd:Aw p.1.tag with
     |nil=>exact absurd hd (Pr _)
     |cons c q=>
      have hc:=Kr p.1.tag;rw[hd,List.all_cons,av,Cx]at hc;have e2:c≠125:=by rintro rfl;revert hc;simp
      rw[hd]at e1;cases fs with
      |nil=>simp only[ax,List.map_nil,Ap,e1,au,C5 e2]
      |cons y fs=>rw[ax,Ce 44 _ aK,e1];simp only[au,C5 e2]
    rw[e3];simp only
    rw[List.append_assoc,List.singleton_append,So 201 0 (p::fs) r (fun q hq r hr=>ih _ _ _ (h q hq) hr) aK
     (fun q hq=>?_) hp aG]
    have hm:=(Cb (hf q hq)).2;have h1:=((hS t (B6 ht).1).2.2.1.1 q.1 hm).1;exact⟨h1,(Tw hS ht h9 hm).2,hf q hq,hn q hq⟩
theorem Qf4{S:List Ty}(hS:∀t∈S,D5 t){d:Nat}{k:Kd}{v u:Vl}(hv:My S d k v)(hu:My S d k u)(h:Bh v=Bh u):v=u:=by
 have h1:=Jo hS (Ao 20) d k v [] hv Ku;have h2:=Jo hS (Ao 20) d k u [] hu Ku;rw[h,h2]at h1;injection h1 with h1;injection h1 with h1;exact h1.symm
def H8(S:List Ty)(k:Kd)(s:List UInt8):Option Vl:=
 if 400<s.length then none else match Aj S 20 12 k s with
  |some (v,[])=>some v
  |_=>none
theorem Ko{S:List Ty}(hS:∀t∈S,D5 t){k:Kd}(hk:C9 k){s:List UInt8}{v:Vl}:H8 S k s=some v↔My S 12 k v/\Bh v=s/\s.length<=400:=by
 unfold H8;constructor
 ·intro h;split at h
  ·cases h
  rename_i hl;cases hr:Aj S 20 12 k s with
  |none=>rw[hr]at h;cases h
  |some q=>
   obtain⟨x,r⟩:=q;rw[hr]at h;cases r with
   |cons c t=>cases h
   |nil=>
    simp only[aj]at h;subst h;obtain⟨h1,h2⟩:=Ex hS 20 12 k s x [] hk hr;exact⟨h1,by rw[h2,List.append_nil],by omega⟩
 rintro⟨h1,rfl,hl⟩;rw[if_neg aG];have:=Jo hS (Ao 20) 12 k v [] h1 Ku;rw[List.append_nil]at this;rw[this]
theorem Qcq{S:List Ty}(hS:∀t∈S,D5 t){k:Kd}(hk:C9 k){s:List UInt8}(hl:s.length<=400)(m n:Nat)(hm:20<=m)(hn:12<=n):
  H8 S k s=match Aj S m n k s with|some (v,[])=>if Jy v<=12 then some v else none|_=>none:=by
 cases hr:Aj S m n k s with
 |none=>
  cases hv:H8 S k s with
  |none=>rfl
  |some v=>
   obtain⟨h1,h2,_⟩:=(Ko hS hk).1 hv;have h3:My S n k v:=(Gd S _ _ _ h1 n).2 (ad ((Gd S _ _ _ h1 12).1 h1) hn);have:=Jo hS hm n k v [] h3 Ku;rw[List.append_nil,h2,hr]at this;cases this
 |some q=>
  obtain⟨x,r⟩:=q;obtain⟨h1,h2⟩:=Ex hS m n k s x r hk hr;cases r with
  |nil=>
   simp only;rw[List.append_nil]at h2;by_cases hd:Jy x<=12
   ·rw[if_pos hd,Ko hS hk];exact⟨(Gd S _ _ _ h1 12).2 hd,h2.symm,hl⟩
   rw[if_neg hd];cases hv:H8 S k s with
   |none=>rfl
   |some v=>
    obtain⟨i1,i2,_⟩:=(Ko hS hk).1 hv;have h3:My S n k v:=(Gd S _ _ _ i1 n).2 (ad ((Gd S _ _ _ i1 12).1 i1) hn);have e:=Qf4 hS h3 h1 (by rw[i2,h2]);subst e;exact absurd ((Gd S _ _ _ i1 12).1 i1) hd
  |cons c t=>
   simp only;cases hv:H8 S k s with
   |none=>rfl
   |some v=>
    obtain⟨i1,i2,_⟩:=(Ko hS hk).1 hv;have h3:My S n k v:=(Gd S _ _ _ i1 n).2 (ad ((Gd S _ _ _ i1 12).1 i1) hn);have:=Jo hS hm n k v [] h3 Ku;rw[List.append_nil,i2,hr]at this;injection this with this;injection this with _ this;cases this
end Go.Proofs.YtpjijpcemejlnaaGreatDoor
namespace Go.Proofs
open Go.Shelf
def Tryz.lays125_ren:Go.Shelf.Ren:=⟨fun|125=>149|128=>187|129=>188|n=>n,fun|46=>195|3=>3|51=>231|53=>233|4=>4|5=>5|9=>9|n=>n,fun|n=>n⟩
theorem Tryz.lays125:Go.Proofs.Lays.n125 Tryz.prog Tryz.lays125_ren:={
 mixed:=by kernel_rfl
 f125:=Tryz.func149.trans (congrArg some (by kernel_rfl))
 f128:=Tryz.func187.trans (congrArg some (by kernel_rfl))
 f129:=Tryz.func188.trans (congrArg some (by kernel_rfl))
 t3:=Tryz.underlying3
 a3:=Tryz.isAgg3
 z3:=Tryz.sizeOf3
 v3:=Tryz.zeroValue3
 t4:=Tryz.underlying4
 a4:=Tryz.isAgg4
 z4:=Tryz.sizeOf4
 v4:=Tryz.zeroValue4
 t5:=Tryz.underlying5
 a5:=Tryz.isAgg5
 z5:=Tryz.sizeOf5
 v5:=Tryz.zeroValue5
 t9:=Tryz.underlying9
 a9:=Tryz.isAgg9
 z9:=Tryz.sizeOf9
 v9:=Tryz.zeroValue9
 t46:=Tryz.underlying195
 a46:=Tryz.isAgg195
 z46:=Tryz.sizeOf195
 v46:=Tryz.zeroValue195
 t51:=Tryz.underlying231
 a51:=Tryz.isAgg231
 z51:=Tryz.sizeOf231
 v51:=Tryz.zeroValue231
 t53:=Tryz.underlying233
 a53:=Tryz.isAgg233
 z53:=Tryz.sizeOf233
 v53:=Tryz.zeroValue233}
def Tryz.laysE41_ren:Go.Shelf.Ren:=⟨fun|41=>109|n=>n,fun|22=>45|23=>47|4=>4|n=>n,fun|n=>n⟩
theorem Tryz.laysE41:Go.Proofs.SlLaysE0.n41 Tryz.prog Tryz.laysE41_ren:={
 mixed:=by kernel_rfl
 f41:=⟨Tryz.f109.name,by decide,Tryz.func109.trans (congrArg some (by kernel_rfl))⟩
 t4:=Tryz.underlying4
 a4:=Tryz.isAgg4
 z4:=Tryz.sizeOf4
 v4:=Tryz.zeroValue4
 t22:=Tryz.underlying45
 a22:=Tryz.isAgg45
 z22:=Tryz.sizeOf45
 v22:=Tryz.zeroValue45}
def Tryz.laysF6_ren:Go.Shelf.Ren:=⟨fun|6=>110|15=>149|14=>148|28=>187|29=>188|20=>179|21=>180|22=>181|23=>182|24=>183|25=>184|26=>185|27=>186|46=>201|47=>202|48=>203|49=>204|50=>205|57=>216|n=>n,fun|22=>45|24=>47|25=>170|3=>3|39=>195|0=>0|53=>231|55=>233|4=>4|46=>225|45=>224|50=>130|5=>5|9=>9|66=>241|70=>245|76=>250|77=>251|n=>n,fun|n=>n⟩
theorem Tryz.laysF6:Go.Proofs.SlLaysF0.n6 Tryz.prog Tryz.laysF6_ren:={
 mixed:=by kernel_rfl
 f6:=⟨Tryz.f110.name,by decide,Tryz.func110.trans (congrArg some (by kernel_rfl))⟩
 f14:=⟨Tryz.f148.name,by decide,Tryz.func148.trans (congrArg some (by kernel_rfl))⟩
 f15:=Tryz.func149.trans (congrArg some (by kernel_rfl))
 f20:=⟨Tryz.f179.name,by decide,Tryz.func179.trans (congrArg some (by kernel_rfl))⟩
 f21:=⟨Tryz.f180.name,by decide,Tryz.func180.trans (congrArg some (by kernel_rfl))⟩
 f22:=⟨Tryz.f181.name,by decide,Tryz.func181.trans (congrArg some (by kernel_rfl))⟩
 f23:=⟨Tryz.f182.name,by decide,Tryz.func182.trans (congrArg some (by kernel_rfl))⟩
 f24:=⟨Tryz.f183.name,by decide,Tryz.func183.trans (congrArg some (by kernel_rfl))⟩
 f25:=⟨Tryz.f184.name,by decide,Tryz.func184.trans (congrArg some (by kernel_rfl))⟩
 f26:=⟨Tryz.f185.name,by decide,Tryz.func185.trans (congrArg some (by kernel_rfl))⟩
 f27:=⟨Tryz.f186.name,by decide,Tryz.func186.trans (congrArg some (by kernel_rfl))⟩
 f28:=Tryz.func187.trans (congrArg some (by kernel_rfl))
 f29:=Tryz.func188.trans (congrArg some (by kernel_rfl))
 f46:=⟨Tryz.f201.name,by decide,Tryz.func201.trans (congrArg some (by kernel_rfl))⟩
 f47:=Tryz.func202.trans (congrArg some (by kernel_rfl))
 f48:=Tryz.func203.trans (congrArg some (by kernel_rfl))
 f49:=⟨Tryz.f204.name,by decide,Tryz.func204.trans (congrArg some (by kernel_rfl))⟩
 f50:=⟨Tryz.f205.name,by decide,Tryz.func205.trans (congrArg some (by kernel_rfl))⟩
 f57:=⟨Tryz.f216.name,by decide,Tryz.func216.trans (congrArg some (by kernel_rfl))⟩
 t0:=Tryz.underlying0
 a0:=Tryz.isAgg0
 z0:=Tryz.sizeOf0
 v0:=Tryz.zeroValue0
 t3:=Tryz.underlying3
 a3:=Tryz.isAgg3
 z3:=Tryz.sizeOf3
 v3:=Tryz.zeroValue3
 t4:=Tryz.underlying4
 a4:=Tryz.isAgg4
 z4:=Tryz.sizeOf4
 v4:=Tryz.zeroValue4
 t5:=Tryz.underlying5
 a5:=Tryz.isAgg5
 z5:=Tryz.sizeOf5
 v5:=Tryz.zeroValue5
 t9:=Tryz.underlying9
 a9:=Tryz.isAgg9
 z9:=Tryz.sizeOf9
 v9:=Tryz.zeroValue9
 t22:=Tryz.underlying45
 a22:=Tryz.isAgg45
 z22:=Tryz.sizeOf45
 v22:=Tryz.zeroValue45
 t25:=Tryz.underlying170
 a25:=Tryz.isAgg170
 z25:=Tryz.sizeOf170
 v25:=Tryz.zeroValue170
 t39:=Tryz.underlying195
 a39:=Tryz.isAgg195
 z39:=Tryz.sizeOf195
 v39:=Tryz.zeroValue195
 t45:=Tryz.underlying224
 a45:=Tryz.isAgg224
 z45:=Tryz.sizeOf224
 v45:=Tryz.zeroValue224
 t46:=Tryz.underlying225
 a46:=Tryz.isAgg225
 z46:=Tryz.sizeOf225
 v46:=Tryz.zeroValue225
 t50:=Tryz.underlying130
 a50:=Tryz.isAgg130
 z50:=Tryz.sizeOf130
 v50:=Tryz.zeroValue130
 t53:=Tryz.underlying231
 a53:=Tryz.isAgg231
 z53:=Tryz.sizeOf231
 v53:=Tryz.zeroValue231
 t55:=Tryz.underlying233
 a55:=Tryz.isAgg233
 z55:=Tryz.sizeOf233
 v55:=Tryz.zeroValue233
 t66:=Tryz.underlying241
 a66:=Tryz.isAgg241
 z66:=Tryz.sizeOf241
 v66:=Tryz.zeroValue241
 t70:=Tryz.underlying245
 a70:=Tryz.isAgg245
 z70:=Tryz.sizeOf245
 v70:=Tryz.zeroValue245
 t76:=Tryz.underlying250
 a76:=Tryz.isAgg250
 z76:=Tryz.sizeOf250
 v76:=Tryz.zeroValue250
 t77:=Tryz.underlying251
 a77:=Tryz.isAgg251
 z77:=Tryz.sizeOf251
 v77:=Tryz.zeroValue251}
end Go.Proofs
namespace Go.Proofs.YtpjijpcemejlnaaGreatDoor
open Go.RowKit Go.Proofs.Tryz
abbrev Pm:=Cj × Cj
def Qf7(S T:List Ty)(m:List Pm):Prop:=m.Nodup/\∀p∈m,p.1∈J3 S/\p.2∈J3 T
theorem Qf7.nil(S T:List Ty):Qf7 S T []:=⟨List.nodup_nil,by simp⟩
theorem Ze:∀(l m:List Pm),l.Nodup->(∀x∈l,x∈m)->l.length<=m.length
 |[],m,_,_=>aK
 |x::l,m,hn,hs=>by
  have hx:=hs x aK;have:=Ze l (m.erase x) (List.nodup_cons.1 hn).2 (fun y hy=>(List.mem_erase_of_ne (by rintro rfl;exact(List.nodup_cons.1 hn).1 hy)).2 (hs y (by simp[hy])));rw[List.length_erase_of_mem hx]at this;have:=List.length_pos_of_mem hx;simp only[List.length_cons];omega
def Yk(a b:List Cj):List Pm:=a.flatMap fun x=>b.map fun y=>(x,y)
theorem Tq(b:List Cj):∀a,(Yk a b).length=a.length*b.length
 |[]=>by simp[Yk]
 |x::a=>by
  have:=Tq b a;unfold Yk at this ⊢;rw[List.flatMap_cons,ah,List.length_map,this,List.length_cons,Nat.add_mul];omega
theorem Qf7.len{S T:List Ty}{m:List Pm}(h:Qf7 S T m):m.length<=S.length*T.length:=by
 have:=Ze m (Yk (J3 S) (J3 T)) h.1 (fun x hx=>by
  obtain⟨a,b⟩:=x;have:=h.2 _ hx;unfold Yk;rw[List.mem_flatMap];exact⟨a,this.1,aw.2 ⟨b,this.2,rfl⟩⟩)
 rw[Tq]at this;simpa [J3]using this
def Qfp(R:Cj->Cj->Prop)(a b:Kd):Prop:=a.signs=b.signs/\a.base=b.base/\(a.base=[64]->R a.name b.name)
def Qdx(S T:List Ty)(R:Cj->Cj->Prop)(t:Ty)(st:UInt8)(g:Fd):Prop:=
 match Bc t.fields g.tag with
 |none=>st=82
 |some f=>st=69\/(Qfp R f.kind g.kind/\(st=82->P1 S f=P1 T g))
def Xn(S T:List Ty)(R:Cj->Cj->Prop)(a b:Cj):Prop:=∃t u,By S a=some t/\By T b=some u/\t.sort=u.sort/\∀g∈u.fields,Qdx S T R t u.sort g
abbrev inM(m:List Pm)(a b:Cj):Prop:=(a,b)∈m
theorem Qfp.mono{R Q:Cj->Cj->Prop}(h:∀a b,R a b->Q a b){a b:Kd}(hk:Qfp R a b):Qfp Q a b:=⟨hk.1,hk.2.1,fun e=>h _ _ (hk.2.2 e)⟩
theorem Qdx.mono{S T:List Ty}{R Q:Cj->Cj->Prop}(h:∀a b,R a b->Q a b){t:Ty}{st:UInt8}{g:Fd}(hk:Qdx S T R t st g):Qdx S T Q t st g:=by
 unfold Qdx at hk ⊢;cases hf:Bc t.fields g.tag with
 |none=>rw[hf]at hk;exact hk
 |some f=>
  rw[hf]at hk;rcases hk with hk|⟨x,y⟩
  ·exact .inl hk
  exact .inr ⟨x.mono h,y⟩
theorem Xn.mono{S T:List Ty}{R Q:Cj->Cj->Prop}(h:∀a b,R a b->Q a b){a b:Cj}(hk:Xn S T R a b):Xn S T Q a b:=by
 obtain⟨t,u,e1,e2,e3,e4⟩:=hk;exact⟨t,u,e1,e2,e3,fun g hg=>(e4 g hg).mono h⟩
def Qbj(S T:List Ty)(m m':List Pm):Prop:=∀a b,(a,b)∈m'->(a,b)∉m->Xn S T (inM m') a b
theorem Qbj.trans{S T:List Ty}{m1 m2 m3:List Pm}(h1:Qbj S T m1 m2)(h2:Qbj S T m2 m3)(hs:∀p∈m2,p∈m3):Qbj S T m1 m3:=by
 intro a b h3 hn;by_cases h:(a,b)∈m2
 ·exact(h1 a b h hn).mono fun x y hxy=>hs _ hxy
 exact h2 a b h3 h
def Td(ρ:Cj->Cj)(k:Kd):Kd:=if k.base=[64]then {k with name:=ρ k.name} else k
def Q9(ρ:Cj->Cj)(st:UInt8)(f:Fd):Fd:=if st=69 then f else {f with kind:=Td ρ f.kind}
def Xj(ρ:Cj->Cj)(t:Ty):Ty:={t with name:=ρ t.name,fields:=t.fields.map (Q9 ρ t.sort)}
theorem S6(ρ:Cj->Cj)(k:Kd):(Td ρ k).signs=k.signs:=by unfold Td;split<;>rfl
theorem Nb(ρ:Cj->Cj)(k:Kd):(Td ρ k).base=k.base:=by unfold Td;split<;>rfl
theorem Ks{ρ:Cj->Cj}{k:Kd}(h:k.base=[64]):(Td ρ k).name=ρ k.name:=by unfold Td;rw[if_pos h]
theorem Qev(ρ:Cj->Cj)(st:UInt8)(f:Fd):(Q9 ρ st f).tag=f.tag:=by unfold Q9;split<;>rfl
theorem Qam(ρ:Cj->Cj)(st:UInt8)(f:Fd):(Q9 ρ st f).given=f.given:=by unfold Q9;split<;>rfl
theorem Nd{ρ:Cj->Cj}{st:UInt8}(h:st≠69)(f:Fd):(Q9 ρ st f).kind=Td ρ f.kind:=by unfold Q9;rw[if_neg h]
def inN(ns:List Cj)(k:Kd):Prop:=k.base=[64]->k.name∈ns
structure Ren(S T:List Ty)(ns:List Cj)(ρ:Cj->Cj):Prop where
 get:∀n∈ns,∃t,By S n=some t/\By T (ρ n)=some (Xj ρ t)/\D5 t/\(t.sort≠69->∀f∈t.fields,inN ns f.kind)
 inj:∀a∈ns,∀b∈ns,ρ a=ρ b->a=b
theorem Ren.met{S T:List Ty}{ns:List Cj}{ρ:Cj->Cj}(h:Ren S T ns ρ):∀(n:Nat) (k:Kd) (out:List Cj),inN ns k->(∀x∈out,x∈ns) ->
  P2 T n (Td ρ k) (out.map ρ)=(P2 S n k out).map ρ/\∀x∈P2 S n k out,x∈ns
 |0,k,out,_,ho=>⟨rfl,ho⟩
 |n+1,k,out,hk,ho=>by
  by_cases hb:k.base=[64]
  ·have hkn:=hk hb;have hmem:ρ k.name∈out.map ρ↔k.name∈out:=by
    rw[aw];exact⟨fun⟨y,hy,e⟩=>by rw[<-h.inj y (ho y hy) k.name hkn e];exact hy,fun hy=>⟨_,hy,rfl⟩⟩
   by_cases hin:k.name∈out
   ·rw[P2,P2,if_neg (by rw[Ks hb];exact fun hh=>hh.2 (hmem.2 hin)),if_neg (fun hh=>hh.2 hin)];exact⟨rfl,ho⟩
   obtain⟨t,e1,e2,e3,e4⟩:=h.get _ hkn;have ho2:∀x∈out++[k.name],x∈ns:=fun x hx=>by
    rcases af.1 hx with hx|hx
    ·exact ho x hx
    simp at hx;subst hx;exact hkn
   rw[P2,P2,if_pos ⟨by rw[Nb];exact hb,by rw[Ks hb];exact fun hh=>hin (hmem.1 hh)⟩,if_pos ⟨hb,hin⟩,Ks hb,e1,e2];simp only;rw[show (Xj ρ t).sort=t.sort from rfl,show (Xj ρ t).fields=t.fields.map (Q9 ρ t.sort)from rfl];have em:out.map ρ++[ρ k.name]=(out++[k.name]).map ρ:=aK;by_cases h69:t.sort=69
   ·rw[if_pos h69,if_pos h69];exact⟨em,ho2⟩
   rw[if_neg h69,if_neg h69,em];have key:∀(fs:List Fd),(∀f∈fs,inN ns f.kind)->∀(o:List Cj),(∀x∈o,x∈ns) ->
     (fs.map (Q9 ρ t.sort)).foldl (fun o f=>P2 T n f.kind o) (o.map ρ)=(fs.foldl (fun o f=>P2 S n f.kind o) o).map ρ/\∀x∈fs.foldl (fun o f=>P2 S n f.kind o) o,x∈ns:=by
    intro fs;induction fs with
    |nil=>intro _ o ho;exact⟨rfl,ho⟩
    |cons f fs ih=>
     intro hfs o ho;obtain⟨m1,m2⟩:=h.met n f.kind o (hfs f aK) ho;simp only[ax,List.foldl_cons];rw[Nd h69,m1];exact ih (fun g hg=>hfs g (by simp[hg])) _ m2
   exact key t.fields (e4 h69) _ ho2
  rw[P2,P2,if_neg (fun hh=>hb (by rw[Nb]at hh;exact hh.1)),if_neg (fun hh=>hb hh.1)];exact⟨rfl,ho⟩
theorem Ren.stand{S T:List Ty}{ns:List Cj}{ρ:Cj->Cj}(h:Ren S T ns ρ):∀(n:Nat) (k:Kd),inN ns k->V6 k->Cs T n (Td ρ k)=Cs S n k
 |0,_,_,_=>rfl
 |n+1,k,hk,hb=>by
  rw[Cs,Cs,S6,Nb];split
  ·rfl
  split
  ·rfl
  split
  ·rfl
  rename_i h1;split
  ·rfl
  rename_i h2;split
  ·rfl
  rename_i h3;have hb64:k.base=[64]:=by
   rcases hb with⟨hb,_⟩|⟨hb|hb|hb,_⟩
   ·exact hb
   ·exact absurd hb h1
   ·exact absurd hb h2
   exact absurd hb h3
  obtain⟨t,e1,e2,e3,e4⟩:=h.get _ (hk hb64);rw[Ks hb64,e1,e2];simp only;rw[show (Xj ρ t).sort=t.sort from rfl,show (Xj ρ t).fields=t.fields.map (Q9 ρ t.sort)from rfl];split
  ·rfl
  cases hf:t.fields with
  |nil=>rfl
  |cons f fs=>
   simp only[ax];rw[Qev];split
   ·rfl
   rename_i h69;rw[Nd h69,h.stand n f.kind (e4 h69 f de) ((e3.2.2.1.1 f de).2.2.2.2 h69).1.2.1]
theorem Ren.of{S T:List Ty}{ns:List Cj}{ρ:Cj->Cj}(h:Ren S T ns ρ){st:UInt8}{f:Fd}(h69:st≠69)(hf:Ra st f)(hk:inN ns f.kind):P1 T (Q9 ρ st f)=P1 S f:=by
 unfold P1;rw[Qam,Nd h69];unfold Qd;rw[h.stand 10 f.kind hk (hf.2.2.2.2 h69).1.2.1]
theorem Ren.ends{S T:List Ty}{ns:List Cj}{ρ:Cj->Cj}(h:Ren S T ns ρ):∀(n:Nat) (t:Ty),(t.sort≠69->∀f∈t.fields,inN ns f.kind)->Bm T n (Xj ρ t)=Bm S n t
 |0,_,_=>rfl
 |n+1,t,ht=>by
  unfold Bm;by_cases h85:t.sort=85
  ·have h69:t.sort≠69:=da;unfold Eo;rw[show (Xj ρ t).sort=t.sort from rfl,show (Xj ρ t).fields=t.fields.map (Q9 ρ t.sort)from rfl,if_pos h85,if_pos h85];cases hf:t.fields with
   |nil=>rfl
   |cons f fs=>
    simp only[ax];rw[Nd h69,S6,Nb];by_cases hc:f.kind.signs=[]/\f.kind.base=[64]
    ·rw[if_pos hc,if_pos hc,Ks hc.2];obtain⟨u,e1,e2,e3,e4⟩:=h.get _ (ht h69 f de hc.2);rw[e1,e2];exact h.ends n u e4
    rw[if_neg hc,if_neg hc]
  have e1:Eo T (Xj ρ t)=none:=if_neg h85;have e2:Eo S t=none:=if_neg h85;rw[e1,e2]
def LOk(v:Vl)(r:Vl × Bool):Prop:=(r.2=false->r.1=v)/\(r.2=true->(Bh r.1).length<(Bh v).length)
theorem LOk.le{v:Vl}{r:Vl × Bool}(h:LOk v r):(Bh r.1).length<=(Bh v).length:=by
 cases e:r.2 with
 |false=>rw[h.1 e];exact Ao _
 |true=>exact Nat.le_of_lt (h.2 e)
theorem LOk.same(v:Vl):LOk v (v,false):=⟨fun _=>rfl,fun h=>Bool.noConfusion h⟩
def Du(ps:List (List UInt8)):Nat:=(ps.map fun p=>p.length+1).sum
theorem Fw(p:List UInt8)(ps:List (List UInt8)):Du (p::ps)=p.length+1+Du ps:=ep
theorem Ch(c:UInt8):∀ps:List (List UInt8),(Ap c ps).length=Du ps - 1
 |[]=>rfl
 |[p]=>by simp[Ap,Du]
 |p::q::ps=>by
  rw[Ce c p aK,ah,List.length_cons,Ch c (q::ps),Fw p,Fw q];omega
theorem Px(w:UInt8)(tx:List UInt8)(tg:Nat)(ks:List Vl):Bh (.mk w tx tg ks)=H9 w tx tg (ks.map Bh):=by rw[Bh,Pq]
theorem Rb(p:Fd × Vl):(Bh (Dm p)).length=(Aw p.1.tag).length+1+(Bh p.2).length:=by simp[Dm,Bh,D7,H9,Ap];omega
theorem Nw{fs:List Fd}{n:Nat}{f:Fd}(h:Bc fs n=some f):f∈fs/\f.tag=n:=⟨(Cb h).2,(Cb h).1⟩
end Go.Proofs.YtpjijpcemejlnaaGreatDoor
