/- Texts joined. Conditions: as each theorem names them. -/
import Derived.Shelf.SlSortCmp.SmallK
import Derived.Shelf.SlicesE.Clone
import Derived.Shelf.Small.Bits
import Derived.Ground.SlsfProg
import Derived.Test.YtkigmebejmmikaaGreatDoorProg
import Derived.Test.YtkigmebejmmikaaGreatDoorQ02
import Derived.Test.YtkigmebejmmikaaGreatDoorQ03
set_option maxRecDepth 100000
set_option maxHeartbeats 32000000
set_option linter.unusedVariables false
set_option linter.unusedSimpArgs false
namespace Go.Proofs.YtkigmebejmmikaaGreatDoor
open Go.RowKit Go.Proofs.Tryz
theorem Qaj{K:List UInt8->Option (Vl × List UInt8)}{P:Vl->Prop}(hK:∀s v r,K s=some (v,r)->P v/\s=Az v++r):∀(m:Nat) (s:List UInt8) (vs:List Vl) (r:List UInt8),
  Cn K m s=some (vs,r)->vs≠[]/\vs.length<=m/\(∀x∈vs,P x)/\s=Ak 44 (vs.map Az)++93::r:=by
 intro m
 induction m with
 |zero=>intro s vs r h;cases h
 |succ m ih=>
  intro s vs r h
  unfold Cn at h
  cases hk:K s with
  |none=>rw[hk]at h;cases h
  |some q=>
   obtain⟨v,z⟩:=q
   rw[hk]at h
   simp only at h
   obtain⟨hp,rfl⟩:=hK _ _ _ hk
   cases hb:Am 44 z with
   |some q=>
    rw[hb]at h
    simp only at h
    cases hi:Cn K m q with
    |none=>rw[hi]at h;cases h
    |some y=>
     obtain⟨us,y⟩:=y
     rw[hi]at h
     simp only[Option.some.injEq,Prod.mk.injEq]at h
     obtain⟨rfl,rfl⟩:=h
     obtain⟨h1,h2,h3,h4⟩:=ih _ _ _ hi
     rw[B9]at hb
     subst hb
     refine⟨by simp,by simp;omega,by simpa using⟨hp,h3⟩,?_⟩
     rw[List.map_cons,Ch 44 _ (by simpa using h1),h4]
     simp
   |none=>
    rw[hb]at h
    simp only at h
    cases hb:Am 93 z with
    |none=>rw[hb]at h;cases h
    |some q=>
     rw[hb]at h
     simp only[Option.some.injEq,Prod.mk.injEq]at h
     obtain⟨rfl,rfl⟩:=h
     rw[B9]at hb
     subst hb
     exact⟨by simp,by simp,by simpa using hp,by simp[Ak]⟩
theorem Rm{K:List UInt8->Option (Vl × List UInt8)}:∀(m:Nat) (vs:List Vl) (r:List UInt8),(∀x∈vs,∀r,Pj r->K (Az x++r)=some (x,r))->vs≠[]->vs.length<=m ->
  Cn K m (Ak 44 (vs.map Az)++93::r)=some (vs,r)
 |0,vs,r,_,h,hl=>by cases vs with|nil=>exact absurd rfl h|cons=>simp at hl
 |m+1,[],r,_,h,_=>absurd rfl h
 |m+1,[x],r,hK,_,_=>by
  have e:=hK x (by simp) (93::r) (H4 _ (by decide))
  simp only[List.map_cons,List.map_nil,Ak]
  unfold Cn
  rw[e]
  simp only[Df (show (93:UInt8)≠44 by decide),Bm]
 |m+1,x::y::vs,r,hK,_,hl=>by
  have ih:=Rm m (y::vs) r (fun z hz=>hK z (by simp at hz ⊢;exact .inr hz)) (by simp) (by simp at hl ⊢;omega)
  have e:=hK x (by simp) (44::(Ak 44 ((y::vs).map Az)++93::r)) (H4 _ (by decide))
  rw[List.map_cons,Ch 44 _ (by simp),List.append_assoc,List.cons_append]
  unfold Cn
  rw[e]
  simp only[Bm,ih]
theorem Pn{K:Kd->List UInt8->Option (Vl × List UInt8)}{P:Fd->Vl->Prop}{fs:List Fd}(hK:∀f∈fs,∀s v r,K f.kind s=some (v,r)->P f v/\s=Az v++r){s r:List UInt8}{p:Fd × Vl}
  (h:Cr K fs s=some (p,r)):p.1.tag<=200/\Bg fs p.1.tag=some p.1/\P p.1 p.2/\s=Az (Dg p)++r:=by
 unfold Cr at h
 cases ht:Fh fs s with
 |none=>rw[ht]at h;cases h
 |some q=>
  obtain⟨f,z⟩:=q
  rw[ht]at h
  simp only at h
  obtain⟨h1,h2,rfl,_⟩:=H7 ht
  cases hb:Am 61 z with
  |none=>rw[hb]at h;cases h
  |some q=>
   rw[hb]at h
   simp only at h
   rw[B9]at hb
   subst hb
   cases hk:K f.kind q with
   |none=>rw[hk]at h;cases h
   |some y=>
    obtain⟨v,y⟩:=y
    rw[hk]at h
    simp only[Option.some.injEq,Prod.mk.injEq]at h
    obtain⟨rfl,rfl⟩:=h
    obtain⟨h3,rfl⟩:=hK f (Bk h2).2 _ _ _ hk
    exact⟨h1,h2,h3,by simp[Dg,Az,Dx,E8,Ak]⟩
theorem Pm{K:Kd->List UInt8->Option (Vl × List UInt8)}{fs:List Fd}{p:Fd × Vl}{r:List UInt8}(h1:p.1.tag<=200)(h2:Bg fs p.1.tag=some p.1)(hK:K p.1.kind (Az p.2++r)=some (p.2,r)):
  Cr K fs (Az (Dg p)++r)=some (p,r):=by
 have e:Az (Dg p)++r=Aw p.1.tag++(61::(Az p.2++r)):=by simp[Dg,Az,Dx,E8,Ak]
 rw[e]
 unfold Cr
 rw[Zb h1 h2 (H4 _ (by decide))]
 simp only[Bm,hK]
theorem Qcb{S:List Ty}{K:Kd->List UInt8->Option (Vl × List UInt8)}{P:Fd->Vl->Prop}{fs:List Fd}(hK:∀f∈fs,∀s v r,K f.kind s=some (v,r)->P f v/\s=Az v++r):∀(m last:Nat) (s:List UInt8) (ps:List (Fd × Vl)) (r:List UInt8),
  Dr S K fs m last s=some (ps,r)->ps≠[]/\(∀p∈ps,last<p.1.tag/\Bg fs p.1.tag=some p.1/\P p.1 p.2/\Az p.2≠Re S p.1)/\(ps.Pairwise fun p q=>p.1.tag<q.1.tag)/\s=Ak 44 (ps.map fun p=>Az (Dg p))++125::r:=by
 intro m
 induction m with
 |zero=>intro last s ps r h;cases h
 |succ m ih=>
  intro last s ps r h
  unfold Dr at h
  cases hk:Cr K fs s with
  |none=>rw[hk]at h;cases h
  |some q=>
   obtain⟨p,z⟩:=q
   rw[hk]at h
   simp only at h
   obtain⟨h1,h2,h3,rfl⟩:=Pn hK hk
   split at h
   ·cases h
   rename_i hno
   have hno1:last<p.1.tag:=by omega
   have hno2:Az p.2≠Re S p.1:=fun e=>hno (.inr e)
   cases hb:Am 44 z with
   |some q=>
    rw[hb]at h
    simp only at h
    cases hi:Dr S K fs m p.1.tag q with
    |none=>rw[hi]at h;cases h
    |some y=>
     obtain⟨us,y⟩:=y
     rw[hi]at h
     simp only[Option.some.injEq,Prod.mk.injEq]at h
     obtain⟨rfl,rfl⟩:=h
     obtain⟨i1,i2,i3,i4⟩:=ih _ _ _ _ hi
     rw[B9]at hb
     subst hb
     refine⟨by simp,?_,?_,?_⟩
     ·intro x hx
      rcases List.mem_cons.1 hx with rfl|hx
      ·exact⟨hno1,h2,h3,hno2⟩
      obtain⟨j1,j2⟩:=i2 x hx;exact⟨by omega,j2⟩
     ·exact List.pairwise_cons.2 ⟨fun x hx=>(i2 x hx).1,i3⟩
     rw[List.map_cons,Ch 44 _ (by simpa using i1),i4]
     simp
   |none=>
    rw[hb]at h
    simp only at h
    cases hb:Am 125 z with
    |none=>rw[hb]at h;cases h
    |some q=>
     rw[hb]at h
     simp only[Option.some.injEq,Prod.mk.injEq]at h
     obtain⟨rfl,rfl⟩:=h
     rw[B9]at hb
     subst hb
     refine⟨by simp,?_,by simp,by simp[Ak]⟩
     intro x hx
     rw[List.mem_singleton]at hx
     subst hx
     exact⟨hno1,h2,h3,hno2⟩
theorem T8{S:List Ty}{K:Kd->List UInt8->Option (Vl × List UInt8)}{fs:List Fd}:∀(m last:Nat) (ps:List (Fd × Vl)) (r:List UInt8),
  (∀p∈ps,∀r,Pj r->K p.1.kind (Az p.2++r)=some (p.2,r))->ps≠[]->(∀p∈ps,last<p.1.tag/\p.1.tag<=200/\Bg fs p.1.tag=some p.1/\Az p.2≠Re S p.1)->(ps.Pairwise fun p q=>p.1.tag<q.1.tag)->201<=m+last ->
  Dr S K fs m last (Ak 44 (ps.map fun p=>Az (Dg p))++125::r)=some (ps,r)
 |0,last,[],r,_,h,_,_,_=>absurd rfl h
 |0,last,p::ps,r,_,_,hp,_,hl=>by have:=hp p (by simp);omega
 |m+1,last,[],r,_,h,_,_,_=>absurd rfl h
 |m+1,last,[p],r,hK,_,hp,_,hl=>by
  obtain⟨h1,h2,h3,h4⟩:=hp p (by simp)
  have e:=Pm h2 h3 (hK p (by simp) (125::r) (H4 _ (by decide)))
  simp only[List.map_cons,List.map_nil,Ak]
  unfold Dr
  rw[e]
  simp only
  rw[if_neg (by intro h;rcases h with h|h;omega;exact h4 h)]
  simp only[Df (show (125:UInt8)≠44 by decide),Bm]
 |m+1,last,p::q::ps,r,hK,_,hp,hw,hl=>by
  obtain⟨h1,h2,h3,h4⟩:=hp p (by simp)
  obtain⟨w1,w2⟩:=List.pairwise_cons.1 hw
  have ih:=T8 m p.1.tag (q::ps) r (fun z hz=>hK z (by simp at hz ⊢;exact .inr hz)) (by simp) (fun z hz=>⟨w1 z hz,(hp z (by simp at hz ⊢;exact .inr hz)).2⟩) w2 (by omega)
  have e:=Pm (K:=K) h2 h3 (hK p (by simp) (44::(Ak 44 ((q::ps).map fun p=>Az (Dg p))++125::r)) (H4 _ (by decide)))
  rw[List.map_cons,Ch 44 _ (by simp),List.append_assoc,List.cons_append]
  unfold Dr
  rw[e]
  simp only
  rw[if_neg (by intro h;rcases h with h|h;omega;exact h4 h)]
  simp only[Bm,ih]
theorem Z4{k:Kd}(h:Co k){c:UInt8}{t:List UInt8}(hs:k.signs=c::t):c=91\/c=63:=by
 have:=h.1
 rw[hs]at this
 simp only[List.all_cons,Bool.and_eq_true,Bo,Bool.or_eq_true,beq_iff_eq]at this
 exact this.1
theorem Ph{S:List Ty}(hS:∀t∈S,Dc t){n:List UInt8}{t:Ty}(ht:By S n=some t)(h9:t.sort≠69){f:Fd}(hf:f∈t.fields):Co f.kind/\f.tag<=200:=by
 have h:=(hS t (Bs ht).1).2.2.1.1 f hf
 exact⟨(h.2.2.2.2 h9).1,h.2.1⟩
theorem Pa(fs:List (Fd × Vl)):Az (.mk 82 [] 0 (fs.map Dg))=123::(Ak 44 (fs.map fun p=>Az (Dg p))++[125]):=by
 simp[Az,Qb,E8];rfl
theorem Fr(ks:List Vl):Az (.mk 91 [] 0 ks)=91::(Ak 44 (ks.map Az)++[93]):=by simp[Az,Qb,E8]
theorem Xw(f:Fd)(x:Vl):Az (.mk 85 [] f.tag [x])=60::(Az (Dg (f,x))++[62]):=by simp[Az,Dx,E8,Dg,Ak]
theorem Ff{S:List Ty}(hS:∀t∈S,Dc t)(m:Nat):∀(d:Nat) (k:Kd) (s:List UInt8) (v:Vl) (r:List UInt8),Co k->Ai S m d k s=some (v,r)->Jo S d k v/\s=Az v++r:=by
 intro d
 induction d with
 |zero=>intro k s v r _ h;cases h
 |succ d ih=>
  intro k s v r hk h
  unfold Ai at h
  cases hs:k.signs with
  |cons c t=>
   rw[hs]at h
   simp only at h
   have hp:=(Ks hk).1
   by_cases h91:c=91
   ·subst h91
    rw[if_pos rfl]at h
    unfold Sa at h
    cases hb:Am 91 s with
    |none=>rw[hb]at h;cases h
    |some q=>
     rw[hb]at h
     simp only at h
     rw[B9]at hb
     subst hb
     cases hb:Am 93 q with
     |some z=>
      rw[hb]at h
      simp only[Option.some.injEq,Prod.mk.injEq]at h
      obtain⟨rfl,rfl⟩:=h
      rw[B9]at hb
      subst hb
      exact⟨.lst hs (by simp) (by simp),by rw[Fr];rfl⟩
     |none=>
      rw[hb]at h
      simp only at h
      cases hi:Cn (Ai S m d k.part) m q with
      |none=>rw[hi]at h;cases h
      |some y=>
       obtain⟨us,y⟩:=y
       rw[hi]at h
       simp only at h
       split at h
       ·rename_i hl
        simp only[Option.some.injEq,Prod.mk.injEq]at h
        obtain⟨rfl,rfl⟩:=h
        obtain⟨_,_,i3,i4⟩:=Qaj (P:=Jo S d k.part) (fun s v r h=>ih _ _ _ _ hp h) _ _ _ _ hi
        exact⟨.lst hs hl i3,by rw[Fr,i4];simp⟩
       cases h
   have h63:=(Z4 hk hs).resolve_left h91
   subst h63
   rw[if_neg h91]at h
   unfold Qau at h
   cases hb:Am 45 s with
   |some q=>
    rw[hb]at h
    simp only[Option.some.injEq,Prod.mk.injEq]at h
    obtain⟨rfl,rfl⟩:=h
    rw[B9]at hb
    subst hb
    exact⟨.non hs,rfl⟩
   |none=>
    rw[hb]at h
    simp only at h
    cases hb:Am 43 s with
    |none=>rw[hb]at h;cases h
    |some q=>
     rw[hb]at h
     simp only at h
     rw[B9]at hb
     subst hb
     cases hi:Ai S m d k.part q with
     |none=>rw[hi]at h;cases h
     |some y=>
      obtain⟨x,y⟩:=y
      rw[hi]at h
      simp only[Option.some.injEq,Prod.mk.injEq]at h
      obtain⟨rfl,rfl⟩:=h
      obtain⟨i1,rfl⟩:=ih _ _ _ _ hp hi
      exact⟨.som hs i1,by simp[Az,Dx,E8,Ak]⟩
  |nil=>
   rw[hs]at h
   simp only at h
   split at h
   ·rename_i hb
    cases hn:Pt s with
    |none=>rw[hn]at h;cases h
    |some q=>
     obtain⟨n,q⟩:=q
     rw[hn]at h
     simp only[Option.some.injEq,Prod.mk.injEq]at h
     obtain⟨rfl,rfl⟩:=h
     obtain⟨h1,h2,_⟩:=Xh hn
     exact⟨.n hs hb h1,by rw[h2];simp[Az,Dx,E8]⟩
   split at h
   ·rename_i hb
    cases hn:Mn s with
    |none=>rw[hn]at h;cases h
    |some q=>
     obtain⟨x,q⟩:=q
     rw[hn]at h
     simp only[Option.some.injEq,Prod.mk.injEq]at h
     obtain⟨rfl,rfl⟩:=h
     obtain⟨h1,rfl⟩:=Xg.1 hn
     exact⟨.t hs hb h1,by simp[Az,Dx,E8]⟩
   split at h
   ·rename_i hb
    cases hn:M6 s with
    |none=>rw[hn]at h;cases h
    |some q=>
     obtain⟨x,q⟩:=q
     rw[hn]at h
     simp only[Option.some.injEq,Prod.mk.injEq]at h
     obtain⟨rfl,rfl⟩:=h
     have:=S9.1 hn
     exact⟨.f hs hb,by rw[this];simp[Az,Dx,E8]⟩
   rename_i b1 b2 b3
   have hb:k.base=[64]:=by
    rcases hk.2.1 with h|⟨h|h|h,_⟩
    ·exact h.1
    ·exact absurd h b1
    ·exact absurd h b2
    exact absurd h b3
   cases ht:By S k.name with
   |none=>rw[ht]at h;cases h
   |some t=>
    rw[ht]at h
    simp only at h
    unfold Jl at h
    by_cases h9:t.sort=69
    ·rw[if_pos h9]at h
     cases hb3:Am 35 s with
     |none=>rw[hb3]at h;cases h
     |some q=>
      rw[hb3]at h
      simp only at h
      rw[B9]at hb3
      subst hb3
      cases hg:Fh t.fields q with
      |none=>rw[hg]at h;cases h
      |some y=>
       obtain⟨f,y⟩:=y
       rw[hg]at h
       simp only[Option.some.injEq,Prod.mk.injEq]at h
       obtain⟨rfl,rfl⟩:=h
       obtain⟨_,h2,h3,_⟩:=H7 hg
       exact⟨.enm hs hb ht h9 h2,by rw[h3];simp[Az,Dx,E8]⟩
    rw[if_neg h9]at h
    have hK:∀f∈t.fields,∀s v r,Ai S m d f.kind s=some (v,r)->Jo S d f.kind v/\s=Az v++r:=fun f hf s v r hr=>ih _ _ _ _ (Ph hS ht h9 hf).1 hr
    by_cases h5:t.sort=85
    ·rw[if_pos h5]at h
     cases hb3:Am 60 s with
     |none=>rw[hb3]at h;cases h
     |some q=>
      rw[hb3]at h
      simp only at h
      rw[B9]at hb3
      subst hb3
      cases hg:Cr (Ai S m d) t.fields q with
      |none=>rw[hg]at h;cases h
      |some y=>
       obtain⟨p,y⟩:=y
       rw[hg]at h
       simp only at h
       cases hb4:Am 62 y with
       |none=>rw[hb4]at h;cases h
       |some z=>
        rw[hb4]at h
        simp only[Option.some.injEq,Prod.mk.injEq]at h
        obtain⟨rfl,rfl⟩:=h
        rw[B9]at hb4
        subst hb4
        obtain⟨_,h2,h3,rfl⟩:=Pn (P:=fun f v=>Jo S d f.kind v) hK hg
        exact⟨.uni hs hb ht h5 h2 h3,by rw[Xw];simp⟩
    rw[if_neg h5]at h
    have h2:t.sort=82:=by
     rcases(hS t (Bs ht).1).1 with h|h|h
     ·exact h
     ·exact absurd h h5
     exact absurd h h9
    cases hb3:Am 123 s with
    |none=>rw[hb3]at h;cases h
    |some q=>
     rw[hb3]at h
     simp only at h
     rw[B9]at hb3
     subst hb3
     cases hb4:Am 125 q with
     |some z=>
      rw[hb4]at h
      simp only[Option.some.injEq,Prod.mk.injEq]at h
      obtain⟨rfl,rfl⟩:=h
      rw[B9]at hb4
      subst hb4
      exact⟨.rcd (fs:=[]) hs hb ht h2 (by simp) (by simp) (by simp) (by simp),rfl⟩
     |none=>
      rw[hb4]at h
      simp only at h
      cases hg:Dr S (Ai S m d) t.fields 201 0 q with
      |none=>rw[hg]at h;cases h
      |some y=>
       obtain⟨ps,y⟩:=y
       rw[hg]at h
       simp only[Option.some.injEq,Prod.mk.injEq]at h
       obtain⟨rfl,rfl⟩:=h
       obtain⟨_,i2,i3,i4⟩:=Qcb (P:=fun f v=>Jo S d f.kind v) hK _ _ _ _ _ hg
       exact⟨.rcd hs hb ht h2 (fun p hp=>(i2 p hp).2.1) (fun p hp=>(i2 p hp).2.2.1) (fun p hp=>(i2 p hp).2.2.2) i3,by rw[Pa,i4];simp⟩
theorem Qfn{S:List Ty}{d:Nat}{k:Kd}{v:Vl}(h:Jo S d k v):∃c t,Az v=c::t/\c≠93/\c≠125/\c≠44:=by
 cases h with
 |@n _ _ m hs hb h=>
  have e:Az (.mk 110 (Aw m) 0 [])=Aw m:=by simp[Az,Dx,E8]
  rw[e]
  cases hd:Aw m with
  |nil=>exact absurd hd (P8 m)
  |cons c t=>
   have:=Nt m
   rw[hd,List.all_cons,Bool.and_eq_true,Da]at this
   refine⟨c,t,rfl,?_,?_,?_⟩<;>(rintro rfl;revert this;simp)
 |t=>exact⟨39,_,rfl,by decide,by decide,by decide⟩
 |@f _ _ b=>cases b<;>exact⟨_,_,rfl,by decide,by decide,by decide⟩
 |lst=>exact⟨91,_,rfl,by decide,by decide,by decide⟩
 |non=>exact⟨45,_,rfl,by decide,by decide,by decide⟩
 |som=>exact⟨43,_,rfl,by decide,by decide,by decide⟩
 |enm=>exact⟨35,_,rfl,by decide,by decide,by decide⟩
 |uni=>exact⟨60,_,rfl,by decide,by decide,by decide⟩
 |rcd=>exact⟨123,_,rfl,by decide,by decide,by decide⟩
theorem Jy{S:List Ty}(hS:∀t∈S,Dc t){m:Nat}(hm:20<=m):∀(d:Nat) (k:Kd) (v:Vl) (r:List UInt8),Jo S d k v->Pj r->Ai S m d k (Az v++r)=some (v,r):=by
 intro d
 induction d with
 |zero=>intro k v r h;cases h
 |succ d ih=>
  intro k v r h hr
  unfold Ai
  cases h with
  |@n _ _ n hs hb h=>
   rw[hs];simp only;rw[if_pos hb]
   have e:Az (.mk 110 (Aw n) 0 [])=Aw n:=by simp[Az,Dx,E8]
   rw[e,Zc h hr]
  |@t _ _ s hs hb h=>
   rw[hs];simp only;rw[if_neg (by rw[hb];decide),if_pos hb]
   rw[show Mn (Az (.mk 116 s 0 [])++r)=some (s,r)from Xg.2 ⟨h,by simp[Az,Dx,E8]⟩]
  |@f _ _ b hs hb=>
   rw[hs];simp only;rw[if_neg (by rw[hb];decide),if_neg (by rw[hb];decide),if_pos hb]
   rw[show M6 (Az (.mk 102 (if b then Eb else K0) 0 [])++r)=some (b,r)from S9.2 (by cases b<;>simp[Az,Dx,E8])]
  |@lst _ _ t ks hs hl h=>
   rw[hs];simp only;rw[if_pos Ab]
   unfold Sa
   rw[Fr,List.cons_append,Bm]
   simp only
   cases ks with
   |nil=>rfl
   |cons x ks=>
    obtain⟨c,q,e1,e2,_⟩:=Qfn (h x (by simp))
    have e3:Am 93 (Ak 44 ((x::ks).map Az)++[93]++r)=none:=by
     cases ks with
     |nil=>simp only[List.map_cons,List.map_nil,Ak,e1,List.cons_append,Df e2]
     |cons y ks=>rw[List.map_cons,Ch 44 _ (by simp),e1];simp only[List.cons_append,Df e2]
    rw[e3]
    simp only
    rw[List.append_assoc,List.singleton_append,Rm m (x::ks) r (fun y hy r hr=>ih _ _ _ (h y hy) hr) (by simp) (by omega)]
    simp only
    rw[if_pos hl]
  |@non _ _ t hs=>rw[hs];rfl
  |@som _ _ t x hs h=>
   rw[hs];simp only;rw[if_neg (by decide)]
   have e:Az (.mk 63 [] 0 [x])=43::Az x:=by simp[Az,Dx,E8,Ak]
   unfold Qau
   rw[e,List.cons_append,Df (by decide),Bm]
   simp only
   rw[ih _ _ _ h hr]
  |@enm _ _ t f hs hb ht h9 hf=>
   rw[hs];simp only;rw[if_neg (by rw[hb];decide),if_neg (by rw[hb];decide),if_neg (by rw[hb];decide),ht]
   simp only
   unfold Jl
   have h200:f.tag<=200:=((hS t (Bs ht).1).2.2.1.1 f (Bk hf).2).2.1
   have e:Az (.mk 69 [] f.tag [])=35::Aw f.tag:=by simp[Az,Dx,E8]
   rw[if_pos h9,e,List.cons_append,Bm]
   simp only
   rw[Zb h200 hf hr]
  |@uni _ _ t f x hs hb ht h5 hf h=>
   rw[hs];simp only;rw[if_neg (by rw[hb];decide),if_neg (by rw[hb];decide),if_neg (by rw[hb];decide),ht]
   simp only
   unfold Jl
   have h9:t.sort≠69:=by rw[h5];decide
   rw[if_neg h9,if_pos h5,Xw,List.cons_append,Bm]
   simp only
   rw[List.append_assoc,List.singleton_append,Pm (p:=(f,x)) (Ph hS ht h9 (Bk hf).2).2 hf (ih _ _ (62::r) h (H4 (c:=62) _ (by decide)))]
   simp only[Bm]
  |@rcd _ _ t fs hs hb ht h2 hf h hn hp=>
   rw[hs];simp only;rw[if_neg (by rw[hb];decide),if_neg (by rw[hb];decide),if_neg (by rw[hb];decide),ht]
   simp only
   unfold Jl
   have h9:t.sort≠69:=by rw[h2];decide
   rw[if_neg h9,if_neg (by rw[h2];decide),Pa,List.cons_append,Bm]
   simp only
   cases fs with
   |nil=>rfl
   |cons p fs=>
    have e3:Am 125 (Ak 44 ((p::fs).map fun p=>Az (Dg p))++[125]++r)=none:=by
     have e1:Az (Dg p)=Aw p.1.tag++61::Az p.2:=by simp[Dg,Az,Dx,E8,Ak]
     cases hd:Aw p.1.tag with
     |nil=>exact absurd hd (P8 _)
     |cons c q=>
      have hc:=Nt p.1.tag
      rw[hd,List.all_cons,Bool.and_eq_true,Da]at hc
      have e2:c≠125:=by rintro rfl;revert hc;simp
      rw[hd]at e1
      cases fs with
      |nil=>simp only[List.map_cons,List.map_nil,Ak,e1,List.cons_append,Df e2]
      |cons y fs=>rw[List.map_cons,Ch 44 _ (by simp),e1];simp only[List.cons_append,Df e2]
    rw[e3]
    simp only
    rw[List.append_assoc,List.singleton_append,T8 201 0 (p::fs) r (fun q hq r hr=>ih _ _ _ (h q hq) hr) (by simp)
     (fun q hq=>?_) hp (by omega)]
    have hm:=(Bk (hf q hq)).2
    have h1:=((hS t (Bs ht).1).2.2.1.1 q.1 hm).1
    exact⟨h1,(Ph hS ht h9 hm).2,hf q hq,hn q hq⟩
theorem Qh2{S:List Ty}(hS:∀t∈S,Dc t){d:Nat}{k:Kd}{v u:Vl}(hv:Jo S d k v)(hu:Jo S d k u)(h:Az v=Az u):v=u:=by
 have h1:=Jy hS (Ap 20) d k v [] hv Mh
 have h2:=Jy hS (Ap 20) d k u [] hu Mh
 rw[h,h2]at h1
 injection h1 with h1
 injection h1 with h1
 exact h1.symm
def Jr(S:List Ty)(k:Kd)(s:List UInt8):Option Vl:=
 if 400<s.length then none else match Ai S 20 12 k s with
  |some (v,[])=>some v
  |_=>none
theorem Mm{S:List Ty}(hS:∀t∈S,Dc t){k:Kd}(hk:Co k){s:List UInt8}{v:Vl}:Jr S k s=some v↔Jo S 12 k v/\Az v=s/\s.length<=400:=by
 unfold Jr
 constructor
 ·intro h
  split at h
  ·cases h
  rename_i hl
  cases hr:Ai S 20 12 k s with
  |none=>rw[hr]at h;cases h
  |some q=>
   obtain⟨x,r⟩:=q
   rw[hr]at h
   cases r with
   |cons c t=>cases h
   |nil=>
    simp only[Option.some.injEq]at h
    subst h
    obtain⟨h1,h2⟩:=Ff hS 20 12 k s x [] hk hr
    exact⟨h1,by rw[h2,List.append_nil],by omega⟩
 rintro⟨h1,rfl,hl⟩
 rw[if_neg (by omega)]
 have:=Jy hS (Ap 20) 12 k v [] h1 Mh
 rw[List.append_nil]at this
 rw[this]
theorem Qeb{S:List Ty}(hS:∀t∈S,Dc t){k:Kd}(hk:Co k){s:List UInt8}(hl:s.length<=400)(m n:Nat)(hm:20<=m)(hn:12<=n):
  Jr S k s=match Ai S m n k s with|some (v,[])=>if Kh v<=12 then some v else none|_=>none:=by
 cases hr:Ai S m n k s with
 |none=>
  cases hv:Jr S k s with
  |none=>rfl
  |some v=>
   obtain⟨h1,h2,_⟩:=(Mm hS hk).1 hv
   have h3:Jo S n k v:=(Gy S _ _ _ h1 n).2 (Nat.le_trans ((Gy S _ _ _ h1 12).1 h1) hn)
   have:=Jy hS hm n k v [] h3 Mh
   rw[List.append_nil,h2,hr]at this;cases this
 |some q=>
  obtain⟨x,r⟩:=q
  obtain⟨h1,h2⟩:=Ff hS m n k s x r hk hr
  cases r with
  |nil=>
   simp only
   rw[List.append_nil]at h2
   by_cases hd:Kh x<=12
   ·rw[if_pos hd,Mm hS hk]
    exact⟨(Gy S _ _ _ h1 12).2 hd,h2.symm,hl⟩
   rw[if_neg hd]
   cases hv:Jr S k s with
   |none=>rfl
   |some v=>
    obtain⟨i1,i2,_⟩:=(Mm hS hk).1 hv
    have h3:Jo S n k v:=(Gy S _ _ _ i1 n).2 (Nat.le_trans ((Gy S _ _ _ i1 12).1 i1) hn)
    have e:=Qh2 hS h3 h1 (by rw[i2,h2])
    subst e
    exact absurd ((Gy S _ _ _ i1 12).1 i1) hd
  |cons c t=>
   simp only
   cases hv:Jr S k s with
   |none=>rfl
   |some v=>
    obtain⟨i1,i2,_⟩:=(Mm hS hk).1 hv
    have h3:Jo S n k v:=(Gy S _ _ _ i1 n).2 (Nat.le_trans ((Gy S _ _ _ i1 12).1 i1) hn)
    have:=Jy hS hm n k v [] h3 Mh
    rw[List.append_nil,i2,hr]at this
    injection this with this
    injection this with _ this
    cases this
end Go.Proofs.YtkigmebejmmikaaGreatDoor
namespace Go.Proofs
open Go.Shelf
def Tryz.lays125_ren:Go.Shelf.Ren:=⟨fun|125=>112|128=>148|129=>149|n=>n,fun|46=>159|3=>3|51=>189|53=>191|4=>4|5=>5|9=>9|n=>n,fun|n=>n⟩
theorem Tryz.lays125:Go.Proofs.Lays.n125 Tryz.prog Tryz.lays125_ren:={
 mixed:=by kernel_rfl
 f125:=Tryz.func112.trans (congrArg some (by kernel_rfl))
 f128:=Tryz.func148.trans (congrArg some (by kernel_rfl))
 f129:=Tryz.func149.trans (congrArg some (by kernel_rfl))
 t3:=Tryz.underlying3
 a3:=Tryz.isAgg3
 z3:=Tryz.sizeOf3
 v3:=Tryz.zeroValue3
 t4:=Tryz.underlying4
 a4:=Tryz.isAgg4
 z4:=Tryz.sizeOf4
 v4:=Tryz.zeroValue4
 t5:=Tryz.underlying5
 a5:=Tryz.isAgg5
 z5:=Tryz.sizeOf5
 v5:=Tryz.zeroValue5
 t9:=Tryz.underlying9
 a9:=Tryz.isAgg9
 z9:=Tryz.sizeOf9
 v9:=Tryz.zeroValue9
 t46:=Tryz.underlying159
 a46:=Tryz.isAgg159
 z46:=Tryz.sizeOf159
 v46:=Tryz.zeroValue159
 t51:=Tryz.underlying189
 a51:=Tryz.isAgg189
 z51:=Tryz.sizeOf189
 v51:=Tryz.zeroValue189
 t53:=Tryz.underlying191
 a53:=Tryz.isAgg191
 z53:=Tryz.sizeOf191
 v53:=Tryz.zeroValue191}
def Tryz.laysE41_ren:Go.Shelf.Ren:=⟨fun|41=>73|n=>n,fun|22=>40|23=>42|4=>4|n=>n,fun|n=>n⟩
theorem Tryz.laysE41:Go.Proofs.SlLaysE0.n41 Tryz.prog Tryz.laysE41_ren:={
 mixed:=by kernel_rfl
 f41:=⟨Tryz.f73.name,by decide,Tryz.func73.trans (congrArg some (by kernel_rfl))⟩
 t4:=Tryz.underlying4
 a4:=Tryz.isAgg4
 z4:=Tryz.sizeOf4
 v4:=Tryz.zeroValue4
 t22:=Tryz.underlying40
 a22:=Tryz.isAgg40
 z22:=Tryz.sizeOf40
 v22:=Tryz.zeroValue40}
def Tryz.laysF6_ren:Go.Shelf.Ren:=⟨fun|6=>74|15=>112|14=>111|28=>148|29=>149|20=>140|21=>141|22=>142|23=>143|24=>144|25=>145|26=>146|27=>147|46=>163|47=>164|48=>165|49=>166|50=>167|57=>178|n=>n,fun|22=>40|24=>42|25=>134|3=>3|39=>159|0=>0|53=>189|55=>191|4=>4|46=>183|45=>182|50=>140|5=>5|9=>9|66=>198|70=>202|76=>207|77=>208|n=>n,fun|n=>n⟩
theorem Tryz.laysF6:Go.Proofs.SlLaysF0.n6 Tryz.prog Tryz.laysF6_ren:={
 mixed:=by kernel_rfl
 f6:=⟨Tryz.f74.name,by decide,Tryz.func74.trans (congrArg some (by kernel_rfl))⟩
 f14:=⟨Tryz.f111.name,by decide,Tryz.func111.trans (congrArg some (by kernel_rfl))⟩
 f15:=Tryz.func112.trans (congrArg some (by kernel_rfl))
 f20:=⟨Tryz.f140.name,by decide,Tryz.func140.trans (congrArg some (by kernel_rfl))⟩
 f21:=⟨Tryz.f141.name,by decide,Tryz.func141.trans (congrArg some (by kernel_rfl))⟩
 f22:=⟨Tryz.f142.name,by decide,Tryz.func142.trans (congrArg some (by kernel_rfl))⟩
 f23:=⟨Tryz.f143.name,by decide,Tryz.func143.trans (congrArg some (by kernel_rfl))⟩
 f24:=⟨Tryz.f144.name,by decide,Tryz.func144.trans (congrArg some (by kernel_rfl))⟩
 f25:=⟨Tryz.f145.name,by decide,Tryz.func145.trans (congrArg some (by kernel_rfl))⟩
 f26:=⟨Tryz.f146.name,by decide,Tryz.func146.trans (congrArg some (by kernel_rfl))⟩
 f27:=⟨Tryz.f147.name,by decide,Tryz.func147.trans (congrArg some (by kernel_rfl))⟩
 f28:=Tryz.func148.trans (congrArg some (by kernel_rfl))
 f29:=Tryz.func149.trans (congrArg some (by kernel_rfl))
 f46:=⟨Tryz.f163.name,by decide,Tryz.func163.trans (congrArg some (by kernel_rfl))⟩
 f47:=Tryz.func164.trans (congrArg some (by kernel_rfl))
 f48:=Tryz.func165.trans (congrArg some (by kernel_rfl))
 f49:=⟨Tryz.f166.name,by decide,Tryz.func166.trans (congrArg some (by kernel_rfl))⟩
 f50:=⟨Tryz.f167.name,by decide,Tryz.func167.trans (congrArg some (by kernel_rfl))⟩
 f57:=⟨Tryz.f178.name,by decide,Tryz.func178.trans (congrArg some (by kernel_rfl))⟩
 t0:=Tryz.underlying0
 a0:=Tryz.isAgg0
 z0:=Tryz.sizeOf0
 v0:=Tryz.zeroValue0
 t3:=Tryz.underlying3
 a3:=Tryz.isAgg3
 z3:=Tryz.sizeOf3
 v3:=Tryz.zeroValue3
 t4:=Tryz.underlying4
 a4:=Tryz.isAgg4
 z4:=Tryz.sizeOf4
 v4:=Tryz.zeroValue4
 t5:=Tryz.underlying5
 a5:=Tryz.isAgg5
 z5:=Tryz.sizeOf5
 v5:=Tryz.zeroValue5
 t9:=Tryz.underlying9
 a9:=Tryz.isAgg9
 z9:=Tryz.sizeOf9
 v9:=Tryz.zeroValue9
 t22:=Tryz.underlying40
 a22:=Tryz.isAgg40
 z22:=Tryz.sizeOf40
 v22:=Tryz.zeroValue40
 t25:=Tryz.underlying134
 a25:=Tryz.isAgg134
 z25:=Tryz.sizeOf134
 v25:=Tryz.zeroValue134
 t39:=Tryz.underlying159
 a39:=Tryz.isAgg159
 z39:=Tryz.sizeOf159
 v39:=Tryz.zeroValue159
 t45:=Tryz.underlying182
 a45:=Tryz.isAgg182
 z45:=Tryz.sizeOf182
 v45:=Tryz.zeroValue182
 t46:=Tryz.underlying183
 a46:=Tryz.isAgg183
 z46:=Tryz.sizeOf183
 v46:=Tryz.zeroValue183
 t50:=Tryz.underlying140
 a50:=Tryz.isAgg140
 z50:=Tryz.sizeOf140
 v50:=Tryz.zeroValue140
 t53:=Tryz.underlying189
 a53:=Tryz.isAgg189
 z53:=Tryz.sizeOf189
 v53:=Tryz.zeroValue189
 t55:=Tryz.underlying191
 a55:=Tryz.isAgg191
 z55:=Tryz.sizeOf191
 v55:=Tryz.zeroValue191
 t66:=Tryz.underlying198
 a66:=Tryz.isAgg198
 z66:=Tryz.sizeOf198
 v66:=Tryz.zeroValue198
 t70:=Tryz.underlying202
 a70:=Tryz.isAgg202
 z70:=Tryz.sizeOf202
 v70:=Tryz.zeroValue202
 t76:=Tryz.underlying207
 a76:=Tryz.isAgg207
 z76:=Tryz.sizeOf207
 v76:=Tryz.zeroValue207
 t77:=Tryz.underlying208
 a77:=Tryz.isAgg208
 z77:=Tryz.sizeOf208
 v77:=Tryz.zeroValue208}
end Go.Proofs
namespace Go.Proofs.YtkigmebejmmikaaGreatDoor
open Go.RowKit Go.Proofs.Tryz
abbrev Qb2:=Cl × Cl
def Qhh(S T:List Ty)(m:List Qb2):Prop:=m.Nodup/\∀p∈m,p.1∈Kl S/\p.2∈Kl T
theorem Qhh.nil(S T:List Ty):Qhh S T []:=⟨List.nodup_nil,by simp⟩
theorem Zy:∀(l m:List Qb2),l.Nodup->(∀x∈l,x∈m)->l.length<=m.length
 |[],m,_,_=>by simp
 |x::l,m,hn,hs=>by
  have hx:=hs x (by simp)
  have:=Zy l (m.erase x) (List.nodup_cons.1 hn).2 (fun y hy=>(List.mem_erase_of_ne (by rintro rfl;exact(List.nodup_cons.1 hn).1 hy)).2 (hs y (by simp[hy])))
  rw[List.length_erase_of_mem hx]at this
  have:=List.length_pos_of_mem hx
  simp only[List.length_cons];omega
def Zg(a b:List Cl):List Qb2:=a.flatMap fun x=>b.map fun y=>(x,y)
theorem Xk(b:List Cl):∀a,(Zg a b).length=a.length*b.length
 |[]=>by simp[Zg]
 |x::a=>by
  have:=Xk b a
  unfold Zg at this ⊢
  rw[List.flatMap_cons,List.length_append,List.length_map,this,List.length_cons,Nat.add_mul];omega
theorem Qhh.len{S T:List Ty}{m:List Qb2}(h:Qhh S T m):m.length<=S.length*T.length:=by
 have:=Zy m (Zg (Kl S) (Kl T)) h.1 (fun x hx=>by
  obtain⟨a,b⟩:=x
  have:=h.2 _ hx
  unfold Zg
  rw[List.mem_flatMap]
  exact⟨a,this.1,List.mem_map.2 ⟨b,this.2,rfl⟩⟩)
 rw[Xk]at this
 simpa [Kl]using this
def Qhx(R:Cl->Cl->Prop)(a b:Kd):Prop:=a.signs=b.signs/\a.base=b.base/\(a.base=[64]->R a.name b.name)
def Qft(S T:List Ty)(R:Cl->Cl->Prop)(t:Ty)(st:UInt8)(g:Fd):Prop:=
 match Bg t.fields g.tag with
 |none=>st=82
 |some f=>st=69\/(Qhx R f.kind g.kind/\(st=82->Re S f=Re T g))
def Yj(S T:List Ty)(R:Cl->Cl->Prop)(a b:Cl):Prop:=∃t u,By S a=some t/\By T b=some u/\t.sort=u.sort/\∀g∈u.fields,Qft S T R t u.sort g
abbrev inM(m:List Qb2)(a b:Cl):Prop:=(a,b)∈m
theorem Qhx.mono{R Q:Cl->Cl->Prop}(h:∀a b,R a b->Q a b){a b:Kd}(hk:Qhx R a b):Qhx Q a b:=⟨hk.1,hk.2.1,fun e=>h _ _ (hk.2.2 e)⟩
theorem Qft.mono{S T:List Ty}{R Q:Cl->Cl->Prop}(h:∀a b,R a b->Q a b){t:Ty}{st:UInt8}{g:Fd}(hk:Qft S T R t st g):Qft S T Q t st g:=by
 unfold Qft at hk ⊢
 cases hf:Bg t.fields g.tag with
 |none=>rw[hf]at hk;exact hk
 |some f=>
  rw[hf]at hk
  rcases hk with hk|⟨x,y⟩
  ·exact .inl hk
  exact .inr ⟨x.mono h,y⟩
theorem Yj.mono{S T:List Ty}{R Q:Cl->Cl->Prop}(h:∀a b,R a b->Q a b){a b:Cl}(hk:Yj S T R a b):Yj S T Q a b:=by
 obtain⟨t,u,e1,e2,e3,e4⟩:=hk
 exact⟨t,u,e1,e2,e3,fun g hg=>(e4 g hg).mono h⟩
def Qcm(S T:List Ty)(m m':List Qb2):Prop:=∀a b,(a,b)∈m'->(a,b)∉m->Yj S T (inM m') a b
theorem Qcm.trans{S T:List Ty}{m1 m2 m3:List Qb2}(h1:Qcm S T m1 m2)(h2:Qcm S T m2 m3)(hs:∀p∈m2,p∈m3):Qcm S T m1 m3:=by
 intro a b h3 hn
 by_cases h:(a,b)∈m2
 ·exact(h1 a b h hn).mono fun x y hxy=>hs _ hxy
 exact h2 a b h3 h
def Vg(ρ:Cl->Cl)(k:Kd):Kd:=if k.base=[64]then {k with name:=ρ k.name} else k
def Sc(ρ:Cl->Cl)(st:UInt8)(f:Fd):Fd:=if st=69 then f else {f with kind:=Vg ρ f.kind}
def Xu(ρ:Cl->Cl)(t:Ty):Ty:={t with name:=ρ t.name,fields:=t.fields.map (Sc ρ t.sort)}
theorem Tl(ρ:Cl->Cl)(k:Kd):(Vg ρ k).signs=k.signs:=by unfold Vg;split<;>rfl
theorem N3(ρ:Cl->Cl)(k:Kd):(Vg ρ k).base=k.base:=by unfold Vg;split<;>rfl
theorem Mg{ρ:Cl->Cl}{k:Kd}(h:k.base=[64]):(Vg ρ k).name=ρ k.name:=by unfold Vg;rw[if_pos h]
theorem Qfu(ρ:Cl->Cl)(st:UInt8)(f:Fd):(Sc ρ st f).tag=f.tag:=by unfold Sc;split<;>rfl
theorem Qca(ρ:Cl->Cl)(st:UInt8)(f:Fd):(Sc ρ st f).given=f.given:=by unfold Sc;split<;>rfl
theorem N8{ρ:Cl->Cl}{st:UInt8}(h:st≠69)(f:Fd):(Sc ρ st f).kind=Vg ρ f.kind:=by unfold Sc;rw[if_neg h]
def inN(ns:List Cl)(k:Kd):Prop:=k.base=[64]->k.name∈ns
structure Ren(S T:List Ty)(ns:List Cl)(ρ:Cl->Cl):Prop where
 get:∀n∈ns,∃t,By S n=some t/\By T (ρ n)=some (Xu ρ t)/\Dc t/\(t.sort≠69->∀f∈t.fields,inN ns f.kind)
 inj:∀a∈ns,∀b∈ns,ρ a=ρ b->a=b
theorem Ren.met{S T:List Ty}{ns:List Cl}{ρ:Cl->Cl}(h:Ren S T ns ρ):∀(n:Nat) (k:Kd) (out:List Cl),inN ns k->(∀x∈out,x∈ns) ->
  Ra T n (Vg ρ k) (out.map ρ)=(Ra S n k out).map ρ/\∀x∈Ra S n k out,x∈ns
 |0,k,out,_,ho=>⟨rfl,ho⟩
 |n+1,k,out,hk,ho=>by
  by_cases hb:k.base=[64]
  ·have hkn:=hk hb
   have hmem:ρ k.name∈out.map ρ↔k.name∈out:=by
    rw[List.mem_map]
    exact⟨fun⟨y,hy,e⟩=>by rw[<-h.inj y (ho y hy) k.name hkn e];exact hy,fun hy=>⟨_,hy,rfl⟩⟩
   by_cases hin:k.name∈out
   ·rw[Ra,Ra,if_neg (by rw[Mg hb];exact fun hh=>hh.2 (hmem.2 hin)),if_neg (fun hh=>hh.2 hin)]
    exact⟨rfl,ho⟩
   obtain⟨t,e1,e2,e3,e4⟩:=h.get _ hkn
   have ho2:∀x∈out++[k.name],x∈ns:=fun x hx=>by
    rcases List.mem_append.1 hx with hx|hx
    ·exact ho x hx
    simp at hx;subst hx;exact hkn
   rw[Ra,Ra,if_pos ⟨by rw[N3];exact hb,by rw[Mg hb];exact fun hh=>hin (hmem.1 hh)⟩,if_pos ⟨hb,hin⟩,Mg hb,e1,e2]
   simp only
   rw[show (Xu ρ t).sort=t.sort from rfl,show (Xu ρ t).fields=t.fields.map (Sc ρ t.sort)from rfl]
   have em:out.map ρ++[ρ k.name]=(out++[k.name]).map ρ:=by simp
   by_cases h69:t.sort=69
   ·rw[if_pos h69,if_pos h69];exact⟨em,ho2⟩
   rw[if_neg h69,if_neg h69,em]
   have key:∀(fs:List Fd),(∀f∈fs,inN ns f.kind)->∀(o:List Cl),(∀x∈o,x∈ns) ->
     (fs.map (Sc ρ t.sort)).foldl (fun o f=>Ra T n f.kind o) (o.map ρ)=(fs.foldl (fun o f=>Ra S n f.kind o) o).map ρ/\∀x∈fs.foldl (fun o f=>Ra S n f.kind o) o,x∈ns:=by
    intro fs
    induction fs with
    |nil=>intro _ o ho;exact⟨rfl,ho⟩
    |cons f fs ih=>
     intro hfs o ho
     obtain⟨m1,m2⟩:=h.met n f.kind o (hfs f (by simp)) ho
     simp only[List.map_cons,List.foldl_cons]
     rw[N8 h69,m1]
     exact ih (fun g hg=>hfs g (by simp[hg])) _ m2
   exact key t.fields (e4 h69) _ ho2
  rw[Ra,Ra,if_neg (fun hh=>hb (by rw[N3]at hh;exact hh.1)),if_neg (fun hh=>hb hh.1)]
  exact⟨rfl,ho⟩
theorem Ren.stand{S T:List Ty}{ns:List Cl}{ρ:Cl->Cl}(h:Ren S T ns ρ):∀(n:Nat) (k:Kd),inN ns k->Yz k->Cx T n (Vg ρ k)=Cx S n k
 |0,_,_,_=>rfl
 |n+1,k,hk,hb=>by
  rw[Cx,Cx,Tl,N3]
  split
  ·rfl
  split
  ·rfl
  split
  ·rfl
  rename_i h1
  split
  ·rfl
  rename_i h2
  split
  ·rfl
  rename_i h3
  have hb64:k.base=[64]:=by
   rcases hb with⟨hb,_⟩|⟨hb|hb|hb,_⟩
   ·exact hb
   ·exact absurd hb h1
   ·exact absurd hb h2
   exact absurd hb h3
  obtain⟨t,e1,e2,e3,e4⟩:=h.get _ (hk hb64)
  rw[Mg hb64,e1,e2]
  simp only
  rw[show (Xu ρ t).sort=t.sort from rfl,show (Xu ρ t).fields=t.fields.map (Sc ρ t.sort)from rfl]
  split
  ·rfl
  cases hf:t.fields with
  |nil=>rfl
  |cons f fs=>
   simp only[List.map_cons]
   rw[Qfu]
   split
   ·rfl
   rename_i h69
   rw[N8 h69,h.stand n f.kind (e4 h69 f (by rw[hf];simp)) ((e3.2.2.1.1 f (by rw[hf];simp)).2.2.2.2 h69).1.2.1]
theorem Ren.of{S T:List Ty}{ns:List Cl}{ρ:Cl->Cl}(h:Ren S T ns ρ){st:UInt8}{f:Fd}(h69:st≠69)(hf:Se st f)(hk:inN ns f.kind):Re T (Sc ρ st f)=Re S f:=by
 unfold Re
 rw[Qca,N8 h69]
 unfold Qy
 rw[h.stand 10 f.kind hk (hf.2.2.2.2 h69).1.2.1]
theorem Ren.ends{S T:List Ty}{ns:List Cl}{ρ:Cl->Cl}(h:Ren S T ns ρ):∀(n:Nat) (t:Ty),(t.sort≠69->∀f∈t.fields,inN ns f.kind)->Bt T n (Xu ρ t)=Bt S n t
 |0,_,_=>rfl
 |n+1,t,ht=>by
  unfold Bt
  by_cases h85:t.sort=85
  ·have h69:t.sort≠69:=by rw[h85];decide
   unfold E0
   rw[show (Xu ρ t).sort=t.sort from rfl,show (Xu ρ t).fields=t.fields.map (Sc ρ t.sort)from rfl,if_pos h85,if_pos h85]
   cases hf:t.fields with
   |nil=>rfl
   |cons f fs=>
    simp only[List.map_cons]
    rw[N8 h69,Tl,N3]
    by_cases hc:f.kind.signs=[]/\f.kind.base=[64]
    ·rw[if_pos hc,if_pos hc,Mg hc.2]
     obtain⟨u,e1,e2,e3,e4⟩:=h.get _ (ht h69 f (by rw[hf];simp) hc.2)
     rw[e1,e2]
     exact h.ends n u e4
    rw[if_neg hc,if_neg hc]
  have e1:E0 T (Xu ρ t)=none:=if_neg h85
  have e2:E0 S t=none:=if_neg h85
  rw[e1,e2]
def M2(v:Vl):Vl:=v.kids.headD v
def LOk(v:Vl)(r:Vl × Bool):Prop:=(r.2=false->r.1=v)/\(r.2=true->(Az r.1).length<(Az v).length)
theorem LOk.le{v:Vl}{r:Vl × Bool}(h:LOk v r):(Az r.1).length<=(Az v).length:=by
 cases e:r.2 with
 |false=>rw[h.1 e];exact Ap _
 |true=>exact Nat.le_of_lt (h.2 e)
theorem LOk.same(v:Vl):LOk v (v,false):=⟨fun _=>rfl,fun h=>Bool.noConfusion h⟩
def Cu(ps:List (List UInt8)):Nat:=(ps.map fun p=>p.length+1).sum
theorem Cv(p:List UInt8)(ps:List (List UInt8)):Cu (p::ps)=p.length+1+Cu ps:=by simp[Cu]
theorem Bb(c:UInt8):∀ps:List (List UInt8),(Ak c ps).length=Cu ps - 1
 |[]=>rfl
 |[p]=>by simp[Ak,Cu]
 |p::q::ps=>by
  rw[Ch c p (by simp),List.length_append,List.length_cons,Bb c (q::ps),Cv p,Cv q]
  omega
theorem D5(w:UInt8)(tx:List UInt8)(tg:Nat)(ks:List Vl):Az (.mk w tx tg ks)=E8 w tx tg (ks.map Az):=by rw[Az,Qb]
theorem Pb(p:Fd × Vl):(Az (Dg p)).length=(Aw p.1.tag).length+1+(Az p.2).length:=by simp[Dg,Az,Dx,E8,Ak];omega
theorem Pp{fs:List Fd}{n:Nat}{f:Fd}(h:Bg fs n=some f):f∈fs/\f.tag=n:=⟨(Bk h).2,(Bk h).1⟩
end Go.Proofs.YtkigmebejmmikaaGreatDoor
