/- Texts joined. Conditions: as each theorem names them. -/
import Derived.Test.YtmmhmlmfhpfgbaaGreatDoorB30
set_option maxRecDepth 100000
set_option maxHeartbeats 32000000
set_option linter.unusedVariables false
set_option linter.unusedSimpArgs false
namespace Go.Proofs.YtmmhmlmfhpfgbaaGreatDoor
open Go.RowKit Go.Proofs.Tryz
theorem Qbn{fs:List Fd}(r:List UInt8):∀(m last:Nat) (ps:List (Fd × Vl)),(∀p∈ps,last<p.1.tag/\p.1.tag<=999999/\Ap fs p.1.tag=some p.1/\(Dg p.2).length<=999999)->(ps.Pairwise fun p q=>p.1.tag<q.1.tag) ->
  Qaj fs m last ((ps.map fun p=>D1 p.1.tag++Qr (Dg p.2)).flatten++(0::r))=0
 |0,_,_,_,_=>rfl
 |m+1,last,[],_,_=>by
  have e:Ag (0::r)=some (0,r):=by simp[Ag]
  simp[Qaj,e]
 |m+1,last,p::ps,h,hp=>by
  obtain⟨h1,h2,h3,h4⟩:=h p (by simp)
  rw[List.pairwise_cons]at hp
  have ih:=Qbn r m p.1.tag ps (fun q hq=>by
   obtain⟨_,g⟩:=h q (by simp[hq])
   exact⟨hp.1 q hq,g⟩) hp.2
  rw[List.map_cons,List.flatten_cons,List.append_assoc,List.append_assoc]
  unfold Qaj
  rw[Fz h2]
  simp only
  rw[if_neg (by omega),Ph h4]
  simp only
  rw[if_neg (by omega),h3,ih]
  rfl
theorem Qki{S:List Ty}(hS:∀t∈S,Ek t){d:Nat}{k:Kd}{v:Vl}(h:Ge S d k v)(hl:(Dg v).length<=999999):skN S k (Dg v)=0:=by
 cases h with
 |n hs hb h=>exact Nj (by rw[hb];decide)
 |t hs hb h=>exact Nj (by rw[hb];decide)
 |f hs hb=>exact Nj (by rw[hb];decide)
 |lst hs hl2 h=>exact Tm hs
 |non hs=>exact Tm hs
 |som hs h=>exact Tm hs
 |enm hs hb ht h9 hf=>rw[Yk hs hb ht,if_neg (by rw[h9];decide)]
 |uni hs hb ht h5 hf h=>rw[Yk hs hb ht,if_neg (by rw[h5];decide)]
 |rcd hs hb ht h2 hf h hn hp=>
  rw[Yk hs hb ht,if_pos h2,Q6]
  have hkf:=fun p hp=>Na hS ht (by rw[h2];decide) (Ay (hf p hp)).2
  have htg:=fun p hp=>((hS _ (Bj ht).1).2.2.1.1 p.1 (Ay (hf p hp)).2)
  rw[Q6,List.length_append]at hl
  exact Qbn [] 1000 0 _ (fun p hq=>⟨(htg p hq).1,by have:=(htg p hq).2.1;omega,hf p hq,by have:=Qcg hq;omega⟩) hp
theorem Qdj{S:List Ty}{k:Kd}{s:List UInt8}{v:Vl}:rfB S k s=some v↔s.length<=600/\E9 S 12 k s=some (v,[])/\(Aw v).length<=400:=by
 unfold rfB
 constructor
 ·intro h
  split at h
  ·cases h
  rw[Option.bind_eq_some_iff]at h
  obtain⟨u,h1,h2⟩:=h
  split at h2
  ·injection h2 with h2
   subst h2
   exact⟨by omega,D3 h1,by assumption⟩
  cases h2
 rintro⟨h1,h2,h3⟩
 rw[if_neg (by omega)]
 unfold Cg
 rw[h2]
 simp[h3]
theorem Ql1{S:List Ty}{k:Kd}{s:List UInt8}{v:Vl}:Re S k s=some v↔s.length<=600/\E9 S 13 k s=some (v,[])/\(Aw v).length<=400/\J4 v<=12:=by
 unfold Re
 constructor
 ·intro h
  split at h
  ·cases h
  cases hw:Cg (E9 S 13 k) s with
  |none=>rw[hw]at h;cases h
  |some u=>
   rw[hw]at h
   simp only at h
   split at h
   ·rename_i h1 h2
    injection h with h
    subst h
    exact⟨by omega,D3 hw,h2.1,h2.2⟩
   cases h
 rintro⟨h1,h2,h3⟩
 rw[if_neg (by omega)]
 unfold Cg
 rw[h2]
 simp[h3]
theorem Qjz{S:List Ty}(hS:∀t∈S,Ek t){k:Kd}{v:Vl}(h:Ge S 12 k v)(h4:(Aw v).length<=400)(h6:(Dg v).length<=600):Re S k (Dg v)=some v:=by
 have hd:J4 v<=12:=(E7 _ _ _ _ h 12).1 h
 have:=Qfh hS 13 k v ((E7 _ _ _ _ h 13).2 (by omega)) (by omega) []
 rw[List.append_nil]at this
 exact Ql1.2 ⟨h6,this,h4,hd⟩
theorem Qnt{S:List Ty}(hS:∀t∈S,Ek t){k:Kd}{v:Vl}(h:Ge S 12 k v)(h4:(Aw v).length<=400)(h6:(Dg v).length<=600):rfB S k (Dg v)=some v:=by
 have:=Qfh hS 12 k v h (by omega) []
 rw[List.append_nil]at this
 exact Qdj.2 ⟨h6,this,h4⟩
def Qff(o:Option (List Ty × Kd))(s:List UInt8):Bool:=match rfL o s with
 |none=>false
 |some v=>Dg v == s
theorem Qa9{a d s:List UInt8}(h:Qax (Bq a d) s=true):∃S k v,Bq a d=some (S,k)/\Ge S 12 k v/\(Aw v).length<=400/\s.length<=600/\Dg v=s:=by
 cases hb:Bq a d with
 |none=>rw[hb]at h;cases h
 |some y=>
  obtain⟨S,k⟩:=y
  obtain⟨g1,_,_,g4,_⟩:=Ec hb
  rw[hb]at h
  unfold Qax at h
  have e:bgL (some (S,k)) s=Re S k s:=rfl
  rw[e]at h
  cases hf:Re S k s with
  |none=>rw[hf]at h;cases h
  |some v=>
   rw[hf]at h
   obtain⟨h1,h2,h3,_⟩:=Vf g1.1.1 g4 hf
   have hv:Tf (some (S,k)) (Aw v)=some v:=(Jg g1.1.1 g4).2 ⟨h1,rfl,h2⟩
   simp only[Pw hv]at h
   split at h
   ·cases h
   rename_i b hb2
   split at hb2
   ·cases hb2
   injection hb2 with hb2
   subst hb2
   exact⟨S,k,v,rfl,h1,h2,h3,by simpa using h⟩
theorem Qc2{a d:List UInt8}{S:List Ty}{k:Kd}{v:Vl}(hb:Bq a d=some (S,k))(h1:Ge S 12 k v)(h2:(Aw v).length<=400)(h3:(Dg v).length<=600):Qax (Bq a d) (Dg v)=true/\Qff (Bq a d) (Dg v)=true/\bgL (Bq a d) (Dg v)=some v/\bpL (Bq a d) (Aw v)=some (Dg v):=by
 obtain⟨g1,_,_,g4,_⟩:=Ec hb
 rw[hb]
 have e1:bgL (some (S,k)) (Dg v)=some v:=Qjz g1.1.1 h1 h2 h3
 have e2:rfL (some (S,k)) (Dg v)=some v:=Qnt g1.1.1 h1 h2 h3
 have hv:Tf (some (S,k)) (Aw v)=some v:=(Jg g1.1.1 g4).2 ⟨h1,rfl,h2⟩
 have e3:bpL (some (S,k)) (Aw v)=some (Dg v):=by rw[Pw hv,if_neg (by omega)]
 refine⟨?_,?_,e1,e3⟩
 ·unfold Qax;rw[e1];simp only;rw[e3];simp
 unfold Qff;rw[e2];simp
theorem Qi5{a d s:List UInt8}(h:Qff (Bq a d) s=true):∃S k v,Bq a d=some (S,k)/\Ge S 12 k v/\(Aw v).length<=400/\s.length<=600/\Dg v=s:=by
 cases hb:Bq a d with
 |none=>rw[hb]at h;cases h
 |some y=>
  obtain⟨S,k⟩:=y
  obtain⟨g1,_,_,g4,_⟩:=Ec hb
  rw[hb]at h
  unfold Qff at h
  have e:rfL (some (S,k)) s=rfB S k s:=rfl
  rw[e]at h
  cases hf:rfB S k s with
  |none=>rw[hf]at h;cases h
  |some v=>
   rw[hf]at h
   obtain⟨h1,h2,h3⟩:=Qdj.1 hf
   exact⟨S,k,v,rfl,Mc g1.1.1 12 k s v [] g4 h2,h3,h1,by simpa using h⟩
theorem Qpd(a d s:List UInt8):Qax (Bq a d) s=Qff (Bq a d) s:=by
 rw[Bool.eq_iff_iff]
 constructor
 ·intro h
  obtain⟨S,k,v,hb,h1,h2,h3,rfl⟩:=Qa9 h
  exact(Qc2 hb h1 h2 h3).2.1
 intro h
 obtain⟨S,k,v,hb,h1,h2,h3,rfl⟩:=Qi5 h
 exact(Qc2 hb h1 h2 h3).1
theorem Qnc{a d s:List UInt8}(h:Qax (Bq a d) s=true):∃v,bgL (Bq a d) s=some v/\bpL (Bq a d) (Aw v)=some s/\(Aw v).length<=400/\∀S k u,Bq a d=some (S,k)->Re S k s=some u->skN S k s=0:=by
 obtain⟨S,k,v,hb,h1,h2,h3,rfl⟩:=Qa9 h
 obtain⟨_,_,e1,e2⟩:=Qc2 hb h1 h2 h3
 refine⟨v,e1,e2,h2,fun S' k' u hb' _=>?_⟩
 rw[hb]at hb'
 injection hb' with hb'
 injection hb' with e3 e4
 subst e3 e4
 exact Qki (Ec hb).1.1.1 h1 (by omega)
def Qc0(w:World)(e:Ending)(w':World):Prop:=∃a b s:List UInt8,e=.returned (.tuple #[.string ⟨a.toArray⟩,.string ⟨b.toArray⟩,.string ⟨s.toArray⟩])/\a.length<=100000/\b.length<=100000/\s.length<=100000/\Below w.heap.size w w'
end Go.Proofs.YtmmhmlmfhpfgbaaGreatDoor
