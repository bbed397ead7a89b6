/- Texts joined. Conditions: as each theorem names them. -/
import Derived.Test.YtkigmebejmmikaaGreatDoorQ02
import Derived.Test.YtkigmebejmmikaaGreatDoorQ05
set_option maxRecDepth 100000
set_option maxHeartbeats 32000000
set_option linter.unusedVariables false
set_option linter.unusedSimpArgs false
namespace Go.Proofs.YtkigmebejmmikaaGreatDoor
open Go.RowKit Go.Proofs.Tryz
inductive SV where
 |mk (kind text:List UInt8) (tags:List Nat) (kids:List SV)
def Fl(S:List Ty)(k:Kd)(g:Nat):Kd:=match By S k.name with
 |some t=>(match Bg t.fields g with|some f=>f.kind|none=>Kd.nil)
 |none=>Kd.nil
mutual
def Cq(S:List Ty):Kd->Vl->SV
 |k,.mk w tx tg ks=>
  if w=91\/w=63 then .mk (Bq k) [] [] (Ri S k.part ks)
  else if w=69 then .mk (Bq k) [69] [tg] []
  else if w=85 then .mk (Bq k) [85] [tg] (Ri S (Fl S k tg) ks)
  else if w=82 then .mk (Bq k) [82] (ks.map Vl.tag) (Qcv S k ks)
  else .mk (Bq k) (if w=116 then 39::(tx++[39])else tx) [] []
def Ri(S:List Ty):Kd->List Vl->List SV
 |_,[]=>[]
 |k,x::xs=>Cq S k x::Ri S k xs
def Qcv(S:List Ty):Kd->List Vl->List SV
 |_,[]=>[]
 |k,.mk _ _ tg ks::xs=>Ri S (Fl S k tg) ks++Qcv S k xs
end
theorem N7(S:List Ty)(k:Kd):∀ks:List Vl,Ri S k ks=ks.map (Cq S k)
 |[]=>rfl
 |x::xs=>by rw[Ri,N7 S k xs];rfl
theorem Vt(S:List Ty)(k:Kd):∀ps:List (Fd × Vl),Qcv S k (ps.map Dg)=ps.map fun p=>Cq S (Fl S k p.1.tag) p.2
 |[]=>rfl
 |p::ps=>by rw[List.map_cons,Dg,Qcv,Vt S k ps,Ri,Ri];rfl
theorem Qbb(S:List Ty)(k:Kd)(m:Nat):Cq S k (.mk 110 (Aw m) 0 [])=.mk (Bq k) (Aw m) [] []:=by simp[Cq]
theorem Xy(S:List Ty)(k:Kd)(s:List UInt8):Cq S k (.mk 116 s 0 [])=.mk (Bq k) (39::(s++[39])) [] []:=by simp[Cq]
theorem Xx(S:List Ty)(k:Kd)(s:List UInt8):Cq S k (.mk 102 s 0 [])=.mk (Bq k) s [] []:=by simp[Cq]
theorem Sv(S:List Ty)(k:Kd)(ks:List Vl):Cq S k (.mk 91 [] 0 ks)=.mk (Bq k) [] [] (ks.map (Cq S k.part)):=by simp[Cq,N7]
theorem Nj(S:List Ty)(k:Kd)(ks:List Vl):Cq S k (.mk 63 [] 0 ks)=.mk (Bq k) [] [] (ks.map (Cq S k.part)):=by simp[Cq,N7]
theorem S5(S:List Ty)(k:Kd)(g:Nat):Cq S k (.mk 69 [] g [])=.mk (Bq k) [69] [g] []:=by simp[Cq]
theorem Tn(S:List Ty)(k:Kd)(g:Nat)(x:Vl):Cq S k (.mk 85 [] g [x])=.mk (Bq k) [85] [g] [Cq S (Fl S k g) x]:=by simp[Cq,N7]
theorem Tz(S:List Ty)(k:Kd)(ps:List (Fd × Vl)):Cq S k (.mk 82 [] 0 (ps.map Dg))=.mk (Bq k) [82] (ps.map fun p=>p.1.tag) (ps.map fun p=>Cq S (Fl S k p.1.tag) p.2):=by
 simp[Cq,Vt];exact fun _ _ _=>rfl
theorem Dn{S:List Ty}{k:Kd}{t:Ty}{f:Fd}(ht:By S k.name=some t)(hf:Bg t.fields f.tag=some f):Fl S k f.tag=f.kind:=by unfold Fl;rw[ht];simp only;rw[hf]
def En(l:List Nat):List Value:=l.map fun(n:Nat)=>.int .i64 (n:Int)
def Ep(l:List Nat):List Value:=l.map fun b=>.pointer (some ⟨b,0,none⟩)
inductive Ga(P:Nat->Prop)(w:World):Nat->SV->Prop
 |mk {b:Nat} {v:SV} (kind text:List UInt8) (tags:List Nat) (A1 A2:Option Addr) (c1 c2:Nat) (xs:List (Nat × SV)) (hv:v=.mk kind text tags (xs.map (·.2))) (hb:b<w.heap.size) (hP:P b)
   (h0:w.cell? ⟨b,0,none⟩=some (.string ⟨kind.toArray⟩)) (h1:w.cell? ⟨b,1,none⟩=some (.string ⟨text.toArray⟩)) (h2:w.cell? ⟨b,2,none⟩=some (.slice A1 tags.length c1)) (h3:w.cell? ⟨b,3,none⟩=some (.slice A2 xs.length c2))
   (hr1:Bh w A1 tags.length (En tags)) (hr2:Bh w A2 xs.length (Ep (xs.map (·.1)))) (hl1:tags.length<=1000) (hl2:xs.length<=1000) (hp1:∀g o,0<tags.length->A1=some ⟨g,o,none⟩->P g) (hp2:∀g o,0<xs.length->A2=some ⟨g,o,none⟩->P g)
   (h:∀x∈xs,Ga P w x.1 x.2):Ga P w b v
theorem Bh.keptP{P:Nat->Prop}{w w':World}{A:Option Addr}{n:Nat}{xs:List Value}(h:Bh w A n xs)(hP:∀g o,0<n->A=some ⟨g,o,none⟩->P g)(hc:∀b o u,P b->b<w.heap.size->w.cell? ⟨b,o,none⟩=some u->w'.cell? ⟨b,o,none⟩=some u)(hz:w.heap.size<=w'.heap.size):Bh w' A n xs:=by
 refine⟨h.1,h.2.1,fun hn=>?_⟩
 obtain⟨b,off,e,hlt,hcs⟩:=h.2.2 hn
 exact⟨b,off,e,Nat.lt_of_lt_of_le hlt hz,fun j u hu=>hc b _ u (hP b off hn e) hlt (hcs j u hu)⟩
theorem Ga.kept{P Q:Nat->Prop}{w w':World}{b:Nat}{v:SV}(h:Ga P w b v)(hc:∀b o u,P b->b<w.heap.size->w.cell? ⟨b,o,none⟩=some u->w'.cell? ⟨b,o,none⟩=some u)
  (hz:w.heap.size<=w'.heap.size) (hQ:∀b,P b->b<w.heap.size->Q b):Ga Q w' b v:=by
 induction h with
 |mk kind text tags A1 A2 c1 c2 xs hv hb hP h0 h1 h2 h3 hr1 hr2 hl1 hl2 hp1 hp2 h ih=>
  refine .mk kind text tags A1 A2 c1 c2 xs hv (Nat.lt_of_lt_of_le hb hz) (hQ _ hP hb) (hc _ _ _ hP hb h0) (hc _ _ _ hP hb h1) (hc _ _ _ hP hb h2) (hc _ _ _ hP hb h3) (hr1.keptP hp1 hc hz) (hr2.keptP hp2 hc hz) hl1 hl2 (fun g o hn e=>?_) (fun g o hn e=>?_) ih
  ·obtain⟨b',off,e2,hlt,_⟩:=hr1.2.2 hn
   rw[e]at e2;injection e2 with e2;injection e2 with e2 _ _;subst e2
   exact hQ g (hp1 g o hn e) hlt
  obtain⟨b',off,e2,hlt,_⟩:=hr2.2.2 hn
  rw[e]at e2;injection e2 with e2;injection e2 with e2 _ _;subst e2
  exact hQ g (hp2 g o hn e) hlt
theorem Ga.after{P:Nat->Prop}{w w':World}{b:Nat}{v:SV}(h:Ga P w b v)(hb:Below w.heap.size w w'):Ga P w' b v:=
 h.kept (fun b o u _ hl hu=>(hb.cell (p:=⟨b,o,none⟩) hl).trans hu) hb.size fun _ h _=>h
theorem Ga.mono{P Q:Nat->Prop}{w:World}{b:Nat}{v:SV}(h:Ga P w b v)(hQ:∀b,P b->b<w.heap.size->Q b):Ga Q w b v:=h.kept (fun _ _ _ _ _ hu=>hu) (Ap _) hQ
theorem Ga.grown{P:Nat->Prop}{w w':World}{b:Nat}{v:SV}{row:Option Nat}(h:Ga P w b v)(hg:w.grownBy w' row)(hne:∀b,P b->some b≠row):Ga P w' b v:=
 h.kept (fun b o u hp _ hu=>hg.cell hu (hne b hp)) hg.size fun _ h _=>h
end Go.Proofs.YtkigmebejmmikaaGreatDoor
