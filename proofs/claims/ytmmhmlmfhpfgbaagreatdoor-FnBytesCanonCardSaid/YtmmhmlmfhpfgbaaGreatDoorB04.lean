/- Texts joined. Conditions: as each theorem names them. -/
import Derived.Test.YtmmhmlmfhpfgbaaGreatDoorB03
import Derived.Test.YtmmhmlmfhpfgbaaGreatDoorB05
set_option maxRecDepth 100000
set_option maxHeartbeats 32000000
set_option linter.unusedVariables false
set_option linter.unusedSimpArgs false
namespace Go.Proofs.YtmmhmlmfhpfgbaaGreatDoor
open Go.RowKit Go.Proofs.Tryz
inductive SV where
 |mk (kind text:List UInt8) (tags:List Nat) (kids:List SV)
def V0(S:List Ty)(k:Kd)(g:Nat):Kd:=match B9 S k.name with
 |some t=>(match Ap t.fields g with|some f=>f.kind|none=>Kd.nil)
 |none=>Kd.nil
mutual
def Bt(S:List Ty):Kd->Vl->SV
 |k,.mk w tx tg ks=>
  if w=91\/w=63 then .mk (Be k) [] [] (Xm S k.part ks)
  else if w=69 then .mk (Be k) [69] [tg] []
  else if w=85 then .mk (Be k) [85] [tg] (Xm S (V0 S k tg) ks)
  else if w=82 then .mk (Be k) [82] (ks.map Vl.tag) (Qhh S k ks)
  else .mk (Be k) (if w=116 then 39::(tx++[39])else tx) [] []
def Xm(S:List Ty):Kd->List Vl->List SV
 |_,[]=>[]
 |k,x::xs=>Bt S k x::Xm S k xs
def Qhh(S:List Ty):Kd->List Vl->List SV
 |_,[]=>[]
 |k,.mk _ _ tg ks::xs=>Xm S (V0 S k tg) ks++Qhh S k xs
end
theorem Qq(S:List Ty)(k:Kd):∀ks:List Vl,Xm S k ks=ks.map (Bt S k)
 |[]=>rfl
 |x::xs=>by rw[Xm,Qq S k xs];rfl
theorem Qbo(S:List Ty)(k:Kd):∀ps:List (Fd × Vl),Qhh S k (ps.map Ea)=ps.map fun p=>Bt S (V0 S k p.1.tag) p.2
 |[]=>rfl
 |p::ps=>by rw[az,Ea,Qhh,Qbo S k ps,Xm,Xm];rfl
theorem Z8(S:List Ty)(k:Kd)(m:Nat):Bt S k (.mk 110 (Az m) 0 [])=.mk (Be k) (Az m) [] []:=by simp[Bt]
theorem Vk(S:List Ty)(k:Kd)(s:List UInt8):Bt S k (.mk 116 s 0 [])=.mk (Be k) (39::(s++[39])) [] []:=by simp[Bt]
theorem Vu(S:List Ty)(k:Kd)(s:List UInt8):Bt S k (.mk 102 s 0 [])=.mk (Be k) s [] []:=by simp[Bt]
theorem P9(S:List Ty)(k:Kd)(ks:List Vl):Bt S k (.mk 91 [] 0 ks)=.mk (Be k) [] [] (ks.map (Bt S k.part)):=by simp[Bt,Qq]
theorem Mg(S:List Ty)(k:Kd)(ks:List Vl):Bt S k (.mk 63 [] 0 ks)=.mk (Be k) [] [] (ks.map (Bt S k.part)):=by simp[Bt,Qq]
theorem Qa(S:List Ty)(k:Kd)(g:Nat):Bt S k (.mk 69 [] g [])=.mk (Be k) [69] [g] []:=by simp[Bt]
theorem Nr(S:List Ty)(k:Kd)(g:Nat)(x:Vl):Bt S k (.mk 85 [] g [x])=.mk (Be k) [85] [g] [Bt S (V0 S k g) x]:=by simp[Bt,Qq]
theorem P2(S:List Ty)(k:Kd)(ps:List (Fd × Vl)):Bt S k (.mk 82 [] 0 (ps.map Ea))=.mk (Be k) [82] (ps.map fun p=>p.1.tag) (ps.map fun p=>Bt S (V0 S k p.1.tag) p.2):=by
 simp[Bt,Qbo];exact fun _ _ _=>rfl
theorem E5{S:List Ty}{k:Kd}{t:Ty}{f:Fd}(ht:B9 S k.name=some t)(hf:Ap t.fields f.tag=some f):V0 S k f.tag=f.kind:=by unfold V0;rw[ht];simp only;rw[hf]
def Dm(l:List Nat):List Value:=l.map fun(n:Nat)=>.int .i64 (n:Int)
def Dr(l:List Nat):List Value:=l.map fun b=>.pointer (b,0)
inductive En(P:Nat->Prop)(w:World):Nat->SV->Prop
 |mk {b:Nat} {v:SV} (kind text:List UInt8) (tags:List Nat) (A1 A2:Option Addr) (c1 c2:Nat) (xs:List (Nat × SV)) (hv:v=.mk kind text tags (xs.map (·.2))) (hb:b<w.heap.size) (hP:P b)
   (h0:w.cell? (b,0)=kind) (h1:w.cell? (b,1)=text) (h2:w.cell? (b,2)=some (.slice A1 tags.length c1)) (h3:w.cell? (b,3)=some (.slice A2 xs.length c2))
   (hr1:Ca w A1 tags.length (Dm tags)) (hr2:Ca w A2 xs.length (Dr (xs.map (·.1)))) (hl1:tags.length<=1000) (hl2:xs.length<=1000) (hp1:∀g o,0<tags.length->A1=some ⟨g,o,none⟩->P g) (hp2:∀g o,0<xs.length->A2=some ⟨g,o,none⟩->P g)
   (h:∀x∈xs,En P w x.1 x.2):En P w b v
theorem Ca.keptP{P:Nat->Prop}{w w':World}{A:Option Addr}{n:Nat}{xs:List Value}(h:Ca w A n xs)(hP:∀g o,0<n->A=some ⟨g,o,none⟩->P g)(hc:∀b o u,P b->b<w.heap.size->w.cell? ⟨b,o,none⟩=some u->w'.cell? ⟨b,o,none⟩=some u)(hz:w.heap.size<=w'.heap.size):Ca w' A n xs:=by
 refine⟨h.1,h.2.1,fun hn=>?_⟩;obtain⟨b,off,e,hlt,hcs⟩:=h.2.2 hn;exact⟨b,off,e,ac hlt hz,fun j u hu=>hc b _ u (hP b off hn e) hlt (hcs j u hu)⟩
theorem En.kept{P Q:Nat->Prop}{w w':World}{b:Nat}{v:SV}(h:En P w b v)(hc:∀b o u,P b->b<w.heap.size->w.cell? ⟨b,o,none⟩=some u->w'.cell? ⟨b,o,none⟩=some u)
  (hz:w.heap.size<=w'.heap.size) (hQ:∀b,P b->b<w.heap.size->Q b):En Q w' b v:=by
 induction h with
 |mk kind text tags A1 A2 c1 c2 xs hv hb hP h0 h1 h2 h3 hr1 hr2 hl1 hl2 hp1 hp2 h ih=>
  refine .mk kind text tags A1 A2 c1 c2 xs hv (ac hb hz) (hQ _ hP hb) (hc _ _ _ hP hb h0) (hc _ _ _ hP hb h1) (hc _ _ _ hP hb h2) (hc _ _ _ hP hb h3) (hr1.keptP hp1 hc hz) (hr2.keptP hp2 hc hz) hl1 hl2 (fun g o hn e=>?_) (fun g o hn e=>?_) ih
  ·obtain⟨b',off,e2,hlt,_⟩:=hr1.2.2 hn;rw[e]at e2;injection e2 with e2;injection e2 with e2 _ _;subst e2;exact hQ g (hp1 g o hn e) hlt
  obtain⟨b',off,e2,hlt,_⟩:=hr2.2.2 hn;rw[e]at e2;injection e2 with e2;injection e2 with e2 _ _;subst e2;exact hQ g (hp2 g o hn e) hlt
theorem En.after{P:Nat->Prop}{w w':World}{b:Nat}{v:SV}(h:En P w b v)(hb:Below w w w'):En P w' b v:=
 h.kept (fun b o u _ hl hu=>(hb.cell (p:=⟨b,o,none⟩) hl).trans hu) hb.size fun _ h _=>h
theorem En.mono{P Q:Nat->Prop}{w:World}{b:Nat}{v:SV}(h:En P w b v)(hQ:∀b,P b->b<w.heap.size->Q b):En Q w b v:=h.kept (fun _ _ _ _ _ hu=>hu) (Al _) hQ
theorem En.grown{P:Nat->Prop}{w w':World}{b:Nat}{v:SV}{row:Option Nat}(h:En P w b v)(hg:w.grownBy w' row)(hne:∀b,P b->some b≠row):En P w' b v:=
 h.kept (fun b o u hp _ hu=>hg.cell hu (hne b hp)) hg.size fun _ h _=>h
theorem Rt:(prog.info? 76).map (fun i=>(i.zero,i.size,i.bytes))=some (some (.pointer none),1,8):=aN
theorem Qge:(prog.info? 3).map (fun i=>(i.zero,i.size,i.bytes))=some (some (.int .i64 0),1,8):=aN
theorem Zs{W:World}{base s1 s2 n1 n2:Nat}{e1 e2:TypeId}{v1 v2:Value}{xs ys:List Value}(h:W.ownsRow base e1 s1 v1 n1 xs)(k:W.ownsRow base e2 s2 v2 n2 ys)(hne:e1≠e2):v1.ownBlock=none\/v1.ownBlock≠v2.ownBlock:=by
 obtain⟨_,⟨rfl,_⟩|⟨g,cap,cur,rfl,_,h3,_⟩⟩:=h
 ·exact .inl rfl
 obtain⟨_,⟨rfl,_⟩|⟨g',cap',cur',rfl,_,k3,_⟩⟩:=k
 ·exact .inr eY
 refine .inr fun e=>?_;injection e with e;simp only at e;subst e;rw[h3]at k3;injection k3 with k3;injection k3 with _ k3;exact hne k3
theorem M8{base b:Nat}{v:Value}(h:∀k,v.ownBlock=some k->base<=k)(hb:b<base):v.ownBlock=none\/v.ownBlock≠some b:=by
 by_cases hr:v.ownBlock=none
 ·exact .inl hr
 exact .inr fun e=>by have:=h b e;omega
structure Eg(base B:Nat)(W:World)(h0 h1 tu tv ku kv:Value)(gs:List Nat)(xs:List (Nat × SV)):Prop where
 lt:B<W.heap.size
 bs:base<=W.heap.size
 hB:B<base
 bk:Qk W B
 c0:W.cell? (B,0)=some h0
 c1:W.cell? (B,1)=some h1
 c2:W.cell? (B,2)=some tu
 c3:W.cell? (B,3)=some ku
 tags:W.ownsRow base 3 1 tv gs.length (Dm gs)
 row:W.ownsRow base 76 1 kv xs.length (Dr (xs.map (·.1)))
 kids:∀x∈xs,En (fun c=>base<=c/\kv.ownBlock≠some c/\tv.ownBlock≠some c) W x.1 x.2
theorem Eg.after{base B:Nat}{W W':World}{h0 h1 tu tv ku kv:Value}{gs:List Nat}{xs:List (Nat × SV)}(h:Eg base B W h0 h1 tu tv ku kv gs xs)(hb:Below W W W'):Eg base B W' h0 h1 tu tv ku kv gs xs:=by
 obtain⟨hc,_,hz⟩:=Ci hb;exact⟨hz _ h.lt,ad h.bs hb.size,h.hB,h.bk.belowAt h.lt hb,(hc _ _ h.lt).trans h.c0,(hc _ _ h.lt).trans h.c1,(hc _ _ h.lt).trans h.c2,(hc _ _ h.lt).trans h.c3,Cr h.tags hb,Cr h.row hb,fun x hx=>(h.kids x hx).after hb⟩
theorem Eg.set2{base B:Nat}{W:World}{h0 h1 tu tv ku kv:Value}{gs:List Nat}{xs:List (Nat × SV)}(h:Eg base B W h0 h1 tu tv ku kv gs xs):Eg base B (W.setCell ⟨B,2,none⟩ tv) h0 h1 tv tv ku kv gs xs:=by
 have hg:=Ai W B 2 tv;exact iA
theorem Eg.set3{base B:Nat}{W:World}{h0 h1 tu tv ku kv:Value}{gs:List Nat}{xs:List (Nat × SV)}(h:Eg base B W h0 h1 tu tv ku kv gs xs):Eg base B (W.setCell ⟨B,3,none⟩ kv) h0 h1 tu tv kv kv gs xs:=by
 have hg:=Ai W B 3 kv;exact iA
theorem Eg.appK{base B:Nat}{W W':World}{h0 h1 tu tv ku kv kv':Value}{gs:List Nat}{xs:List (Nat × SV)}{x:Nat × SV}(h:Eg base B W h0 h1 tu tv ku kv gs xs)(hx:En (fun c=>base<=c/\kv.ownBlock≠some c/\tv.ownBlock≠some c) W x.1 x.2)
  (hown:W'.ownsRow base 76 1 kv' (xs.length+1) (Dr (xs.map (·.1))++[.pointer (some ⟨x.1,0,none⟩)])) (hg:W.grownBy W' kv.ownBlock) (hwh:kv'.ownBlock=kv.ownBlock\/∃k,kv'.ownBlock=some k/\W.heap.size<=k):Eg base B W' h0 h1 tu tv ku kv' gs (xs++[x]):=by
 have hn:some B≠kv.ownBlock:=fun e=>eO;refine⟨ac h.lt hg.size,ad h.bs hg.size,h.hB,h.bk.grown h.lt hg hn,hg.cell h.c0 hn,hg.cell h.c1 hn,hg.cell h.c2 hn,hg.cell h.c3 hn,h.tags.kept hg (Zs h.tags h.row aL),by simpa [Dr]using hown,fun y hy=>?_⟩;have hy':En (fun c=>base<=c/\kv.ownBlock≠some c/\tv.ownBlock≠some c) W y.1 y.2:=by
  rcases af.1 hy with hy|hy
  ·exact h.kids y hy
  rw[ar]at hy;subst hy;exact hx
 refine hy'.kept (fun b o v hb _ hv=>hg.cell hv fun e=>hb.2.1 e.symm) hg.size fun c hc hl=>⟨hc.1,?_,hc.2.2⟩
 rcases hwh with e|⟨k,e,hk⟩
 ·rw[e];exact hc.2.1
 exact iB
theorem Eg.appT{base B:Nat}{W W':World}{h0 h1 tu tv tv' ku kv:Value}{gs:List Nat}{xs:List (Nat × SV)}{g:Nat}(h:Eg base B W h0 h1 tu tv ku kv gs xs)
  (hown:W'.ownsRow base 3 1 tv' (gs.length+1) (Dm gs++[.int .i64 (g:Int)])) (hg:W.grownBy W' tv.ownBlock) (hwh:tv'.ownBlock=tv.ownBlock\/∃k,tv'.ownBlock=some k/\W.heap.size<=k):Eg base B W' h0 h1 tu tv' ku kv (gs++[g]) xs:=by
 have hn:some B≠tv.ownBlock:=fun e=>by have:=(h.tags.lt B e.symm).1;have:=h.hB;omega
 refine⟨ac h.lt hg.size,ad h.bs hg.size,h.hB,h.bk.grown h.lt hg hn,hg.cell h.c0 hn,hg.cell h.c1 hn,hg.cell h.c2 hn,hg.cell h.c3 hn,by simpa [Dm]using hown,h.row.kept hg (Zs h.row h.tags aL),fun y hy=>?_⟩;refine(h.kids y hy).kept (fun b o v hb _ hv=>hg.cell hv fun e=>hb.2.2 e.symm) hg.size fun c hc hl=>⟨hc.1,hc.2.1,?_⟩
 rcases hwh with e|⟨k,e,hk⟩
 ·rw[e];exact hc.2.2
 exact iB
theorem Qln{w:World}{base k n m c:Nat}{e:TypeId}{A:Option Addr}{xs:List Value}(h:w.ownsRow base e k (.slice A m c) n xs):m=n:=by
 rcases h.2 with⟨e,h0⟩|⟨g,cap,cur,e,_⟩
 ·injection e with _ e1 e2;omega
 injection e with _ e1 e2
theorem Eg.push{base B n c:Nat}{W W':World}{A:Option Addr}{h0 h1 tu tv ku kv':Value}{gs:List Nat}{xs:List (Nat × SV)}{x:Nat × SV}(h:Eg base B W h0 h1 tu tv ku (.slice A n c) gs xs)(hx:En (fun c1=>base<=c1/\(Value.slice A n c).ownBlock≠some c1/\tv.ownBlock≠some c1) W x.1 x.2)
  (hown:W'.ownsRow base 76 1 kv' (xs.length+1) (Dr (xs.map (·.1))++[.pointer (some ⟨x.1,0,none⟩)])) (hg:W.grownBy W' (Value.slice A n c).ownBlock) (hwh:kv'.ownBlock=(Value.slice A n c).ownBlock\/∃k,kv'.ownBlock=some k/\W.heap.size<=k):
  ∃A6 c6,kv'=.slice A6 (xs++[x]).length c6/\Eg base B W' h0 h1 tu tv ku kv' gs (xs++[x])/\Below base W W':=by
 have hA:=h.appK hx hown hg hwh;have e:(xs++[x]).length=xs.length+1:=aK;rcases hown.2 with⟨e0,h0⟩|⟨g,cap,cur,e1,_⟩
 ·omega
 exact⟨some ⟨g,0,none⟩,cap,by rw[e,e1],hA,(Aq _ _).grown hg h.bs (fun k hk=>(h.row.lt k hk).1)⟩
theorem Eg.pushT{base B n c g:Nat}{W W':World}{A:Option Addr}{h0 h1 tu tv' ku kv:Value}{gs:List Nat}{xs:List (Nat × SV)}(h:Eg base B W h0 h1 tu (.slice A n c) ku kv gs xs)
  (hown:W'.ownsRow base 3 1 tv' (gs.length+1) (Dm gs++[.int .i64 (g:Int)])) (hg:W.grownBy W' (Value.slice A n c).ownBlock) (hwh:tv'.ownBlock=(Value.slice A n c).ownBlock\/∃k,tv'.ownBlock=some k/\W.heap.size<=k):
  ∃A6 c6,tv'=.slice A6 (gs++[g]).length c6/\Eg base B W' h0 h1 tu tv' ku kv (gs++[g]) xs/\Below base W W':=by
 have hA:=h.appT hown hg hwh;have e:(gs++[g]).length=gs.length+1:=aK;rcases hown.2 with⟨e0,h0⟩|⟨g9,cap,cur,e1,_⟩
 ·omega
 exact⟨some ⟨g9,0,none⟩,cap,by rw[e,e1],hA,(Aq _ _).grown hg h.bs (fun k hk=>(h.tags.lt k hk).1)⟩
theorem Qd7{w:World}{base n:Nat}{e:TypeId}{v:Value}{xs:List Value}(h:w.ownsRow base e 1 v n xs)(hx:xs.length=n)(hl:n<=1000):∃A c,v=.slice A n c/\Ca w A n xs/\∀g o,0<n->A=some ⟨g,o,none⟩->base<=g:=by
 have h':=h;rcases h.2 with⟨rfl,h0⟩|⟨g,cap,cur,rfl,hbg,hh,hnc,hcm,hcs,htk⟩
 ·subst h0;exact⟨none,0,rfl,⟨hx,ag _,fun hn=>absurd hn aL⟩,fun g o hn _=>absurd hn aL⟩
 refine⟨some ⟨g,0,none⟩,cap,rfl,⟨hx,by unfold maxLen;omega,fun hn=>⟨g,0,rfl,(h'.lt g rfl).2,fun j u hu=>?_⟩⟩,fun g' o _ e=>by injection e with e;injection e with e;subst e;exact hbg⟩;have:=h'.cells (g:=g) rfl j u hu;have e1:(⟨g,0,none⟩:Addr).add j=⟨g,0+j,none⟩:=bq;rwa [e1]at this
theorem Eg.done{base B:Nat}{W:World}{kind text:List UInt8}{tv kv:Value}{gs:List Nat}{xs:List (Nat × SV)}(h:Eg base B W kind text tv tv kv kv gs xs)(hg:gs.length<=1000)(hx:xs.length<=1000):En (fun c=>B<=c) W B (.mk kind text gs (xs.map (·.2))):=by
 obtain⟨A1,c1,rfl,r1,p1⟩:=Qd7 h.tags (by simp[Dm]) hg;obtain⟨A2,c2,rfl,r2,p2⟩:=Qd7 h.row (by simp[Dr]) hx;have hB:=h.hB;exact .mk kind text gs A1 A2 c1 c2 xs rfl h.lt (Al _) h.c0 h.c1 h.c2 h.c3 r1 r2 hg hx (fun g o hn e=>by have:=p1 g o hn e;omega) (fun g o hn e=>by have:=p2 g o hn e;omega) fun x hx=>(h.kids x hx).mono fun c hc _=>by have:=hc.1;omega
theorem Eg.new{W:World}{T:TypeId}(h0 h1:Value):Eg (W.heap.size+1) W.heap.size (W.alloc (.cells #[h0,h1,.slice none 0 0,.slice none 0 0] T)) h0 h1 (.slice none 0 0) (.slice none 0 0) (.slice none 0 0) (.slice none 0 0) [] []:=
 ⟨by simp,by simp,by omega,Qk.new _ _ _,by simp[go_sem],by simp[go_sem],by simp[go_sem],by simp[go_sem],World.ownsRow_nil _ _ _ _,World.ownsRow_nil _ _ _ _,by simp⟩
section
attribute [local go_sem] Qra Qpu Qo3 Qmi ByteArray.mk_append_mk
theorem Qf3(p:UInt8->Bool):∀(s:List UInt8) (i:Nat) (hi:i<s.length),(i<(s.takeWhile p).length->p s[i]=true)/\(i=(s.takeWhile p).length->p s[i]=false)
 |[],i,hi=>by simp at hi
 |x::s,0,hi=>by
  by_cases h:p x=true
  ·simp[h]
  simp[h]
 |x::s,i+1,hi=>by
  have ih:=Qf3 p s i (by simpa using hi);by_cases h:p x=true
  ·rw[List.takeWhile_cons_of_pos h];simpa using ih
  rw[List.takeWhile_cons_of_neg h];simp
theorem Tl(p:UInt8->Bool)(s:List UInt8):s.take (s.takeWhile p).length=s.takeWhile p/\s.drop (s.takeWhile p).length=s.dropWhile p/\(s.takeWhile p).length<=s.length:=by
 have e:s.takeWhile p++s.dropWhile p=s:=List.takeWhile_append_dropWhile;have h1:(s.takeWhile p++s.dropWhile p).take (s.takeWhile p).length=s.takeWhile p:=List.take_left;have h2:(s.takeWhile p++s.dropWhile p).drop (s.takeWhile p).length=s.dropWhile p:=List.drop_left;rw[e]at h1 h2;have h3:=congrArg List.length e;rw[ah]at h3;exact⟨h1,h2,by omega⟩
theorem Xk(s:List UInt8)(w:World)(hs:s.length<=4000000):
  Calls prog 157 #[s] w fun e w'=>e=.returned (.int .i64 ((s.takeWhile Bh).length:Int))/\w=w':=by
 have HT:=Aa (Qf3 Bh s);have hle:=(Tl Bh s).2.2;generalize hn:(s.takeWhile Bh).length=n at *;clear hn;go_enter func157,ntmps157;go_wp2_with fail;go_loop [3] (fun i=>∃k:Nat,i=.int .i64 k/\k<=n) (fun i=>n - (intOf i).toNat)
 case atStart=>exact⟨0,rfl,ag _⟩
 case round=>
  obtain⟨k,rfl,hk⟩:=hrel;by_cases hlt:k<s.length
  ·obtain⟨q1,q2⟩:=HT.o k hlt;have hc:=(s[k]).toNat_lt;by_cases hkn:k<n
   ·obtain⟨h3,h4⟩:=Dy.1 (q1 hkn);clear q1 q2;go_wp2_with fail;go_round
    case rel=>exact⟨k+1,by go_num,by omega⟩
    case measure=>simp[intOf];omega
   have hd:=q2 aI;have hkn2:k=n:=aI;have h2:(s[k]).toNat<48\/(48<=(s[k]).toNat/\57<(s[k]).toNat):=by
    by_cases h3:48<=(s[k]).toNat
    ·refine .inr ⟨h3,?_⟩;by_cases h4:57<(s[k]).toNat
     ·exact h4
     have:=Dy.2 ⟨h3,by omega⟩;rw[hd]at this;cases this
    exact .inl aI
   clear q1 q2 hd;subst hkn2;rcases h2 with h2|⟨h2,h3⟩
   ·go_wp2_with fail;exact iq
   go_wp2_with fail;exact iq
  ·have hkn2:k=n:=aI;subst hkn2;go_wp2_with fail;exact iq
def Bc(S:List Ty)(k:Kd)(o:Option (Vl × List UInt8))(w:World)(e:Ending)(w':World):Prop:=
 (match o with
  |some x=>∃b,e=.returned (.tuple #[.pointer (some ⟨b,0,none⟩),x.2,.bool true])/\En (fun c=>w.heap.size<=c) w' b (Bt S k x.1)
  |none=>∃(q:Option Addr) (r:ByteArray),e=.returned (.tuple #[.pointer q,.string r,.bool false]))/\Below w w w'
theorem Bc.no{S:List Ty}{k:Kd}{o:Option (Vl × List UInt8)}{w w':World}{e:Ending}(ho:o=none){q:Option Addr}{r:ByteArray}(he:e=.returned (.tuple #[.pointer q,.string r,.bool false]))(hb:Below w w w'):Bc S k o w e w':=by
 rw[ho];exact⟨⟨q,r,he⟩,hb⟩
theorem En.leaf{P:Nat->Prop}{w:World}{kind text:List UInt8}{T:TypeId}(hP:P w.heap.size):En P (w.alloc (.cells #[kind,text,.slice none 0 0,.slice none 0 0] T)) w.heap.size (.mk kind text [] []):=
 .mk kind text [] none none 0 0 [] rfl aK hP aK aK aK aK ⟨rfl,ag _,fun h=>absurd h aK⟩ ⟨rfl,ag _,fun h=>absurd h aK⟩ aK aK (fun _ _ h=>absurd h aK) (fun _ _ h=>absurd h aK) aK
theorem Qna(s:List UInt8):Sl s=if Ef (s.takeWhile Bh) 999999 then(Cx (s.takeWhile Bh)).map (fun n=>(n,s.dropWhile Bh))else none:=by
 unfold Sl Ef;cases h:Cx (s.takeWhile Bh)with
 |none=>rfl
 |some n=>simp[(Bw.1 h).1]
theorem Qj8(S:List Ty)(xv:Value)(hxv:xv.oneCell'=true)(s:List UInt8)(k:Kd)(hs0:k.signs=[])(hb:k.base=[110])(w:World)(hs:s.length<=4000000)(q:Option (Vl × List UInt8))(hq:q=match Sl s with|some (n,r)=>some (.mk 110 (Az n) 0 [],r)|none=>none):
  Calls prog 104 #[.agg #[xv],s,.string ⟨#[110]⟩] w (Bc S k q w):=by
 have hkd:Be k=[110]:=cj;have HQ:=Aa (hq.trans (by rw[Qna]));obtain⟨e1,e2,hle⟩:=Tl Bh s;have Hd:=Aa (fun W=>Xk s W hs);have Hn:=Aa (fun W=>Dv (s.takeWhile Bh) 999999 W aI aL);have HD:=Aa (fun m (h:Cx (s.takeWhile Bh)=some m)=>(Bw.1 h).2);have E1:=Aa e1;have E2:=Aa e2;have k1:((s.takeWhile Bh).length:Int)<=(s.length:Int):=aI;generalize (s.takeWhile Bh).length=n at *;generalize s.takeWhile Bh=tw at *;generalize s.dropWhile Bh=dw at *;have k2:(0:Int)<=(n:Int):=aI;have k3:((n:Int)).toNat=n:=aI;have hn8:n<=4000000:=aI;clear e1 e2 hs0 hb hq;go_enter func104,ntmps104;go_wp2_with fail;refine(Hd.o _).mono ?_;rintro e w1 ⟨rfl,rfl⟩;go_wp2_with fail;rw[E1.o];refine(Hn.o _).mono ?_;rintro e w2 ⟨m,hm,rfl,hdm,hb2⟩;have Hb2:=Aa (((Aq w.heap.size w).alloc (Al _) (.cells #[xv] 79)).trans (hb2.mono aK));have Hdm:=Aa hdm;have hz2:=Hb2.o.size;have Hok:=Aa (show Ef tw 999999=(Cx tw).isSome by unfold Ef;cases h:Cx tw with|none=>rfl|some m=>simp[(Bw.1 h).1]);generalize Ef tw 999999=ok at *;clear hb2 hdm;go_wp2_with fail;refine Xa [26,27,28,29,30,31,32,33,34,35,6,7,8]
  (fun ix v W=>match ix with|0=>v=.string ⟨#[110]⟩|1=>v=(s:List UInt8)|2=>v=(n:Int)|3=>v=(tw:List UInt8)|4=>v=.agg #[.string ⟨#[110]⟩,(tw:List UInt8),.slice none 0 0,.slice none 0 0]|5=>∃c,v=.pointer (some ⟨c,0,none⟩)|6=>v=(s:List UInt8)|7=>v=(n:Int)|8=>v=(dw:List UInt8)|9=>v=.bool ok|10=>∃c,v=.pointer (some ⟨c,0,none⟩)|11=>v=(dw:List UInt8)|12=>v=.bool ok|_=>True)
  (fun L U W=>(L 5=false->Below w2 w2 W)/\(L 5=true->∃W7,W=W7.alloc (.cells #[.string ⟨#[110]⟩,(tw:List UInt8),.slice none 0 0,.slice none 0 0] 148)/\Below w2 w2 W7/\U 5=.pointer (some ⟨W7.heap.size,0,none⟩))/\(L 10=true->U 10=U 5)) (⟨fun _=>(Aq _ _).drew,fun h=>Bool.noConfusion h,fun h=>Bool.noConfusion h⟩) ?_ ?_
 ·repeat (first|exact Bb.nil|(refine Bb.cons ?_ ?_;rotate_left))
  all_goals
   rintro L U W hL hpre HR Hdep K hK;first|(simp[Region.binds]at hpre;done)|simp[Region.binds]at hpre|clear hpre
  iterate 3
   ·exact fP
  ·go_simp;rw[E1.o];exact iG
  ·exact fP
  ·obtain⟨R1,R2,R3⟩:=HR.o;have hB:=R1 hL;have h10:L 10=false:=Ct Hdep.o 10 5 rfl hL;go_simp;exact hK W.heap.size _ _ ⟨_,rfl⟩ Ae ⟨fun h=>by simp at h,fun _=>⟨W,rfl,hB,rfl⟩,fun h=>absurd (h10.symm.trans aU) aL⟩ aJ
  iterate 2
   ·exact fP
  ·exact gp
  ·exact fP
  ·exact g7
  iterate 2
   ·exact fP
 rintro L U W hL hφ hR;have hφ10:U 10=U 5:=hR.2.2 (hL 10 aL);have e11:U 11=(dw:List UInt8):=hφ 11 aL;have e12:U 12=.bool ok:=hφ 12 aL;clear hφ;obtain⟨_,h2,h3⟩:=hR;obtain⟨W7,rfl,hb7,u5⟩:=h2 (hL 5 aL);rw[u5]at hφ10;clear hL h2;simp only[hφ10,e11,e12];clear hφ10;go_wp2_with fail;refine aG (v:=.tuple #[.pointer (some ⟨W7.heap.size,0,none⟩),dw,.bool ok]) (by simp[results,results104,go_sem]) rfl ?_;have hz7:=hb7.size;have Hb7:=((Hb2.o.trans (hb7.mono hz2)).alloc (ad hz2 hz7) (.cells #[.string ⟨#[110]⟩,tw,.slice none 0 0,.slice none 0 0] 148))
 have HQ:=HQ.o;cases ok with
 |false=>exact Bc.no HQ rfl Hb7
 |true=>
  cases hd:Cx tw with
  |none=>rw[hd]at HQ;have:=Hok.o;rw[hd]at this;cases this
  |some m'=>
   rw[hd]at HQ;simp only[if_true,Option.map_some]at HQ;rw[HQ];refine⟨⟨W7.heap.size,rfl,?_⟩,Hb7⟩;rw[Z8,hkd,<-HD.o m' hd];exact iH
def tkV:Option (List UInt8 × List UInt8)->Value
 |some (p,r)=>.tuple #[.string ⟨p.toArray⟩,.string ⟨r.toArray⟩,.bool true]
 |none=>.tuple #[.string ⟨#[]⟩,.string ⟨#[]⟩,.bool false]
theorem Tx(s:List UInt8)(w:World)(hs:s.length<=4000000):
  Calls prog 218 #[.string ⟨s.toArray⟩] w fun e w'=>e=.returned (tkV (Ed s))/\∃k,w'=w.drewN k:=by
 have HN:=Aa (Ji s w (by omega))
 obtain⟨q,hq⟩:∃q,q=Ed s:=⟨_,rfl⟩
 rw[<-hq]
 unfold Ed at hq
 have HQ:=Aa hq
 have HL:=Aa (fun n r (h:Ag s=some (n,r))=>Cq h)
 clear hq
 generalize Ag s=o at *
 cases o with
 |none=>
  unfold ngV at HN
  go_enter func218,ntmps218
  go_wp2_with fail
  refine HN.o.mono ?_
  rintro e w1 ⟨rfl,k,rfl⟩
  go_wp2_with fail
  go_ret3
  exact⟨by rw[HQ.o];rfl,k,rfl⟩
 |some y=>
  obtain⟨n,r⟩:=y
  obtain⟨h1,h2⟩:=HL.o n r rfl
  unfold ngV at HN
  by_cases hn:n<=r.length
  ·have HQ:=Aa (show q=some (r.take n,r.drop n)from by rw[HQ.o];simp only[if_pos hn])
   have k1:((n:Int)<=(r.length:Int)):=by omega
   have k0:¬((r.length:Int)<(n:Int)):=by omega
   have k2:(0:Int)<=(n:Int):=by omega
   have k3:((n:Int)).toNat=n:=by omega
   have k4:(0:Int)<=(r.length:Int):=by omega
   clear HL
   go_enter func218,ntmps218
   go_wp2_with fail
   refine HN.o.mono ?_
   rintro e w1 ⟨rfl,k,rfl⟩
   go_wp2_with fail
   go_quiet (fail)
   go_wp2_with fail
   go_ret3
   exact⟨by rw[HQ.o];rfl,k+nq,by simp[World.drewN,Nat.add_assoc]⟩
  have HQ:=Aa (show q=none from by rw[HQ.o];simp only[if_neg hn])
  have k0:((r.length:Int)<(n:Int)):=by omega
  clear HL
  go_enter func218,ntmps218
  go_wp2_with fail
  refine HN.o.mono ?_
  rintro e w1 ⟨rfl,k,rfl⟩
  go_wp2_with fail
  go_ret3
  exact⟨by rw[HQ.o];rfl,k,rfl⟩
theorem Qnw(S:List Ty)(d:Nat)(k:Kd):E9 S d k []=none:=by
 cases d with
 |zero=>rfl
 |succ d=>
  unfold E9
  cases k.signs with
  |cons c t=>simp only;split<;>rfl
  |nil=>
   simp only
   split
   ·rfl
   split
   ·rfl
   split
   ·rfl
   cases B9 S k.name with
   |none=>rfl
   |some t=>simp only[Sv];split<;>rfl
theorem Qhk(S:List Ty)(xv:Value)(hxv:xv.oneCell'=true)(k:Kd)(s:List UInt8)(d:Nat)(w:World)(h:s=[]\/d=0)(hd:d<=1000):
  Calls prog 178 #[.agg #[xv],.string ⟨s.toArray⟩,.string ⟨(Be k).toArray⟩,.int .i64 (d:Int)] w (Bc S k none w):=by
 by_cases hs:s=[]
 ·subst hs
  clear h
  go_enter func178,ntmps178
  go_wp2_with fail
  go_ret3
  exact .no rfl rfl ((Aq _ _).alloc (Al _) _)
 obtain rfl:=h.resolve_left hs
 have e0:(s == [])=false:=by cases s with|nil=>exact absurd rfl hs|cons c r=>rfl
 clear h hs
 go_enter func178,ntmps178
 go_wp2_with fail
 go_ret3
 exact .no rfl rfl ((Aq _ _).alloc (Al _) _)
theorem Qo9(S:List Ty)(xv:Value)(hxv:xv.oneCell'=true)(k:Kd)(hs0:k.signs=[])(hb:k.base=[110])(s:List UInt8)(hne:s≠[])(d:Nat)(w:World)(hs:s.length<=4000000)(hd1:1<=d)(hd:d<=1000)(q:Option (Vl × List UInt8))(hq:q=match Ag s with|some (n,r)=>some (.mk 110 (Az n) 0 [],r)|none=>none):
  Calls prog 178 #[.agg #[xv],.string ⟨s.toArray⟩,.string ⟨(Be k).toArray⟩,.int .i64 (d:Int)] w (Bc S k q w):=by
 have hkd:Be k=[110]:=by unfold Be Cj;rw[hs0,hb];rfl
 have e0:(s == [])=false:=by cases s with|nil=>exact absurd rfl hne|cons c r=>rfl
 have e1:¬((d:Int)<1):=by omega
 have HN:=Aa (fun W=>Ji s W (by omega))
 have HL:=Aa (fun n r (h:Ag s=some (n,r))=>Cq h)
 have HQ:=Aa hq
 have HK:=Aa hkd
 rw[hkd]
 obtain⟨n,r,ok,hok,hn⟩:∃n r ok,ngV (Ag s)=.tuple #[.int .i64 (n:Nat),.string ⟨(r:List UInt8).toArray⟩,.bool ok]/\n<=999999:=by
  cases h:Ag s with
  |none=>exact⟨0,[],false,rfl,by decide⟩
  |some y=>obtain⟨n,r⟩:=y;exact⟨n,r,true,rfl,(HL.o n r h).1⟩
 have HOk:=Aa hok
 rw[hok]at HN
 have Hd:=Aa (fun W=>Gg n n W (Al _) (by omega))
 clear hq hs0 hb hne hkd hok
 go_enter func178,ntmps178
 go_wp2_with fail
 refine(HN.o _).mono ?_
 rintro e w2 ⟨rfl,k2,rfl⟩
 have Hb2:=Aa (below_drewN ((Aq w.heap.size w).alloc (Al _) (.cells #[xv] 79)) k2)
 go_wp2_with fail
 refine(Hd.o _).mono ?_
 rintro e w3 ⟨rfl,hb3⟩
 have Hb3:=Aa (Hb2.o.trans (hb3.mono Hb2.o.size))
 clear hb3
 go_wp2_with fail
 go_ret3
 rw[HQ.o]
 have h:=HOk.o
 cases hg:Ag s with
 |none=>
  rw[hg]at h
  unfold ngV at h
  injection h with h
  simp at h
  obtain⟨_,_,rfl⟩:=h
  exact .no rfl rfl (Hb3.o.alloc Hb3.o.size _)
 |some y=>
  obtain⟨n',r'⟩:=y
  rw[hg]at h
  unfold ngV at h
  injection h with h
  simp at h
  obtain⟨h1,h2,rfl⟩:=h
  obtain rfl:n=n':=by omega
  subst h2
  refine⟨⟨w3.heap.size,rfl,?_⟩,Hb3.o.alloc Hb3.o.size _⟩
  rw[Z8,HK.o]
  exact En.leaf Hb3.o.size
theorem Qjm(p:List UInt8):Fq (39::(p++[39]))=Da p:=by
 unfold Fq
 simp
 intro _
 rw[show (39:UInt8)::(p++[39])=(39::p)++[39]from rfl,List.getLast?_append]
 simp
theorem Qpg(S:List Ty)(xv:Value)(hxv:xv.oneCell'=true)(k:Kd)(hs0:k.signs=[])(hb:k.base=[116])(s:List UInt8)(hne:s≠[])(d:Nat)(w:World)(hs:s.length<=3000000)(hd1:1<=d)(hd:d<=1000)(q:Option (Vl × List UInt8))(hq:q=match Ed s with|some (p,r)=>if Da p=true then some (.mk 116 p 0 [],r)else none|none=>none):
  Calls prog 178 #[.agg #[xv],.string ⟨s.toArray⟩,.string ⟨(Be k).toArray⟩,.int .i64 (d:Int)] w (Bc S k q w):=by
 have hkd:Be k=[116]:=by unfold Be Cj;rw[hs0,hb];rfl
 have e0:(s == [])=false:=by cases s with|nil=>exact absurd rfl hne|cons c r=>rfl
 have e1:¬((d:Int)<1):=by omega
 have HN:=Aa (fun W=>Tx s W (by omega))
 have HL:=Aa (fun p r (h:Ed s=some (p,r))=>Ke h)
 have HQ:=Aa hq
 have HK:=Aa hkd
 rw[hkd]
 clear hq hs0 hb hne hkd
 generalize Ed s=o at *
 cases o with
 |none=>
  unfold tkV at HN
  go_enter func178,ntmps178
  go_wp2_with fail
  refine(HN.o _).mono ?_
  rintro e w2 ⟨rfl,k2,rfl⟩
  have Hb2:=Aa (below_drewN ((Aq w.heap.size w).alloc (Al _) (.cells #[xv] 79)) k2)
  go_wp2_with fail
  go_ret3
  exact .no HQ.o rfl (Hb2.o.alloc Hb2.o.size _)
 |some y=>
  obtain⟨p,r⟩:=y
  have hl:=HL.o p r rfl
  unfold tkV at HN
  have HT:=Aa (fun W=>Sh (39::(p++[39])) W (by simp;omega))
  rw[Qjm]at HT
  have HQ:=Aa (show q=if Da p=true then some (.mk 116 p 0 [],r)else none from HQ.o)
  clear HL
  go_enter func178,ntmps178
  go_wp2_with fail
  refine(HN.o _).mono ?_
  rintro e w2 ⟨rfl,k2,rfl⟩
  have Hb2:=Aa (below_drewN ((Aq w.heap.size w).alloc (Al _) (.cells #[xv] 79)) k2)
  generalize hw2:World.drewN _ k2=w2
  rw[hw2]at Hb2
  clear hw2
  go_wp2_with fail
  refine(HT.o _).mono ?_
  rintro e w3 ⟨rfl,rfl⟩
  go_wp2_with fail
  go_ret3
  rw[HQ.o]
  cases ht:Da p with
  |false=>exact .no rfl rfl (Hb2.o.alloc Hb2.o.size _)
  |true=>
   refine⟨⟨w2.heap.size,rfl,?_⟩,Hb2.o.alloc Hb2.o.size _⟩
   rw[Vk,HK.o]
   exact En.leaf Hb2.o.size
structure FlS(i:Nat)(txt:List UInt8)(w:World)(l1 l4 l7 l10:Bool)(u1 u4 u7 u10:Value)(W:World):Prop where
 b:Below w.heap.size w W
 a:l1=true->∃g,u1=.slice (some ⟨g,0,none⟩) 2 2/\g<W.heap.size/\W.rangeAt g 0 [.string ⟨H7.toArray⟩,.string ⟨Dk.toArray⟩]
 c:l4=true->∃g,u4=.pointer (some ⟨g,i,none⟩)/\g<W.heap.size/\W.rangeAt g 0 [.string ⟨H7.toArray⟩,.string ⟨Dk.toArray⟩]
 d:l7=true->∃b,u7=.pointer (some ⟨b,0,none⟩)/\En (fun c=>w.heap.size<=c) W b (.mk [102] txt [] [])
 e:l10=true->u10=u7
theorem FlS.after{i:Nat}{txt:List UInt8}{w:World}{l1 l4 l7 l10:Bool}{u1 u4 u7 u10:Value}{W W':World}(h:FlS i txt w l1 l4 l7 l10 u1 u4 u7 u10 W)(hb:Below W.heap.size W W'):FlS i txt w l1 l4 l7 l10 u1 u4 u7 u10 W':=
 ⟨h.b.trans (hb.mono h.b.size),fun q=>by obtain⟨g,e1,e2,e3⟩:=h.a q;exact⟨g,e1,Nat.lt_of_lt_of_le e2 hb.size,Ar e3 e2 hb⟩,fun q=>by obtain⟨g,e1,e2,e3⟩:=h.c q;exact⟨g,e1,Nat.lt_of_lt_of_le e2 hb.size,Ar e3 e2 hb⟩,fun q=>by obtain⟨b,e1,e2⟩:=h.d q;exact⟨b,e1,e2.after hb⟩,h.e⟩
theorem Qo7(S:List Ty)(xv:Value)(hxv:xv.oneCell'=true)(k:Kd)(hs0:k.signs=[])(hb:k.base=[102])(s:List UInt8)(hne:s≠[])(d:Nat)(w:World)(hs:s.length<=4000000)(hd1:1<=d)(hd:d<=1000)(q:Option (Vl × List UInt8))(hq:q=match s with|[]=>none|b::r=>if b=0 then some (.mk 102 H7 0 [],r)else if b=1 then some (.mk 102 Dk 0 [],r)else none):
  Calls prog 178 #[.agg #[xv],.string ⟨s.toArray⟩,.string ⟨(Be k).toArray⟩,.int .i64 (d:Int)] w (Bc S k q w):=by
 have hkd:Be k=[102]:=by unfold Be Cj;rw[hs0,hb];rfl
 cases s with
 |nil=>exact absurd rfl hne
 |cons c r=>
  simp only at hq
  have e1:¬((d:Int)<1):=by omega
  have HK:=Aa hkd
  rw[hkd]
  have hlr:r.length+1<=4000000:=by simpa using hs
  by_cases hc:c=0\/c=1
  ·obtain⟨txt,htx,hq2⟩:∃txt,([H7,Dk][c.toNat]?=some txt)/\q=some (.mk 102 txt 0 [],r):=by
    rcases hc with rfl|rfl
    ·exact⟨H7,rfl,hq⟩
    exact⟨Dk,rfl,hq⟩
   have HQ:=Aa hq2
   have hi2:c.toNat<2:=by rcases hc with rfl|rfl<;>decide
   have hrow:([.string ⟨H7.toArray⟩,.string ⟨Dk.toArray⟩]:List Value)[c.toNat]?=some (.string ⟨txt.toArray⟩):=by
    rcases hc with rfl|rfl
    ·injection htx with e;subst e;rfl
    injection htx with e;subst e;rfl
   have Hrow:=Aa hrow
   generalize hcn:c.toNat=ci at *
   have k1:¬((1:Int)<(ci:Int)):=by omega
   have k2:((ci:Int))<2:=by omega
   have k5:(1:Int)<=(r.length:Int)+1:=by omega
   have k3:(0:Int)<=(ci:Int):=by omega
   have k4:((ci:Int)).toNat=ci:=by omega
   clear hq hs0 hb hne hkd hc htx hq2 hrow
   go_enter func178,ntmps178
   go_wp2_with fail
   generalize hwg:World.alloc w _=w1
   have Hb1:=Aa (show Below w.heap.size w w1 by rw[<-hwg];exact(Aq _ _).alloc (Al _) _)
   clear hwg
   refine rgF (fun l u W=>FlS ci txt w1 (l 1) (l 4) (l 7) (l 10) (u 1) (u 4) (u 7) (u 10) W) (fun _=>True) (fun _ _ _ _=>Ae) ⟨(Aq _ _).drew,by simp,by simp,by simp,by simp⟩ ?_
   refine sq ?_
   refine Ju (fun v=>∃g,v=.slice (some ⟨g,0,none⟩) 2 2) (by
    intro l u W hl hp hF hG hi K hK
    have h4:l 4=false:=(hi.o 4 (by rfl)).1
    have hR:=Aa (hF.o.after ((Aq W.heap.size W).alloc (Al _) (.cells #[.string ⟨#[110,111]⟩,.string ⟨#[121,101,115]⟩] 9)))
    clear hp hi hG hF
    go_simp
    exact hK (.slice (some ⟨W.heap.size,0,none⟩) 2 2) _ _ ⟨_,rfl⟩ ⟨hR.o.b,fun _=>⟨W.heap.size,rfl,by simp,Br W [.string ⟨H7.toArray⟩,.string ⟨Dk.toArray⟩] 9⟩,hR.o.c,hR.o.d,hR.o.e⟩ rfl) ?_
   iterate 2 refine sq ?_
   refine Ju (fun v=>∃g,v=.pointer (some ⟨g,ci,none⟩)) (by
    intro l u W hl hp hF hG hi K hK
    simp[Region.binds,Co]at hp
    have h1:l 1=true:=by simp[hp]
    obtain⟨g,e1,e2,e3⟩:=hF.o.a h1
    have hR:=Aa hF.o
    clear hi hG hF
    go_simp
    exact hK (.pointer (some ⟨g,ci,none⟩)) _ _ ⟨g,rfl⟩ ⟨hR.o.b,hR.o.a,fun _=>⟨g,rfl,e2,e3⟩,hR.o.d,hR.o.e⟩ (by simp[Act.put,hp,e1])) ?_
   refine Ju (fun v=>v=.string ⟨txt.toArray⟩) (by
    intro l u W hl hp hF hG hi K hK
    have h4:l 4=true:=(hp ⟨4,.data⟩ (by simp) rfl).1
    obtain⟨g,e1,e2,e3⟩:=hF.o.c h4
    have hc:=Ab e3 ci Hrow.o
    rw[Nat.zero_add]at hc
    have hR:=Aa hF.o
    clear hi hG hF hp e3
    go_simp
    exact hK _ _ _ rfl hR.o (by simp[Act.put,e1])) ?_
   refine Ju (fun v=>v=.agg #[.string ⟨#[102]⟩,.string ⟨txt.toArray⟩,.slice none 0 0,.slice none 0 0]) (by
    intro l u W hl hp hF hG hi K hK
    simp[Region.binds,Co]at hp
    clear hi hG
    go_simp
    exact hK (.agg #[.string ⟨#[102]⟩,.string ⟨txt.toArray⟩,.slice none 0 0,.slice none 0 0]) _ _ rfl hF.o (by simp[Act.put,hp])) ?_
   refine Ju (fun v=>∃b,v=.pointer (some ⟨b,0,none⟩)) (by
    intro l u W hl hp hF hG hi K hK
    simp[Region.binds,Co]at hp
    have h10:l 10=false:=(hi.o 10 (by rfl)).1
    have hR:=Aa (hF.o.after ((Aq W.heap.size W).alloc (Al _) (.cells #[.string ⟨([102]:List UInt8).toArray⟩,.string ⟨txt.toArray⟩,.slice none 0 0,.slice none 0 0] 148)))
    have hbs:=hF.o.b.size
    clear hi hG hF
    go_simp
    exact hK (.pointer (some ⟨W.heap.size,0,none⟩)) _ _ ⟨_,rfl⟩ ⟨hR.o.b,hR.o.a,hR.o.c,fun _=>⟨W.heap.size,rfl,En.leaf hbs⟩,fun h=>absurd (h10.symm.trans h) (by decide)⟩ (by simp[Act.put,hp])) ?_
   refine sq ?_
   refine Ju (fun v=>v=.string ⟨r.toArray⟩) (by
    intro l u W hl hp hF hG hi K hK
    simp[Region.binds,Co]at hp
    clear hi hG
    go_simp
    exact hK (.string ⟨r.toArray⟩) _ _ rfl hF.o (by first|rfl|(simp[Act.put,hp];done)|(simp[Act.put,hp];exact rfl))) ?_
   refine Ju (fun v=>∃b,v=.pointer (some ⟨b,0,none⟩)) (by
    intro l u W hl hp hF hG hi K hK
    simp[Region.binds,Co]at hp
    have h7:l 7=true:=by simp[hp]
    obtain⟨b,e1,e2⟩:=hF.o.d h7
    clear hi hG
    go_simp
    exact hK (u 7) _ _ ⟨b,e1⟩ ⟨hF.o.b,hF.o.a,hF.o.c,hF.o.d,fun _=>rfl⟩ (by simp[Act.put,hp,e1])) ?_
   iterate 2 refine sq ?_
   intro l u W hl hu hR
   obtain⟨b,e1,e2⟩:=hR.d (hl 7 (by decide))
   have e10:=(hR.e (hl 10 (by decide))).trans e1
   have Hb2:=Aa (Hb1.o.trans (hR.b.mono Hb1.o.size))
   have E2:=Aa e2
   simp only[N6,List.nil_append,List.cons_append,Nat.zero_add,Nat.reduceAdd]at hu
   have U:=Aa hu
   clear hu hl hR e2
   go_wp2_with fail
   go_ret3
   obtain⟨_,_,_,_,_,_,_,_,_,_,_,u11,u12,_⟩:=U.o
   rw[HQ.o]
   refine⟨⟨b,?_,?_⟩,Hb2.o⟩
   ·show Ending.returned (.tuple #[u 10,u 11,u 12])=_
    rw[e10,u11,u12]
   rw[Vu,HK.o]
   exact E2.o.mono fun c hc _=>Nat.le_trans Hb1.o.size hc
  have hq2:q=none:=by rw[hq,if_neg fun e=>hc (.inl e),if_neg fun e=>hc (.inr e)]
  have HQ:=Aa hq2
  have k1:(1:Int)<(c.toNat:Int):=by
   have a:c.toNat≠0:=fun e=>hc (.inl (UInt8.toNat_inj.1 e))
   have b:c.toNat≠1:=fun e=>hc (.inr (UInt8.toNat_inj.1 e))
   omega
  clear hq hs0 hb hne hkd hc hq2
  go_enter func178,ntmps178
  go_wp2_with fail
  go_ret3
  exact .no HQ.o rfl ((Aq _ _).alloc (Al _) _)
def SgC(w0:World)(S:List Ty)(xv:Value)(k:Kd)(d:Nat):Prop:=
 ∀(s:List UInt8) (w:World),Below w0.heap.size w0 w->s.length<=999->Calls prog 178 #[.agg #[xv],.string ⟨s.toArray⟩,.string ⟨(Be k).toArray⟩,.int .i64 (d:Int)] w (Bc S k (E9 S d k s) w)
def Qcn(S:List Ty)(k:Kd)(o:Option Vl)(w:World)(e:Ending)(w':World):Prop:=
 (match o with
  |some v=>∃b,e=.returned (.tuple #[.pointer (some ⟨b,0,none⟩),.bool true])/\En (fun c=>w.heap.size<=c) w' b (Bt S k v)
  |none=>∃(q:Option Addr),e=.returned (.tuple #[.pointer q,.bool false]))/\Below w.heap.size w w'
theorem Se(w0:World)(S:List Ty)(xv:Value)(hxv:xv.oneCell'=true)(k:Kd)(d:Nat)(H:SgC w0 S xv k d)(s:List UInt8)(w:World)(hw:Below w0.heap.size w0 w)(hs:s.length<=999)(q:Option Vl)(hq:q=Cg (E9 S d k) s):
  Calls prog 126 #[.agg #[xv],.string ⟨s.toArray⟩,.string ⟨(Be k).toArray⟩,.int .i64 (d:Int)] w (Qcn S k q w):=by
 have HC:=Aa (fun W (hW:Below w.heap.size w W)=>H s W (hw.trans (hW.mono hw.size)) hs)
 unfold Cg at hq
 have HQ:=Aa hq
 clear H hq
 generalize E9 S d k s=o at *
 have hb1:=Aa (show Below w.heap.size w (w.alloc (.cells #[xv] 79))from(Aq _ _).alloc (Al _) _)
 go_enter func126,ntmps126
 go_wp2_with fail
 refine(HC.o _ hb1.o).mono ?_
 rintro e w2 ⟨ho,hb2⟩
 have Hb2:=Aa (hb1.o.trans (hb2.mono (by simp)))
 cases o with
 |none=>
  obtain⟨qa,r,rfl⟩:=ho
  clear hb2
  go_wp2_with fail
  go_ret2
  rw[HQ.o]
  exact⟨⟨qa,rfl⟩,Hb2.o⟩
 |some y=>
  obtain⟨v,r⟩:=y
  obtain⟨b,rfl,hv⟩:=ho
  have HV:=Aa (hv.mono (Q:=fun c=>w.heap.size<=c) fun c hc _=>by simp at hc;omega)
  clear hb2 hv
  cases r with
  |nil=>
   go_wp2_with fail
   go_ret2
   rw[HQ.o]
   exact⟨⟨b,rfl,HV.o⟩,Hb2.o⟩
  |cons c r=>
   go_wp2_with fail
   go_ret2
   rw[HQ.o]
   exact⟨⟨_,rfl⟩,Hb2.o⟩
end
end Go.Proofs.YtmmhmlmfhpfgbaaGreatDoor
