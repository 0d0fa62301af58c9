/-
  A part of the proof: two abstract machines for the code, and what the program does on them. No condition.
-/
import Derived.Test.YtklekjmebeadoaaGreatDoorArbN
set_option linter.all false
namespace au
open Go al
theorem ER:∃L,Ev (al.get bT.fS) (au.get bT.fB) 424 [] .nil 17 (.bI true,bu L .nil,15938)/\∀p ∈ L,4*17<=p.1/\p.1<4*15938:=by
 have h1:=jT bT.ns (λo ho=>by cases ho) KQ;have h2:=jT bT.ns (λo ho=>by cases ho) KR;have h3:=jT bT.ns (λo ho=>by
  rcases List.mem_cons.1 ho with rfl | ho
  ·exact h1
  ·rw[List.mem_singleton]at ho;subst ho;exact h2) KS
 exact qS bT.ns (λo ho=>by rw[List.mem_singleton]at ho;subst ho;exact h3) KT
theorem ES:∃L,Ev (al.get bT.fS) (au.get bT.fB) 424 [] .nil 15940 (.bI true,bu L .nil,31861)/\∀p ∈ L,4*15940<=p.1/\p.1<4*31861:=by
 have h1:=jT bT.ns (λo ho=>by cases ho) KU;have h2:=jT bT.ns (λo ho=>by cases ho) KV;have h3:=jT bT.ns (λo ho=>by
  rcases List.mem_cons.1 ho with rfl | ho
  ·exact h1
  ·rw[List.mem_singleton]at ho;subst ho;exact h2) KW
 exact qS bT.ns (λo ho=>by rw[List.mem_singleton]at ho;subst ho;exact h3) KX
theorem ET:∃L,Ev (al.get bT.fS) (au.get bT.fB) 424 [] .nil 15984 (.bI true,bu L .nil,31905)/\∀p ∈ L,4*15984<=p.1/\p.1<4*31905:=by
 have h1:=jT bT.ns (λo ho=>by cases ho) KY;have h2:=jT bT.ns (λo ho=>by cases ho) KZ;have h3:=jT bT.ns (λo ho=>by
  rcases List.mem_cons.1 ho with rfl | ho
  ·exact h1
  ·rw[List.mem_singleton]at ho;subst ho;exact h2) K0
 exact qS bT.ns (λo ho=>by rw[List.mem_singleton]at ho;subst ho;exact h3) La
theorem vS:∃h n,2<=n/\Ev (al.get bT.fS) (au.get bT.fB) 424 [] .nil 17 (.bI true,h,n)/\(∀i,i<68\/4*n<=i->get h i=none)/\∀c,c=n+2\/c=n+46->∃h2 n2,Ev (al.get bT.fS) (au.get bT.fB) 424 [] h c (.bI true,h2,n2)/\∀i,i<68\/4*n<=i/\i<4*c->get h2 i=none:=by
 obtain⟨L,e,hL⟩:=ER;obtain⟨L1,e1,Lb⟩:=ES;obtain⟨L2,e2,wA⟩:=ET;refine⟨_,_,by decide,e,λi hi=>qk λp hp=>by have:=hL p hp;omega,λc hc=>?_⟩;rcases hc with rfl | rfl
 ·exact⟨_,_,vI bT.xK e1 hL Lb (by decide) (by decide)⟩
 ·exact⟨_,_,vI bT.xK e2 hL wA (by decide) (by decide)⟩
theorem tA {x:AV} (h:xD true xQ x):∃n p,c6 (al.get bT.fS) (au.get bT.fB) n 428 [x] .nil 1=some (.bI true,p):=by
 obtain⟨o,rfl,ho⟩:=EP h;exact tz bT.ns bT.xK rfl rfl rfl rfl rfl rfl rfl rfl
  { Ee:=rfl,Ef:=rfl,Eg:=rfl,Eh:=rfl,Ei:=rfl,Ej:=rfl,Ek:=rfl,El:=rfl,Em:=rfl,Eo:=rfl,Ep:=rfl,Er:=rfl,Es:=rfl,Et:=rfl } vS o ho
end au
