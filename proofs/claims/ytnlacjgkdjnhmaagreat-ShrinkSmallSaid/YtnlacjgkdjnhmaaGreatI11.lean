/-
  F4 J25: parts of a proof, joined by program.
-/
import Derived.Test.YtnlacjgkdjnhmaaGreatI10
import Derived.Test.YtnlacjgkdjnhmaaGreatRows
import Derived.ProofKit
namespace Go.Sy.YtnlacjgkdjnhmaaGreat
open Go.Proofs
attribute [local irreducible] Go.Sy.G Go.Sy.DR
set_option maxRecDepth 100000
set_option maxHeartbeats 4000000
def stB (x y:StepM):Bool:=decide (x.kind=y.kind) && decide (x.port=y.port) && decide (x.domain=y.domain) && decide (x.at_=y.at_) && decide (x.bytes=y.bytes) && decide (x.up=y.up)
theorem All (x y:StepM):stB x y=true↔x=y:=by
 unfold stB
 simp only[Bool.and_eq_true,decide_eq_true_eq]
 constructor
 ·intro h
  obtain ⟨a,b,c,d,e,f⟩:=x
  obtain ⟨a',b',c',d',e',f'⟩:=y
  simp_all
 ·rintro rfl;simp
theorem Aku {a b:List UInt8} (h:((⟨a.toArray⟩:ByteArray) == ⟨b.toArray⟩)=true):a=b:=by
 have:=eq_of_beq (α:=Array UInt8) h
 simpa using this
theorem Akv {a b:List UInt8} (h:(!((⟨a.toArray⟩:ByteArray) == ⟨b.toArray⟩))=true):a≠b:=fun e=>by
 subst e;rw[Acj]at h;cases h
def stL (x:StepM):List SV:=[Aa x.kind,Aa x.port,Aa x.domain,Aa x.at_,.sl 1 Ak x.bytes,.sl 1 Ad x.up]
theorem Aln (x y:StepM) (hx:x.up.length<100000):Sy.Spec Tryz.prog 9 [Bg x,Bg y] [] (Ad (stB x y)) []:=Ab Γ hm 100 F9 Tryz.ntmps9 rfl fun F hF=>by
 have hres:=stB.eq_1 x y
 generalize stB x y=res at *
 refine T ?_
 by_cases h1:x.kind=y.kind
 rotate_left
 ·rw[decide_eq_false h1]at hres
  simp only[Bool.false_and]at hres
  subst hres
  refine⟨fun h=>?_,fun h=>absurd (by simpa using h) h1⟩
  refine T ?_
  exact D
 rw[decide_eq_true h1,Bool.true_and]at hres
 refine⟨fun h=>absurd h1 (by simpa using h),fun h=>?_⟩
 clear h
 refine T ?_
 by_cases h2:x.port=y.port
 rotate_left
 ·rw[decide_eq_false h2]at hres
  simp only[Bool.false_and]at hres
  subst hres
  refine⟨fun h=>?_,fun h=>absurd (by simpa using h) h2⟩
  refine T ?_
  exact D
 rw[decide_eq_true h2,Bool.true_and]at hres
 refine⟨fun h=>absurd h2 (by simpa using h),fun h=>?_⟩
 clear h
 refine T ?_
 by_cases h3:x.domain=y.domain
 rotate_left
 ·rw[decide_eq_false h3]at hres
  simp only[Bool.false_and]at hres
  subst hres
  refine⟨fun h=>?_,fun h=>absurd (by simpa using h) h3⟩
  refine T ?_
  exact D
 rw[decide_eq_true h3,Bool.true_and]at hres
 refine⟨fun h=>absurd h3 (by simpa using h),fun h=>?_⟩
 clear h
 refine T ?_
 by_cases h4:x.at_=y.at_
 rotate_left
 ·rw[decide_eq_false h4]at hres
  simp only[Bool.false_and]at hres
  subst hres
  refine⟨fun h=>?_,fun h=>absurd (by simpa using h) h4⟩
  refine T ?_
  exact D
 rw[decide_eq_true h4,Bool.true_and]at hres
 refine⟨fun h=>absurd h4 (by simpa using h),fun h=>?_⟩
 clear h
 refine T ?_
 refine X (H3 Γ.toTy (bs:=x.bytes) E E E E E E E .sl) ?_
 refine X (H3 Γ.toTy (bs:=y.bytes) E E E E E E E .sl) ?_
 refine⟨fun h=>?_,fun h=>?_⟩
 ·rw[decide_eq_false (Akv h)]at hres
  simp only[Bool.false_and]at hres
  subst hres
  refine T ?_
  exact D
 rw[decide_eq_true (Aku (by simpa using h)),Bool.true_and]at hres
 clear h
 refine T ?_
 by_cases h6:x.up.length=y.up.length
 rotate_left
 ·rw[decide_eq_false (fun e=>h6 (by rw[e]))]at hres
  subst hres
  refine⟨fun h=>?_,fun h=>absurd (by simp at h;omega) h6⟩
  refine T ?_
  exact D
 refine⟨fun h=>absurd h6 (by simp at h;omega),fun h=>?_⟩
 clear h
 refine T ?_
 refine Bc x.up.length (fun j=>Dy (fun i b=>decide (y.up[i]? = some b)) x.up j) (fun j=>[(2,.ptr 2 0),(3,.ptr 3 0),(52,Aa x.up.length),(53,Aa j)]) (fun _=>[(2,.box (stL x)),(3,.box (stL y))]) [] (Bd _ _) U ?_
 intro j hj hI
 refine T ?_
 refine⟨fun h=>?_,fun h=>?_⟩
 ·have hlt:j<x.up.length:=by have:=of_decide_eq_true h;omega
  have hj0:((j:Nat):Int).toNat<x.up.length:=by simpa using hlt
  have hj1:((j:Nat):Int).toNat<y.up.length:=by omega
  have hnx:=fun h=>Ba (p:=fun i b=>decide (y.up[i]? = some b)) hI hlt h
  obtain ⟨a,ha⟩:∃ a,x.up[((j:Nat):Int).toNat]'hj0=a:=⟨_,rfl⟩
  obtain ⟨b,hb⟩:∃ b,y.up[((j:Nat):Int).toNat]'hj1=b:=⟨_,rfl⟩
  have ha':x.up[j]=a:=ha
  have hb':y.up[j]? = some b:=by rw[List.getElem?_eq_getElem qn];exact congrArg some hb
  have hbad:¬ b=a→¬ x.up=y.up:=fun hn e=>hn (by
   have h7:x.up[j]? = some a:=by rw[List.getElem?_eq_getElem hlt,ha']
   rw[e,hb']at h7
   exact Option.some.inj h7)
  rw[ha',hb']at hnx
  clear h
  refine S ?_
  refine⟨E,by omega,hj0,?_⟩
  rw[ha]
  refine S ?_
  refine⟨E,by omega,hj1,?_⟩
  rw[hb]
  by_cases hab:b=a
  ·have hI2:=hnx (by rw[hab];exact decide_eq_true rfl)
   subst hab
   refine T ?_
   refine A9 [] hI hlt hI2 ?_
   exact U
  ·rw[decide_eq_false (hbad hab)]at hres
   subst hres
   refine T ?_
   refine⟨fun h=>?_,fun h=>absurd (by simpa using h) (fun e:a=b=>hab e.symm)⟩
   refine T ?_
   exact D
 ·have he:x.up=y.up:=by
   have hjj:x.up.length≤j:=by have:=of_decide_eq_false h;omega
   refine List.ext_getElem h6 fun i hi hi2=>?_
   have:=of_decide_eq_true (hI i hi qn)
   rw[List.getElem?_eq_getElem hi2]at this
   exact(Option.some.inj this).symm
  rw[decide_eq_true he]at hres
  subst hres
  refine T ?_
  exact D
def Qo:List UInt8:=[255,255,255,255,255,255,0,0,0,0,0,1,136,181]
def scrA45:List StepM:=[⟨1,0,0,0,Qo,[]⟩,⟨4,0,0,0,[],[]⟩,⟨2,0,0,0,[],[]⟩]
def scrB45:List StepM:=[⟨1,0,0,0,Qo,[]⟩,⟨2,0,0,0,[],[]⟩]
theorem Ail:smallT netW33 [0,1] [] scrA45=([⟨1,0,0,0,Qo,[]⟩,⟨2,0,0,0,[],[]⟩],0):=by kernel_rfl
theorem Agg:smallT netW33 [0,0] [] scrB45=([],31):=by kernel_rfl
theorem scriptA45:ScriptOK scrA45∧∀ x∈scrA45,x.up.length<100000:=by
 refine⟨⟨by decide,fun x hx=>?_⟩,fun x hx=>?_⟩
 all_goals
  simp only[scrA45,List.mem_cons,List.not_mem_nil,or_false]at hx
  rcases hx with rfl | rfl | rfl<;>decide
theorem scriptB45:ScriptOK scrB45∧∀ x∈scrB45,x.up.length<100000:=by
 refine⟨⟨by decide,fun x hx=>?_⟩,fun x hx=>?_⟩
 all_goals
  simp only[scrB45,List.mem_cons,List.not_mem_nil,or_false]at hx
  rcases hx with rfl | rfl<;>decide
theorem Ah1:Sy.Spec Tryz.prog 4 [] [] (Ad true) []:=Ab Γ hm 100 F4 Tryz.ntmps4 rfl fun F hF=>by
 have q1:=Hs netW33 Akh Ajo [0,1] [] Aai scrA45 scriptA45.1 scriptA45.2
 have q2:=Hs netW33 Akh Ajo [0,0] [] Aai scrB45 scriptB45.1 scriptB45.2
 rw[Ail]at q1
 rw[Agg]at q2
 have q1:=q1.view (A':=[Aq netW33,.sl 1 Aa [0,1],.val (.slice none 0 0),.sl 6 Bg scrA45]) fun κ w=>Jr (fun _ h=>h) (Jr (fun _ h=>h) (Jr (fun _=>Yh) (fun _ h=>h)))
 have q2:=q2.view (A':=[Aq netW33,.sl 1 Aa [0,0],.val (.slice none 0 0),.sl 6 Bg scrB45]) fun κ w=>Jr (fun _ h=>h) (Jr (fun _ h=>h) (Jr (fun _=>Yh) (fun _ h=>h)))
 refine T ?_
 refine Ea 8 A1 netW33.devices E E ?_
 refine Au 8 E ?_
 refine Sq 11 (netW33.ports.map A3) E (.cons (.agg (.cons (.refl _) (.cons (.refl _) (.cons (.refl _) (.cons (.refl _) (.cons (.refl _) (.cons (.refl _) (.cons .nil .nil)))))))) (.cons (.agg (.cons (.refl _) (.cons (.refl _) (.cons (.refl _) (.cons (.refl _) (.cons (.refl _) (.cons (.refl _) (.cons .nil .nil)))))))) .nil)) E ?_
 refine Ea 11 A3 netW33.ports E E ?_
 refine Au 11 E ?_
 refine Sq 13 (netW33.domains.map As) E (.cons (.agg (.cons (.refl _) (.cons (.refl _) (.cons (.refl _) (.cons (.refl _) (.cons (.refl _) (.cons .nil .nil))))))) .nil) E ?_
 refine Ea 13 As netW33.domains E E ?_
 refine Au 13 E ?_
 refine A0 1 (Aa9 netW33) E (.cons (.refl _) (.cons (.refl _) (.cons .nil (.cons (.refl _) (.cons .nil (.cons .nil (.cons .nil (.cons .nil .nil)))))))) ?_
 refine Ea 15 Ak Qo E E ?_
 refine Au 15 E ?_
 refine T ?_
 refine Ea 18 Aa [0,1] E E ?_
 refine Au 18 E ?_
 refine Sq 23 (scrA45.map Bg) E (.cons (.agg (.cons (.refl _) (.cons (.refl _) (.cons (.refl _) (.cons (.refl _) (.cons (.refl _) (.cons .nil .nil))))))) (.cons (.agg (.cons (.refl _) (.cons (.refl _) (.cons (.refl _) (.cons (.refl _) (.cons .nil (.cons .nil .nil))))))) (.cons (.agg (.cons (.refl _) (.cons (.refl _) (.cons (.refl _) (.cons (.refl _) (.cons .nil (.cons .nil .nil))))))) .nil))) E ?_
 refine Ea 23 Bg scrA45 E E ?_
 refine Au 23 E ?_
 refine G_vw 17 (Aq netW33) (.agg (.cons (.refl _) (.cons (.refl _) (.cons .nil (.cons (.refl _) (.cons .nil (.cons .nil (.cons .nil (.cons .nil .nil))))))))) ?_
 refine C q1 F7 ?_
 refine Ea 29 Aa [0,0] E E ?_
 refine Au 29 E ?_
 refine Sq 33 (scrB45.map Bg) E (.cons (.agg (.cons (.refl _) (.cons (.refl _) (.cons (.refl _) (.cons (.refl _) (.cons (.refl _) (.cons .nil .nil))))))) (.cons (.agg (.cons (.refl _) (.cons (.refl _) (.cons (.refl _) (.cons (.refl _) (.cons .nil (.cons .nil .nil))))))) .nil)) E ?_
 refine Ea 33 Bg scrB45 E E ?_
 refine Au 33 E ?_
 refine C q2 F7 ?_
 exact D
theorem Ts (n:Net) (hin:n.In) (of:List Int) (tabs:List (List EntryM)) (htabs:Aev tabs) (l:List StepM) :
  Sy.Spec Tryz.prog 3 [Aq n,.sl 1 Aa of,.sl 1 D5 tabs,.sl 6 Bg l] [] (Ad true) []:=Ab Γ hm 100 F3 Tryz.ntmps3 rfl fun F hF=>by
 have hm1:=Ag3 hin
 refine T ?_
 refine C Ah1 F4 ?_
 have q1:=Aj6 n tabs l
 cases hg:great34B n tabs l
 rotate_left
 ·rw[hg]at q1
  refine C q1 F5 ?_
  exact D
 rw[hg]at q1
 have hgf:=W2 hg
 have hn:=Zj hgf.1
 have hf:=W3 hgf.2.1
 have hsc:ScriptOK l:=⟨hf.1,fun x hx=>(hf.2 x hx).1⟩
 have hu:∀ x∈l,x.up.length<100000:=fun x hx=>by have:=(hf.2 x hx).2;omega
 have ht:TabsOK tabs:=⟨hgf.2.2.1,hgf.2.2.2,htabs⟩
 have hlen:=hsc.few
 refine C q1 F5 ?_
 refine⟨fun h=>?_,fun h=>?_⟩
 ·refine T ?_
  exact D
 clear h
 refine T ?_
 refine⟨fun h=>?_,fun h=>?_⟩
 ·refine T ?_
  exact D
 clear h q1 hf hgf hg
 have q1:=Un n hn hm1 of tabs ht l hsc
 have q2:=Hs n hn hm1 of tabs ht l hsc hu
 have q3:=Kt n hn hm1 of tabs ht l hsc
 have r2:=smallT.eq_1 n of tabs l
 have hb:=crossB.eq_1 n of tabs l
 have hok:=Q9 (crossB n of tabs) (l.length+1) l qn
 have hall:=Agf (crossB n of tabs) (l.length+1) l qn
 obtain ⟨c1,c2,c3⟩:∃ c1 c2,crossesT n of tabs l=(c1,c2,(crossesT n of tabs l).2.2):=⟨_,_,rfl⟩
 rw[c3]at q1
 dsimp only at q1
 rw[← hb]at q1
 cases hp:crossB n of tabs l
 ·have hmn:Wz (crossB n of tabs) l=false:=by unfold Wz;rw[hp];rfl
  rw[hp]at q1 r2
  rw[if_neg qy]at r2
  rw[r2]at q2
  rw[hmn]at q3
  refine T ?_
  refine C q1 F6 ?_
  refine C q2 F7 ?_
  refine C q3 F8 ?_
  exact D
 obtain ⟨hsub,hmin⟩:=hok hp
 have hall:=hall hp
 rw[hp]at q1 r2
 rw[if_pos rfl]at r2
 rw[r2]at q2
 rw[hall]at q3
 have hsmall:Dr (crossB n of tabs) ((Dr (crossB n of tabs) (l.length+1) l).length+1) (Dr (crossB n of tabs) (l.length+1) l)=Dr (crossB n of tabs) (l.length+1) l:=Ul _ _ _ hmin
 have hgr:=Kb (Dr (crossB n of tabs) (l.length+1) l) l 0 (Nat.zero_le _) hsub
 generalize Dr (crossB n of tabs) (l.length+1) l=r at *
 have hr:=Jx hsc hsub
 have hur:∀ x∈r,x.up.length<100000:=fun x hx=>hu x (hsub.subset hx)
 have q4:=Hs n hn hm1 of tabs ht r hr hur
 have q5:=Kt n hn hm1 of tabs ht r hr
 have r4:=smallT.eq_1 n of tabs r
 rw[if_pos ((Vh _ _).1 hmin).1,hsmall]at r4
 rw[r4]at q4
 rw[hmin]at q5
 have hrl:=hsub.length_le
 refine T ?_
 refine C q1 F6 ?_
 refine C q2 F7 ?_
 refine C q4 F7 ?_
 have hkb:=fun j=>Si r (l.take j) 0 (Nat.zero_le _)
 have hks:=Abw r l 0
 refine A2 l.length (fun j=>[(1,.sl 1 Aa of),(2,.sl 1 D5 tabs),(3,.sl 6 Bg l),(4,.ptr 4 0),(12,.sl 6 Bg r),(14,.sl 6 Bg r),(15,Aa 0),(16,Aa (Eu r (l.take j) 0:Nat)),(77,.sl 6 Bg l),(78,Aa l.length),(79,Aa j)]) (fun _=>[(4,.box (Aa9 n))]) [] U ?_
 intro j hj
 refine T ?_
 refine⟨fun h=>?_,fun h=>?_⟩
 ·have hlt:j<l.length:=by have:=of_decide_eq_true h;omega
  have hj0:((j:Nat):Int).toNat<l.length:=by simpa using hlt
  obtain ⟨x,hoo⟩:∃ x,l[j]=x:=⟨_,rfl⟩
  have e1:l[((j:Nat):Int).toNat]'hj0=x:=hoo
  have hks:=hks j hlt
  have hkb:=hkb j
  rw[hoo]at hks
  have hxm:x∈l:=by rw[← hoo];exact List.getElem_mem hlt
  have hxu:=hu x hxm
  generalize Eu r (l.take j) 0=k at *
  rw[K7]at hks
  clear h
  refine S ?_
  refine⟨E,by omega,hj0,?_⟩
  rw[e1]
  refine T ?_
  refine⟨fun h=>?_,fun h=>?_⟩
  rotate_left
  ·rw[if_neg (fun e=>by have:=(List.getElem?_eq_some_iff.1 e).1;have:=of_decide_eq_false h;omega)]at hks
   refine T ?_
   refine Av [] hlt ⟨⟨E,E,E,E,E,E,E,E,E,E,E,E,E,E,congrArg (fun z:Nat=>Aa z) hks,E,E,E,E,E,E,E,Y⟩,⟨.inl E,E,Y⟩,E,E⟩
  have hk:k<r.length:=by have:=of_decide_eq_true h;omega
  have hk0:((k:Nat):Int).toNat<r.length:=by omega
  obtain ⟨y,hy⟩:∃ y,r[((k:Nat):Int).toNat]'hk0=y:=⟨_,rfl⟩
  have hy':r[k]=y:=hy
  have q6:=Aln x y hxu
  clear h
  refine S ?_
  refine⟨E,by omega,hk0,?_⟩
  rw[hy]
  have hst:=All x y
  have hke:r[k]? = some y:=by rw[List.getElem?_eq_getElem hk,hy']
  rw[hke]at hks
  generalize stB x y=b at *
  refine T ?_
  refine C q6 F9 ?_
  cases b
  ·rw[if_neg (fun e=>by have:=hst.2 (Option.some.inj e).symm;cases this)]at hks
   refine T ?_
   refine Av [] hlt ⟨⟨E,E,E,E,E,E,E,E,E,E,E,E,E,E,congrArg (fun z:Nat=>Aa z) hks,E,E,E,E,E,E,E,Y⟩,⟨.inl E,E,Y⟩,E,E⟩
  ·rw[if_pos (congrArg some (hst.1 rfl).symm)]at hks
   refine T ?_
   refine Av [] hlt ⟨⟨E,E,E,E,E,E,E,E,E,E,E,E,E,E,congrArg (fun z:Nat=>Aa z) hks,E,E,E,E,E,E,E,Y⟩,⟨.inl E,E,Y⟩,E,E⟩
 ·have hjj:j=l.length:=by have:=of_decide_eq_false h;omega
  subst hjj
  rw[List.take_length,hgr]
  refine T ?_
  refine C q5 F8 ?_
  refine C q3 F8 ?_
  refine Ac E (.cons .tmp .nil) ?_ E
  refine congrArg Ad ?_
  by_cases he:r.length=l.length
  ·rw[decide_eq_true he,he];simp
  ·rw[decide_eq_false he,show ((r.length:Int) == (l.length:Int))=false from beq_eq_false_iff_ne.2 (fun h=>he qn)];rfl
end Go.Sy.YtnlacjgkdjnhmaaGreat
namespace Go.Proofs.YtnlacjgkdjnhmaaGreat
open Go.ChangeShapes Go.WideShapes Go.ChangeAt Go.RowKit
set_option maxRecDepth 100000
theorem Ma:Tryz.checked.prog.inPlace 3=Rows.shrinkSmallRow.inPlace:=by kernel_rfl
theorem Jw:Tryz.checked.prog.unfollowed 3=Rows.shrinkSmallRow.unfollowed:=by kernel_rfl
theorem Ks:Tryz.checked.prog.recurses 3=Rows.shrinkSmallRow.recurses:=by kernel_rfl
theorem Ot:Tryz.checked.prog.varsNamed 3=Rows.shrinkSmallRow.named:=by kernel_rfl
theorem Sa:Tryz.checked.prog.liftsFinal=Rows.shrinkSmallRow.lifted:=by kernel_rfl
theorem L9:laidOutB Tryz.checked.prog=true:=by kernel_rfl
theorem Ow:Tryz.checked.prog.mayEnter=true:=by kernel_rfl
theorem Ou:Tryz.checked.prog.stopsHeard=true:=by kernel_rfl
theorem Ov:joinedFacts Tryz.checked.prog 3 Tryz.f3 Rows.shrinkSmallSpec Rows.shrinkSmallRow=true:=by
 unfold joinedFacts
 rw[Ma,Jw,Ks,Ot,Sa,L9,Ow,Ou]
 kernel_rfl
end Go.Proofs.YtnlacjgkdjnhmaaGreat
