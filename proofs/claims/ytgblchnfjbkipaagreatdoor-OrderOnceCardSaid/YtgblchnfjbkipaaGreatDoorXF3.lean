/-
  N1 Sy20 Sy21 Sy23 O1 I1 I2 I3 I4 N2 N3 N4 N5 N6 N7 N8 N9 N10 N11 V1 I5 O6 Sy25 Sy26 Sy27 Sy28 Sh E1 E2 A2 E3 E4 Sy29 B0 D1 E36 E37 E5 E6 M12 M13 M14 V2 V3 V4 V5 X1 D2 M1 M2: parts of a proof, joined by program.
-/
import Derived.Test.YtgblchnfjbkipaaGreatDoorXF2
import Derived.ProofKit
import Derived.OpenShut
import Derived.Test.YtgblchnfjbkipaaGreatDoorXF1
import Derived.ChangeKeysEq
import Derived.Below
import Derived.Lib.Join
import Derived.Shelf.Strings.OnBuilder
import Derived.Shelf.Strings.Search1
import Derived.Shelf.Strings.Search2
import Derived.Shelf.Strings.Search3
import Derived.Shelf.Strings.Cut
import Derived.Shelf.Strings.Prefix
import Derived.Test.YtgblchnfjbkipaaGreatDoorProg
namespace Go.Sy.YtgblchnfjbkipaaGreatDoor
open Go.Proofs
structure Device where
 (row prio:Int) (name:ByteArray) (mac vtep:Int)
structure Port where
 (row dev native cost link:Int) (name:ByteArray) (tagged:List Int)
structure Link where
 (row a b:Int)
structure Domain where
 (dev vlan vni irb row:Int) (peers:List Int)
structure Static where
 (row domain port mac:Int)
structure Flood where
 (row dev vni:Int) (addrs:List Int)
structure Vrf where
 (row dev:Int) (name:ByteArray) (imports exports:List Int)
structure Irb where
 (row domain vrf addr bits:Int)
structure Net where
 (devices:List Device) (ports:List Port) (links:List Link) (domains:List Domain) (statics:List Static) (floods:List Flood) (vrfs:List Vrf) (irbs:List Irb)
instance:Inhabited Device:=⟨⟨0,0,.empty,0,0⟩⟩
instance:Inhabited Port:=⟨⟨0,0,0,0,0,.empty,[]⟩⟩
instance:Inhabited Link:=⟨⟨0,0,0⟩⟩
instance:Inhabited Domain:=⟨⟨0,0,0,0,0,[]⟩⟩
instance:Inhabited Static:=⟨⟨0,0,0,0⟩⟩
instance:Inhabited Flood:=⟨⟨0,0,0,[]⟩⟩
instance:Inhabited Vrf:=⟨⟨0,0,.empty,[],[]⟩⟩
instance:Inhabited Irb:=⟨⟨0,0,0,0,0⟩⟩
def inB (l:List Int) (x:Int):Bool:=l.any (· == x)
def nth {α:Type} [Inhabited α] (l:List α) (i:Int):α:=(l[i.toNat]?).getD default
theorem Aat {α:Type} [Inhabited α] {l:List α} {i:Int} (h:i.toNat<l.length):nth l i=l[i.toNat]:=by
 simp[nth,h]
def Xl {α:Type} (p:α→Bool) (l:List α):Int:=match l.findIdx? p with | some i=>(i:Int) | none=>-1
theorem Xk {α:Type} {p:α→Bool} {l:List α} {j:Nat} (h:j<l.length) (h1:∀ i (hi:i<l.length),i<j→p l[i]=false) (h2:p l[j]=true):Xl p l=j:=by
 have:l.findIdx? p=some j:=by
  rw[List.findIdx?_eq_some_iff_getElem]
  exact⟨h,h2,fun i hi=>by simp[h1 i j_ hi]⟩
 simp[Xl,this]
theorem Zl {α:Type} {p:α→Bool} {l:List α} (h1:∀ i (hi:i<l.length),p l[i]=false):Xl p l=-1:=by
 have:l.findIdx? p=none:=by
  rw[List.findIdx?_eq_none_iff]
  intro x hx
  obtain ⟨i,hi,rfl⟩:=List.mem_iff_getElem.1 hx
  exact h1 i hi
 simp[Xl,this]
theorem Aa8 {α:Type} (p:α→Bool) (l:List α):decide (0≤Xl p l)=l.any p:=by
 unfold Xl
 split
 ·rename_i i h
  rw[List.findIdx?_eq_some_iff_getElem]at h
  obtain ⟨h,h2,_⟩:=h
  have:l.any p=true:=List.any_eq_true.2 ⟨_,List.getElem_mem h,h2⟩
  rw[this]
  simp
 ·rename_i h
  rw[List.findIdx?_eq_none_iff]at h
  have:l.any p=false:=by
   rw[List.any_eq_false]
   intro x hx
   simp[h x hx]
  rw[this]
  simp
def Qa {α:Type} (p:Nat→α→Bool) (l:List α):Bool:=l.zipIdx.all fun q=>p q.2 q.1
theorem allB_iff {α:Type} {p:Nat→α→Bool} {l:List α}:Qa p l=true↔∀ i (h:i<l.length),p i l[i]=true:=by
 simp only[Qa,List.all_eq_true]
 constructor
 ·intro h i hi
  exact h (l[i],i) (by rw[List.mk_mem_zipIdx_iff_getElem?];simp[hi])
 ·rintro h ⟨x,i⟩ hx
  rw[List.mk_mem_zipIdx_iff_getElem?]at hx
  obtain ⟨hi,rfl⟩:=List.getElem?_eq_some_iff.1 hx
  exact h i hi
theorem Zv {α:Type} {p:Nat→α→Bool} {l:List α} (h:∀ i (h:i<l.length),p i l[i]=true):Qa p l=true:=allB_iff.2 h
theorem Ev {α:Type} {p:Nat→α→Bool} {l:List α} {i:Nat} (h:i<l.length) (h1:p i l[i]=false):Qa p l=false:=by
 cases hh:Qa p l with
 | false=>rfl
 | true=>have:=allB_iff.1 hh i h;rw[h1]at this;cases this
def Mr {α:Type} (p:Nat→α→Bool) (l:List α) (j:Nat):Prop:=∀ i (h:i<l.length),i<j→p i l[i]=true
theorem Ej {α:Type} (p:Nat→α→Bool) (l:List α):Mr p l 0:=fun i h hj=>absurd hj j_
theorem D2 {α:Type} {p:Nat→α→Bool} {l:List α} {j:Nat} (hI:Mr p l j) (hj:j<l.length) (h:p j l[j]=true):Mr p l (j+1):=by
 intro i hi hij
 rcases Nat.lt_or_ge i j with h1 | h1
 ·exact hI i hi h1
 ·have:i=j:=by omega
  subst this
  exact h
theorem M1 {α:Type} {p:Nat→α→Bool} {l:List α} {j:Nat} (hI:Mr p l j) (hj:l.length≤j):Qa p l=true:=Zv fun i hi=>hI i hi j_
def D0 {α:Type} (l:List α):Prop:=l.length<2147483648
end Go.Sy.YtgblchnfjbkipaaGreatDoor
namespace Go.Sy
theorem Tl (w:World) {b:Nat} {cs:Array Value} {T:TypeId} {fr:Nat × Nat} (h:w.heap[b]? = some (.cells cs T fr)) (n:Nat) :
  (w.freeze ⟨b,n,none⟩ 1).heap[b]? = some (.cells cs T (if fr.1 == fr.2 then (n,n+1) else (min fr.1 n,max fr.2 (n+1))))∧(w.freeze ⟨b,n,none⟩ 1).os=w.os∧(w.freeze ⟨b,n,none⟩ 1).tape=w.tape∧(w.freeze ⟨b,n,none⟩ 1).output=w.output ∧
   (w.freeze ⟨b,n,none⟩ 1).heap.size=w.heap.size∧∀ i,i≠b→(w.freeze ⟨b,n,none⟩ 1).heap[i]? = w.heap[i]?:=by
 unfold World.freeze
 rw[if_neg qc]
 refine⟨?_,q_,q_,q_,by simp,fun i hi=>?_⟩
 ·simp[Array.getElem?_modify,h]
 ·simp[Array.getElem?_modify,Ne.symm hi]
theorem Kx {P:Program} (Γ:Ty P) {o:Oper} {s:SS} {t:TypeId} {ti ei:TI} {x:Operand} {et:TypeId} {sz eb k:Nat} {ez:List Value} {svs:List SV} (h:o.op=.convert t t x)
  (ht:Γ.get t=some ti) (hk:ti.k=.slice et sz eb ez) (he:Γ.get et=some ei) (hek:ei.k=.int .u8) (hx:ev s x=.osl k) (hl:s.h k=.lit sz svs):Good P o s ⟨.osl k,[],[(k,.lit sz svs)]⟩:=by
 intro κ a w hi hr ho N Q hN
 have h1:=hr x (by simp[h,Op.operands])
 have h3:=ho k (.inr (by simp[Up.ws]))
 rw[hl]at h3
 rw[hx]at h1
 obtain ⟨b,cap,cs,T,fr,f1,f2,f3,f4,f5,f6⟩:=h3
 simp only[Rd,f1]at h1
 obtain ⟨hu,_⟩:=Cd Γ ht hk
 have he':=Lg Γ he hek
 obtain ⟨q1,q2,q3,q4,q5,q6⟩:=Tl w f2 cs.length
 have hsh:w.shape? b=some (T,cs.length):=by
  unfold World.shape?
  rw[f2]
  simp
 have hrun:(execOp a.eval o).run P w=.ok (.value (.slice (some ⟨b,0,none⟩) svs.length cap)) (w.freeze ⟨b,cs.length,none⟩ 1):=by
  simp[execOp,h,h1,convert,run_underlying hu,run_underlying he',markStringish,hsh]
 simp only[Oper.wp,hrun,Oper.upon]
 obtain ⟨st,inv⟩:=Hh hi (k:=k) (b:=b) (by rw[f1];rfl) q2 q3 q4 q5 q6
 refine hN _ κ _ (st.weaken (by simp[Up.ws])) inv (by simp[Rd,f1]) (fun p hp=>?_)
 simp only[List.mem_singleton]at hp
 subst hp
 refine⟨b,cap,cs,T,_,f1,q1,?_,f4,f5,fun i x hx=>?_⟩
 ·rcases f3 with h0 | h0
  ·rw[if_pos (by simpa using h0)];exact .inr (Nat.le_refl _)
  ·split
   ·exact .inr (Nat.le_refl _)
   ·exact .inr (by simp only;omega)
 obtain ⟨g0,u,g1,g2,g3,g4⟩:=f6 i x hx
 exact⟨g0,u,RdD.keep st.keeps _ _ g1,g2,g3,g4⟩
end Go.Sy
namespace Go.Sy
open Go.ChangeShapes Go.WideShapes Go.ChangeAt Go.RowKit
def κ0:Ka:=⟨fun _=>.new,fun _=>False⟩
theorem inv0 (w:World):Inv κ0 w :=
 ⟨fun i j b h=>(by cases h),fun k b h=>(by cases h),fun k b h=>(by cases h),fun b h=>False.elim h⟩
theorem K5 {w w':World} {κ':Ka} (c:Ctx ⟨w,κ0,[]⟩ κ' w'):Below w.heap.size w w' :=
 ⟨c.os,c.tape,c.output,c.size,fun k hk=>c.old k hk (fun j h=>by cases h)⟩
section
variable {H:Type} {enc:TypeId × Value→H} {P:Program}
theorem I8 {W W':World} (hl:laidOutB P=true) (hb:Below W.heap.size W W'):∀ {ts:List TypeId} {vs:List Value} {ds:List (DataW H)} {ps:List MemPlace},(∀ t∈ts,P.readableRec t=true∧t<P.types.size) →
  (∀ x∈ps,x.block<W.heap.size)→DataW.TrodAll enc P W 0 (fun _=>true) true ts vs ds ps→DataW.TrodAll enc P W' 0 (fun b=>decide (b<W.heap.size)) true ts vs ds ps
 | [],_,_,_,_,_,h=>by
  obtain ⟨rfl,rfl,rfl⟩:=trodAll_nil h
  rfl
 | t::ts,_,_,_,ht,hp,h=>by
  obtain ⟨v,vs,d,ds,p,q,rfl,rfl,rfl,h1,h2⟩:=trodAll_cons h
  have:=ht t qd
  exact⟨p,q,Below.trod hl this.1 this.2 h1 hb (fun x hx=>hp x (by simp[hx])),I8 hl hb (fun t h=>ht t (by simp[h])) (fun x hx=>hp x (by simp[hx])) h2,q_⟩
theorem Zi {f:FuncId} {fn:Func} {s:ChangeSpec} {W:World} {args:Array Value} {ds gs:List (DataW H)} {before:List MemPlace} {tb:TypeId} {A:List SV} (hv:s.vars=[]) (hl:laidOutB P=true)
  (hW:DataW.Whole enc P fn.params.toList s.vars false W args.toList ds gs before) (hts:∀ t∈fn.params.toList,P.readableRec t=true∧t<P.types.size) (hrt:fn.resultTypes=#[tb]) (hbt:P.underlying tb=some .bool)
  (hfn:∀ gs:List (DataW H),gs=[]→s.fn H (ds++gs)={ results:=[.lit (.bool true)],args:=ds }) (hA:RdL κ0 W A args.toList) (hs:Sy.Spec P f A [] (Af true) []) :
  Calls P f args W fun e W'=>∃ v,e=.returned v∧s.post enc P fn false true false false W args v W':=by
 have hc:=hs κ0 W args.toList (inv0 W) (fun k hk=>absurd rfl hk) hA (fun p hp=>by cases hp)
 simp only[Array.toArray_toList]at hc
 refine hc.mono ?_
 rintro e W' ⟨v,κ',rfl,ctx,inv,hR,_⟩
 have hvv:v=.bool true:=by simpa [Af,Rd] using hR
 subst hvv
 have hb:=K5 ctx
 have hW':=hW
 obtain ⟨p,q,h1,h2,h3,h4,h5⟩:=hW
 have hgs:gs=[]∧q=[]:=by
  rw[hv]at h2
  exact trodVars_none h2
 obtain ⟨rfl,rfl⟩:=hgs
 rw[List.append_nil]at h3
 subst h3
 have hlt:∀ x∈before,x.block<W.heap.size:=fun x hx=>by simpa using hW'.lt x hx
 refine⟨_,rfl,ds,[],before,[],before,[],hW',?_,?_,?_,?_,fun h=>by cases h⟩
 ·rw[hfn [] rfl,hrt]
  exact trodAll_mk1 (shut_bool hbt true)
 ·rw[hfn [] rfl]
  exact I8 hl hb hts hlt h1
 ·rw[hv,hfn [] rfl]
  rfl
 ·exact hb.frame _
end
end Go.Sy
namespace Go.Sy
open Go.ChangeShapes Go.WideShapes Go.ChangeAt Go.RowKit
section
variable {H:Type} (enc:TypeId × Value→H) (P:Program) (W:World)
def Op1 (t:TypeId) {α:Type} (e:α→SV) (p:α→Prop):Prop :=
 ∀ n c y,DataW.trod enc P W 0 (fun _=>true) true n t [c]=some y→∃ x,p x∧Rd κ0 W (e x) c∧c.oneCell'=true
def OpN (t:TypeId) {α:Type} (e:α→SV) (p:α→Prop) (sz:Nat):Prop :=
 ∀ n cs y,DataW.trod enc P W 0 (fun _=>true) true n t cs=some y→∃ x,p x∧cs.length=sz∧Ones cs∧RdL κ0 W (cellsOf (e x)) cs
variable {enc P W}
theorem Ii {t:TypeId} {k:IntKind} (ht:P.underlying t=some (.int k)):Op1 enc P W t (fun z=>.val (.int k z)) (fun z=>(Lit.int k z).wf=true):=fun n c y h=>by
 obtain ⟨z,e,_,hw⟩:=DataW.trod_int ht h
 have e:c=.int k z:=by simpa using e
 subst e
 exact⟨z,hw,by simp[Rd],q_⟩
theorem Ol {t:TypeId} (ht:P.underlying t=some .string):Op1 enc P W t Ac (fun s=>s.size≤maxLen):=fun n c y h=>by
 obtain ⟨z,e,_,hw⟩:=DataW.trod_string ht h
 have e:c=.string z:=by simpa using e
 subst e
 exact⟨z,hw,by simp[Ac,Rd],q_⟩
theorem X7 {t:TypeId} {k:IntKind} (ht:P.underlying t=some (.int k)):OpN enc P W t (fun z=>.val (.int k z)) (fun z=>(Lit.int k z).wf=true) 1:=fun n cs y h=>by
 obtain ⟨z,rfl,_,hw⟩:=DataW.trod_int ht h
 refine⟨z,hw,q_,fun c hc=>by simp at hc;subst hc;rfl,?_⟩
 simp[cellsOf,RdL,Rd]
theorem Si {base:Nat} {a:Addr} {n:Nat} {cs:List Value} (h:W.cells? base a n=some cs):cs.length=n∧∀ j (_:j<n),W.cell? (a.add j)=cs[j]?:=by
 unfold World.cells? at h
 split at h
 ·refine⟨by simpa using mapM_some_length h,fun j hj=>?_⟩
  exact mapM_some_get h j j (by simp[hj])
 ·cases h
theorem Om {t et:TypeId} {α:Type} {e:α→SV} {p:α→Prop} {sz:Nat} (ht:P.underlying t=some (.slice et)) (hsz:P.cellsOf et=sz) (h0:0<sz) (hb:∀ x,(e x).boxed=true) (hd:∀ x,(e x).data=true) (hO:OpN enc P W et e p sz) :
  Op1 enc P W t (fun l:List α=>.sl sz e l) (fun l=>(∀ x∈l,p x)∧l.length≤maxLen):=fun n c y h=>by
 rcases DataW.trod_slice ht h with ⟨hcs,_⟩ | ⟨a,len,cap,elems,rest,m,rfl,hcs,_,_,hlc,hcm,hel,hget,_⟩
 ·have hc:c=.slice none 0 0:=by simpa using hcs
  subst hc
  refine⟨[],⟨by simp,Nat.zero_le _⟩,?_,q_⟩
  simp only[Rd,RdD]
  exact .inl ⟨z_,none,0,q_⟩
 ·have hc:c=.slice (some a) len cap:=by simpa using hcs
  subst hc
  rw[hsz]at hget
  have hall:∀ i:Fin len,∃ x,p x∧∃ cs,W.cells? 0 (a.add (i * sz)) sz=some cs∧cs.length=sz∧Ones cs∧RdL κ0 W (cellsOf (e x)) cs:=fun i=>by
   have h1:=hget i.1 i.2
   rw[List.getElem?_eq_getElem j_]at h1
   obtain ⟨cs,h2,h3⟩:=Option.bind_eq_some_iff.1 h1
   obtain ⟨x,h4,h5,h6,h7⟩:=hO _ _ _ h3
   exact⟨x,h4,cs,h2,h5,h6,h7⟩
  let xs:Fin len→α:=fun i=>Classical.choose (hall i)
  have hxs:∀ i,p (xs i)∧∃ cs,W.cells? 0 (a.add (i.1 * sz)) sz=some cs∧cs.length=sz∧Ones cs∧RdL κ0 W (cellsOf (e (xs i))) cs:=fun i=>Classical.choose_spec (hall i)
  refine⟨List.ofFn xs,⟨fun x hx=>?_,by simp;omega⟩,?_,q_⟩
  ·obtain ⟨i,rfl⟩:=List.mem_ofFn.1 hx
   exact(hxs i).1
  ·simp only[Rd,RdD]
   by_cases hl:len=0
   ·subst hl
    exact .inl ⟨by simp,_,_,q_⟩
   ·have hcell:∀ i:Fin len,∀ j,j<sz→∃ v,W.cell? ((a.add (i.1 * sz)).add j)=some v:=fun i j hj=>by
     obtain ⟨_,cs,h1,h2,_⟩:=hxs i
     have:=(Si h1).2 j hj
     rw[List.getElem?_eq_getElem j_]at this
     exact⟨_,this⟩
    obtain ⟨b,off,spot⟩:=a
    have hspot:spot=none:=by
     obtain ⟨v,hv⟩:=hcell ⟨0,by omega⟩ 0 h0
     simpa [Addr.add] using World.cell?_spot hv
    subst hspot
    have hadd:∀ i j,((⟨b,off,none⟩:Addr).add i).add j=⟨b,off+i+j,none⟩:=fun i j=>by rw[Addr.add_lit,Addr.add_lit]
    refine .inr ⟨b,off,cap,by simp,by simpa using hlc,?_,?_,fun i hi=>?_⟩
    ·rintro (⟨k,hk⟩ | hk)
     ·cases hk
     ·exact hk
    ·obtain ⟨v,hv⟩:=hcell ⟨0,by omega⟩ 0 h0
     rw[hadd]at hv
     rcases Nat.lt_or_ge b W.heap.size with h | h
     ·exact h
     ·simp[World.cell?,Array.getElem?_eq_none h]at hv
    ·simp only[List.length_ofFn]at hi
     obtain ⟨_,cs,h1,h2,h3,h4⟩:=hxs ⟨i,hi⟩
     obtain ⟨u,g1,g2⟩:=Rd.of_cells (hb _) h3 h4
     refine⟨u,?_,?_,by rw[g2];exact h3,fun j hj=>?_⟩
     ·rw[List.getElem_ofFn]
      exact Rd.data _ _ (hd _) g1
     ·have:u.cells.toList.length=sz:=by rw[g2,h2]
      simpa using this
     ·have:=(Si h1).2 j hj
      rw[hadd]at this
      rw[this,← g2]
      simp
end
end Go.Sy
namespace Go.Sy.YtgblchnfjbkipaaGreatDoor
open Go.Proofs Go.ChangeShapes Go.WideShapes Go.ChangeAt Go.RowKit
set_option maxRecDepth 100000
section
variable {H:Type} {enc:TypeId × Value→H} {W:World}
def wI (k:IntKind) (z:Int):Prop:=(Lit.int k z).wf=true
theorem S8:Op1 enc Tryz.prog W 25 (fun l:List Int=>.sl 1 (fun z=>.val (.int .i64 z)) l) (fun l=>(∀ z∈l,wI .i64 z)∧l.length≤maxLen) :=
 Om Tryz.underlying25 (by kernel_rfl:Tryz.prog.cellsOf 3=1) qc (fun _=>rfl) (fun _=>rfl) (X7 Tryz.underlying3)
theorem Ab1:Op1 enc Tryz.prog W 26 (fun l:List Int=>.sl 1 (fun z=>.val (.int .u32 z)) l) (fun l=>(∀ z∈l,wI .u32 z)∧l.length≤maxLen) :=
 Om Tryz.underlying26 (by kernel_rfl:Tryz.prog.cellsOf 24=1) qc (fun _=>rfl) (fun _=>rfl) (X7 Tryz.underlying24)
def Device.In (x:Device):Prop:=wI .i64 x.row∧wI .i64 x.prio∧x.name.size≤maxLen∧wI .u64 x.mac∧wI .u32 x.vtep
def Port.In (x:Port):Prop:=wI .i64 x.row∧wI .i64 x.dev∧wI .i64 x.native∧wI .i64 x.cost∧wI .i64 x.link∧x.name.size≤maxLen∧((∀ z∈x.tagged,wI .i64 z)∧x.tagged.length≤maxLen)
def Link.In (x:Link):Prop:=wI .i64 x.row∧wI .i64 x.a∧wI .i64 x.b
def Domain.In (x:Domain):Prop:=wI .i64 x.dev∧wI .i64 x.vlan∧wI .i64 x.vni∧wI .i64 x.irb∧wI .i64 x.row∧((∀ z∈x.peers,wI .i64 z)∧x.peers.length≤maxLen)
def Static.In (x:Static):Prop:=wI .i64 x.row∧wI .i64 x.domain∧wI .i64 x.port∧wI .u64 x.mac
def Flood.In (x:Flood):Prop:=wI .i64 x.row∧wI .i64 x.dev∧wI .i64 x.vni∧((∀ z∈x.addrs,wI .u32 z)∧x.addrs.length≤maxLen)
def Vrf.In (x:Vrf):Prop:=wI .i64 x.row∧wI .i64 x.dev∧x.name.size≤maxLen∧((∀ z∈x.imports,wI .i64 z)∧x.imports.length≤maxLen)∧((∀ z∈x.exports,wI .i64 z)∧x.exports.length≤maxLen)
def Irb.In (x:Irb):Prop:=wI .i64 x.row∧wI .i64 x.domain∧wI .i64 x.vrf∧wI .u32 x.addr∧wI .i64 x.bits
structure Net.In (n:Net):Prop where
 devices:(∀ x∈n.devices,Device.In x)∧n.devices.length≤maxLen
 ports:(∀ x∈n.ports,Port.In x)∧n.ports.length≤maxLen
 links:(∀ x∈n.links,Link.In x)∧n.links.length≤maxLen
 domains:(∀ x∈n.domains,Domain.In x)∧n.domains.length≤maxLen
 statics:(∀ x∈n.statics,Static.In x)∧n.statics.length≤maxLen
 floods:(∀ x∈n.floods,Flood.In x)∧n.floods.length≤maxLen
 vrfs:(∀ x∈n.vrfs,Vrf.In x)∧n.vrfs.length≤maxLen
 irbs:(∀ x∈n.irbs,Irb.In x)∧n.irbs.length≤maxLen
theorem Aag {t et:TypeId} {α:Type} {e:α→SV} {p:List α→Prop} {sz base:Nat} {v:Value} {d:DataW H} {ps:List MemPlace} (ht:Tryz.prog.underlying t=some (.slice et)) (hO:Op1 enc Tryz.prog W t (fun l:List α=>.sl sz e l) p)
  (hval:Value.okWide Tryz.prog W .any base t v) (h1:DataW.Trod enc Tryz.prog W 0 (fun _=>true) true t v d ps):∃ l,p l∧Rd κ0 W (.sl sz e l) v:=by
 obtain ⟨a,len,cap,rfl⟩:=okWide_slice ht hval
 obtain ⟨fuel,hf⟩:=h1
 obtain ⟨x,h1,h2,_⟩:=hO _ _ _ hf
 exact⟨x,h1,h2⟩
end
end Go.Sy.YtgblchnfjbkipaaGreatDoor
namespace Go.Sy.YtgblchnfjbkipaaGreatDoor
section
variable {α:Type}
structure Ordy (lt:α→α→Bool):Prop where
 ne:∀ x,lt x x=false
 asy:∀ x y,lt x y=true→lt y x=false
 tr:∀ x y z,lt x y=true→lt z y=false→lt x z=true
 tl:∀ x y z,lt y x=false→lt y z=true→lt x z=true
def Srt (lt:α→α→Bool) (l:List α):Prop:=l.Pairwise fun x y=>lt y x=false
def Aq (lt:α→α→Bool):List α→List α→List α
 | [],r=>r
 | x::l,[]=>x::l
 | x::l,y::r=>if lt y x=true then y::Aq lt (x::l) r else x::Aq lt l (y::r)
termination_by l r=>l.length+r.length
theorem Bu (lt:α→α→Bool) (l:List α):Aq lt l []=l:=by
 cases l<;>simp[Aq]
theorem Bb (lt:α→α→Bool) (r:List α):Aq lt [] r=r:=by
 rw[Aq]
theorem B3 (lt:α→α→Bool):∀ (L1 R1 L2 R2:List α),(∀ x∈L2,∀ y∈R1,lt y x=true)→(∀ x∈L1,∀ y∈R2,lt y x=false)→Aq lt (L1++L2) (R1++R2)=Aq lt L1 R1++Aq lt L2 R2
 | [],[],L2,R2,_,_=>by simp[Bb]
 | [],y::r,L2,R2,h1,h2=>by
  have ih:=B3 lt [] r L2 R2 (fun x hx z hz=>h1 x hx z (by simp[hz])) (fun x hx=>by cases hx)
  rw[Bb]at ih ⊢
  rw[List.nil_append]at ih ⊢
  cases L2 with
  | nil=>rw[Bb,Bb]
  | cons x l =>
   rw[List.cons_append,Aq,if_pos (h1 x qd y qd),ih]
   rfl
 | x::l,[],L2,R2,h1,h2=>by
  have ih:=B3 lt l [] L2 R2 (fun x hx z hz=>by cases hz) (fun z hz w hw=>h2 z (by simp[hz]) w hw)
  rw[Bu]at ih ⊢
  rw[List.nil_append]at ih ⊢
  cases R2 with
  | nil=>rw[Bu,Bu]
  | cons y r =>
   rw[List.cons_append,Aq,if_neg (by rw[h2 x qd y qd];simp),ih]
   rfl
 | x::l,y::r,L2,R2,h1,h2=>by
  rw[List.cons_append,List.cons_append,Aq,Aq]
  by_cases hc:lt y x=true
  ·rw[if_pos hc,if_pos hc,← List.cons_append,B3 lt (x::l) r L2 R2 (fun z hz w hw=>h1 z hz w (by simp[hw])) h2]
   rfl
  ·rw[if_neg hc,if_neg hc,← List.cons_append,B3 lt l (y::r) L2 R2 h1 (fun z hz w hw=>h2 z (by simp[hz]) w hw)]
   rfl
termination_by L1 R1=>L1.length+R1.length
theorem Hp (lt:α→α→Bool):∀ (l r:List α) (x:α),x∈Aq lt l r→x∈l∨x∈r
 | [],r,x,h=>.inr (by rwa [Bb]at h)
 | a::l,[],x,h=>.inl (by rwa [Bu]at h)
 | a::l,b::r,x,h=>by
  rw[Aq]at h
  split at h
  ·rcases List.mem_cons.1 h with rfl | h
   ·exact .inr qd
   ·rcases Hp lt (a::l) r x h with h | h
    ·exact .inl h
    ·exact .inr (by simp[h])
  ·rcases List.mem_cons.1 h with rfl | h
   ·exact .inl qd
   ·rcases Hp lt l (b::r) x h with h | h
    ·exact .inl (by simp[h])
    ·exact .inr h
termination_by l r=>l.length+r.length
theorem Er (lt:α→α→Bool):∀ (l r:List α),(Aq lt l r).length=l.length+r.length
 | [],r=>by rw[Bb];simp
 | a::l,[]=>by rw[Bu];simp
 | a::l,b::r=>by
  rw[Aq]
  split
  ·rw[List.length_cons,Er lt (a::l) r];simp;omega
  ·rw[List.length_cons,Er lt l (b::r)];simp;omega
termination_by l r=>l.length+r.length
def H2 (p:α→Bool):List α→Nat
 | []=>0
 | a::l=>if H2 p l=l.length∧p a=true then l.length+1 else H2 p l
theorem T2 (p:α→Bool):∀ l,H2 p l≤l.length
 | []=>Nat.le_refl _
 | a::l=>by
  rw[H2]
  have:=T2 p l
  simp only[List.length_cons]
  split<;>omega
theorem Eh (p:α→Bool):∀ (a b:List α),(∀ x∈b,p x=true)→(∀ x∈a,p x=false)→H2 p (a++b)=b.length
 | [],[],_,_=>rfl
 | [],x::b,h,_=>by
  have ih:=Eh p [] b (fun y hy=>h y (by simp[hy])) (fun y hy=>by cases hy)
  rw[List.nil_append]at ih ⊢
  rw[H2,if_pos ⟨ih,h x qd⟩]
  rfl
 | x::a,b,hb,ha=>by
  have ih:=Eh p a b hb (fun y hy=>ha y (by simp[hy]))
  rw[List.cons_append,H2,if_neg (fun hc=>by rw[ha x qd]at hc;cases hc.2)]
  exact ih
def H6 (lt:α→α→Bool) (x:α) (l:List α):List α:=l.take (l.length-H2 (lt x) l)++x::l.drop (l.length-H2 (lt x) l)
theorem Aa6 (lt:α→α→Bool) (x:α) (l:List α):(H6 lt x l).length=l.length+1:=by
 unfold H6
 have:=T2 (lt x) l
 simp only[List.length_append,List.length_cons,List.length_take,List.length_drop]
 omega
theorem Mv (lt:α→α→Bool) (x:α) (a b:List α) (h1:∀ y∈b,lt x y=true) (h2:∀ y∈a,lt x y=false):H6 lt x (a++b)=a++x::b:=by
 unfold H6
 rw[Eh _ a b h1 h2,show (a++b).length-b.length=a.length by simp,List.take_left',List.drop_left']
 ·rfl
 ·rfl
theorem Iu {lt:α→α→Bool} (h:Ordy lt) (x:α):∀ (l:List α),Srt lt l→∃ a b,l=a++b∧(∀ y∈b,lt x y=true)∧(∀ y∈a,lt x y=false)
 | [],_=>⟨[],[],rfl,fun y hy=>(by cases hy),fun y hy=>(by cases hy)⟩
 | z::l,hs=>by
  have hs':=List.pairwise_cons.1 hs
  cases hz:lt x z
  ·obtain ⟨a,b,h1,h2,h3⟩:=Iu h x l hs'.2
   refine⟨z::a,b,by rw[h1];rfl,h2,fun y hy=>?_⟩
   rcases List.mem_cons.1 hy with rfl | hy
   ·exact hz
   ·exact h3 y hy
  ·refine⟨[],z::l,rfl,fun y hy=>?_,fun y hy=>by cases hy⟩
   rcases List.mem_cons.1 hy with rfl | hy
   ·exact hz
   ·exact h.tr _ _ _ hz (hs'.1 y hy)
theorem Aa3 {lt:α→α→Bool} (h:Ordy lt) (x:α) {l:List α} (hs:Srt lt l):Srt lt (H6 lt x l):=by
 obtain ⟨a,b,rfl,h2,h3⟩:=Iu h x l hs
 rw[Mv lt x a b h2 h3]
 have hp:=List.pairwise_append.1 hs
 refine List.pairwise_append.2 ⟨hp.1,List.pairwise_cons.2 ⟨fun y hy=>h.asy _ _ (h2 y hy),hp.2.1⟩,fun y hy z hz=>?_⟩
 rcases List.mem_cons.1 hz with rfl | hz
 ·exact h3 y hy
 ·exact hp.2.2 y hy z hz
theorem Y9 {lt:α→α→Bool} (h:Ordy lt) (x:α) {l r:List α} (hl:Srt lt l) (hr:Srt lt r):Aq lt l (H6 lt x r)=H6 lt x (Aq lt l r):=by
 obtain ⟨L1,L2,rfl,l2,l3⟩:=Iu h x l hl
 obtain ⟨R1,R2,rfl,r2,r3⟩:=Iu h x r hr
 rw[Mv lt x R1 R2 r2 r3]
 have k1:∀ u∈L2,∀ v∈R1,lt v u=true:=fun u hu v hv=>h.tl _ _ _ (r3 v hv) (l2 u hu)
 have k2:∀ u∈L1,∀ v∈R2,lt v u=false:=fun u hu v hv=>h.asy _ _ (h.tl _ _ _ (l3 u hu) (r2 v hv))
 rw[B3 lt L1 R1 L2 R2 k1 k2]
 rw[show R1++x::R2=(R1++[x])++R2 by simp]
 rw[B3 lt L1 (R1++[x]) L2 R2 (fun u hu v hv=>by
  rcases List.mem_append.1 hv with hv | hv
  ·exact k1 u hu v hv
  ·rw[List.mem_singleton.1 hv];exact l2 u hu) k2]
 have e1:=B3 lt L1 R1 [] [x] (fun u hu=>by cases hu) (fun u hu v hv=>by rw[List.mem_singleton.1 hv];exact l3 u hu)
 rw[List.append_nil,Bb]at e1
 rw[e1,Mv lt x (Aq lt L1 R1) (Aq lt L2 R2)]
 ·simp
 ·intro y hy
  rcases Hp lt _ _ y hy with hy | hy
  ·exact l2 y hy
  ·exact r2 y hy
 ·intro y hy
  rcases Hp lt _ _ y hy with hy | hy
  ·exact l3 y hy
  ·exact r3 y hy
def Bd (lt:α→α→Bool):List α→List α→List α
 | out,[]=>out
 | out,x::l=>Bd lt (H6 lt x out) l
def Au (lt:α→α→Bool) (l:List α):List α:=Bd lt [] l
theorem H3 (lt:α→α→Bool):∀ (a b out:List α),Bd lt out (a++b)=Bd lt (Bd lt out a) b
 | [],b,out=>rfl
 | x::a,b,out=>by rw[List.cons_append,Bd,Bd,H3 lt a b]
theorem Hk (lt:α→α→Bool) (l:List α) (x:α):Au lt (l++[x])=H6 lt x (Au lt l):=by
 unfold Au
 rw[H3]
 rfl
theorem J7 (lt:α→α→Bool):∀ (l out:List α),(Bd lt out l).length=out.length+l.length
 | [],out=>by simp[Bd]
 | x::l,out=>by rw[Bd,J7 lt l,Aa6];simp;omega
theorem Cp (lt:α→α→Bool) (l:List α):(Au lt l).length=l.length:=by
 unfold Au
 rw[J7];simp
theorem Aa5 (lt:α→α→Bool) (x:α) (l:List α) (y:α) (h:y∈H6 lt x l):y=x∨y∈l:=by
 unfold H6 at h
 rcases List.mem_append.1 h with h | h
 ·exact .inr (List.mem_of_mem_take h)
 ·rcases List.mem_cons.1 h with h | h
  ·exact .inl h
  ·exact .inr (List.mem_of_mem_drop h)
theorem J6 (lt:α→α→Bool):∀ (l out:List α) (y:α),y∈Bd lt out l→y∈out∨y∈l
 | [],out,y,h=>.inl h
 | x::l,out,y,h=>by
  rw[Bd]at h
  rcases J6 lt l _ y h with h | h
  ·rcases Aa5 lt x out y h with h | h
   ·exact .inr (by simp[h])
   ·exact .inl h
  ·exact .inr (by simp[h])
theorem C0 (lt:α→α→Bool) (l:List α) (y:α) (h:y∈Au lt l):y∈l:=by
 rcases J6 lt l [] y h with h | h
 ·cases h
 ·exact h
theorem J5 {lt:α→α→Bool} (h:Ordy lt):∀ (l out:List α),Srt lt out→Srt lt (Bd lt out l)
 | [],out,ho=>ho
 | x::l,out,ho=>J5 h l _ (Aa3 h x ho)
theorem Co {lt:α→α→Bool} (h:Ordy lt) (l:List α):Srt lt (Au lt l):=J5 h l [] List.Pairwise.nil
theorem Js {lt:α→α→Bool} (h:Ordy lt) (a:List α):∀ (k:Nat) (b:List α),b.length=k→Aq lt (Au lt a) (Au lt b)=Au lt (a++b)
 | 0,b,hb=>by
  have:=List.eq_nil_of_length_eq_zero hb
  subst this
  rw[List.append_nil]
  exact Bu lt _
 | k+1,b,hb=>by
  obtain ⟨c,x,rfl⟩:∃ c x,b=c++[x]:=⟨b.dropLast,b.getLast (by intro e;rw[e]at hb;cases hb),(List.dropLast_concat_getLast _).symm⟩
  rw[← List.append_assoc,Hk,Hk,Y9 h x (Co h a) (Co h c),Js h a k c (by simpa using hb)]
theorem Qy {lt:α→α→Bool} (h:Ordy lt):∀ (k:Nat) (l:List α),l.length=k→Srt lt l→Au lt l=l
 | 0,l,hl,_=>by
  have:=List.eq_nil_of_length_eq_zero hl
  subst this;rfl
 | k+1,b,hb,hs=>by
  obtain ⟨c,x,rfl⟩:∃ c x,b=c++[x]:=⟨b.dropLast,b.getLast (by intro e;rw[e]at hb;cases hb),(List.dropLast_concat_getLast _).symm⟩
  have hp:=List.pairwise_append.1 hs
  rw[Hk,Qy h k c (by simpa using hb) hp.1]
  have:=Mv lt x c [] (fun y hy=>by cases hy) (fun y hy=>hp.2.2 y hy x qd)
  rw[List.append_nil]at this
  exact this
end
end Go.Sy.YtgblchnfjbkipaaGreatDoor
namespace Go.Sy.YtgblchnfjbkipaaGreatDoor
section
variable {α:Type}
def bs (lt:α→α→Bool) (s:Nat) (l:List α):List α :=
 if h:s=0∨l.length≤s then Au lt l else Au lt (l.take s)++bs lt s (l.drop s)
termination_by l.length
decreasing_by
 simp only[List.length_drop];omega
theorem Iq (lt:α→α→Bool) {s:Nat} {l:List α} (h:l.length≤s):bs lt s l=Au lt l:=by
 rw[bs,dif_pos (.inr h)]
theorem K4 (lt:α→α→Bool) {s:Nat} {l:List α} (h0:0<s) (h:s≤l.length):bs lt s l=Au lt (l.take s)++bs lt s (l.drop s):=by
 by_cases he:l.length=s
 ·rw[Iq lt j_,List.take_of_length_le j_,List.drop_of_length_le j_,Iq lt (Nat.zero_le _)]
  show _=_++Au lt []
  rw[show Au lt ([]:List α)=[] from rfl,List.append_nil]
 ·rw[bs,dif_neg j_]
theorem bs_len (lt:α→α→Bool) (s:Nat):∀ (k:Nat) (l:List α),l.length=k→(bs lt s l).length=l.length:=by
 intro k
 induction k using Nat.strongRecOn with
 | ind k ih =>
  intro l hl
  by_cases h:s=0∨l.length≤s
  ·rw[bs,dif_pos h,Cp]
  ·rw[bs,dif_neg h,List.length_append,Cp,ih (l.drop s).length (by rw[List.length_drop];omega) _ rfl,List.length_take,List.length_drop]
   omega
theorem bs_two {lt:α→α→Bool} (h:Ordy lt) {s:Nat} {l:List α} (h0:0<s) (hl:2 * s≤l.length) :
  bs lt s l=Au lt (l.take s)++(Au lt ((l.drop s).take s)++bs lt s (l.drop (2 * s)))∧bs lt (2 * s) l=Aq lt (Au lt (l.take s)) (Au lt ((l.drop s).take s))++bs lt (2 * s) (l.drop (2 * s)):=by
 have e1:(l.drop s).drop s=l.drop (2 * s):=by rw[List.drop_drop];congr 1;omega
 have e2:l.take s++(l.drop s).take s=l.take (2 * s):=by
  rw[show 2 * s=s+s by omega,List.take_add]
 constructor
 ·rw[K4 lt h0 j_,K4 lt (l:=l.drop s) h0 (by rw[List.length_drop];omega),e1]
 ·rw[K4 lt j_ hl,Js h _ _ _ rfl,e2]
theorem Acb {lt:α→α→Bool} (h:Ordy lt) {s:Nat} {l:List α} (h0:0<s) (h1:s<l.length) (h2:l.length≤2 * s) :
  bs lt s l=Au lt (l.take s)++Au lt (l.drop s)∧bs lt (2 * s) l=Aq lt (Au lt (l.take s)) (Au lt (l.drop s)):=by
 constructor
 ·rw[K4 lt h0 j_,Iq lt (l:=l.drop s) (by rw[List.length_drop];omega)]
 ·rw[Iq lt h2,Js h _ _ _ rfl,List.take_append_drop]
def J4 (l:List α) (a b:Nat):List α:=match l[a]?,l[b]? with
 | some x,some y=>(l.set a y).set b x
 | _,_=>l
def M4:Nat→List α→Nat→Nat→List α
 | 0,l,_,_=>l
 | k+1,l,a,b=>M4 k (J4 l a b) (a+1) (b+1)
theorem Ys (l:List α) (a b:Nat):(J4 l a b).length=l.length:=by
 unfold J4
 split<;>simp
theorem Z6 {l:List α} {a b:Nat} (ha:a<l.length) (hb:b<l.length):J4 l a b=(l.set a l[b]).set b l[a]:=by
 unfold J4
 rw[List.getElem?_eq_getElem ha,List.getElem?_eq_getElem hb]
theorem Z7 (P M S:List α) (u v:α):J4 (P++u::(M++v::S)) P.length (P.length+1+M.length)=P++v::(M++u::S):=by
 have h1:(P++u::(M++v::S))[P.length]? = some u:=by simp
 have h2:(P++u::(M++v::S))[P.length+1+M.length]? = some v:=by
  rw[List.getElem?_append_right j_,show P.length+1+M.length-P.length=M.length+1 by omega,List.getElem?_cons_succ,List.getElem?_append_right (Nat.le_refl _)]
  simp
 unfold J4
 rw[h1,h2]
 dsimp only
 rw[List.set_append_right _ _ (Nat.le_refl _),Nat.sub_self,List.set_cons_zero,List.set_append_right _ _ j_,show P.length+1+M.length-P.length=M.length+1 by omega,List.set_cons_succ,
  List.set_append_right _ _ (Nat.le_refl _),Nat.sub_self,List.set_cons_zero]
theorem J3:∀ (U V P M S:List α),U.length=V.length→M4 U.length (P++(U++(M++(V++S)))) P.length (P.length+U.length+M.length)=P++(V++(M++(U++S)))
 | [],[],P,M,S,_=>rfl
 | [],v::V,P,M,S,h=>by cases h
 | u::U,[],P,M,S,h=>by cases h
 | u::U,v::V,P,M,S,h=>by
  have hl:U.length=V.length:=by simpa using h
  have e:=Z7 P (U++M) (V++S) u v
  have ih:=J3 U V (P++[v]) (M++[u]) S hl
  rw[List.length_cons,M4]
  rw[show P++(u::U++(M++(v::V++S)))=P++u::((U++M)++v::(V++S)) by simp]
  rw[show P.length+(U.length+1)+M.length=P.length+1+(U++M).length by rw[List.length_append];omega,e]
  have e2:P++v::(U++M++u::(V++S))=(P++[v])++(U++((M++[u])++(V++S))):=by simp
  have e3:(P++[v]).length=P.length+1:=by simp
  have e4:(P++[v]).length+U.length+(M++[u]).length=P.length+1+(U++M).length+1:=by simp;omega
  rw[e3]at ih e4
  rw[e4]at ih
  rw[e2,ih]
  simp
def swapP:Nat→List α→Nat→Nat→List α
 | 0,l,_,_=>l
 | k+1,l,a,b=>J4 (swapP k l a b) (a+k) (b+k)
theorem Qr:∀ (k:Nat) (l:List α) (a b:Nat),(swapP k l a b).length=l.length
 | 0,_,_,_=>rfl
 | k+1,l,a,b=>by rw[swapP,Ys,Qr k]
theorem M3 (l:List α) (a b:Nat):∀ (k j:Nat),M4 k (swapP j l a b) (a+j) (b+j)=swapP (j+k) l a b
 | 0,j=>rfl
 | k+1,j=>by
  rw[M4,show J4 (swapP j l a b) (a+j) (b+j)=swapP (j+1) l a b from rfl,show a+j+1=a+(j+1) by omega,show b+j+1=b+(j+1) by omega,M3 l a b k (j+1)]
  congr 1;omega
theorem Z5 (k:Nat) (l:List α) (a b:Nat):M4 k l a b=swapP k l a b:=by
 have:=M3 l a b k 0
 rw[Nat.zero_add]at this
 exact this
end
end Go.Sy.YtgblchnfjbkipaaGreatDoor
namespace Go.Sy.YtgblchnfjbkipaaGreatDoor
section
variable {α:Type}
theorem Sr {lt:α→α→Bool} {l:List α} (hs:Srt lt l) {i j:Nat} (hij:i<j) (hj:j<l.length):lt (l[j]) (l[i]'j_)=false:=List.pairwise_iff_getElem.1 hs i j j_ hj hij
theorem L3 {l:List α} {i:Nat} {x:α} (h:x∈l.take i):∃ k,∃ hk:k<l.length,k<i∧l[k]=x:=by
 obtain ⟨k,hk,rfl⟩:=List.getElem_of_mem h
 rw[List.length_take]at hk
 exact⟨k,by omega,by omega,by rw[List.getElem_take]⟩
theorem L4 {l:List α} {i:Nat} {x:α} (h:x∈l.drop i):∃ k,∃ hk:k<l.length,i≤k∧l[k]=x:=by
 obtain ⟨k,hk,rfl⟩:=List.getElem_of_mem h
 rw[List.length_drop]at hk
 exact⟨i+k,by omega,by omega,by rw[List.getElem_drop]⟩
theorem Le {lt:α→α→Bool} (h:Ordy lt) {L R:List α} (hL:Srt lt L) (hR:Srt lt R) (i j:Nat)
  (h1:i=0∨R.length≤j∨∃ (hi:i-1<L.length) (hj:j<R.length),0<i∧lt R[j] L[i-1]=false)
  (h2:L.length≤i∨j=0∨∃ (hi:i<L.length) (hj:j-1<R.length),0<j∧lt R[j-1] L[i]=true) :
  Aq lt L R=Aq lt (L.take i) (R.take j)++Aq lt (L.drop i) (R.drop j):=by
 have e:=B3 lt (L.take i) (R.take j) (L.drop i) (R.drop j) ?_ ?_
 ·rw[List.take_append_drop,List.take_append_drop]at e
  exact e
 ·intro x hx y hy
  obtain ⟨k,hk,hik,rfl⟩:=L4 hx
  obtain ⟨q,hq,hqj,rfl⟩:=L3 hy
  rcases h2 with h2 | h2 | ⟨hi,hj,h0,hlt⟩
  ·omega
  ·omega
  ·
   have a1:lt R[q] L[i]=true:=by
    by_cases hqe:q=j-1
    ·subst hqe;exact hlt
    ·exact h.tl _ _ _ (Sr hR (by omega:q<j-1) hj) hlt
   by_cases hke:k=i
   ·subst hke;exact a1
   ·exact h.tr _ _ _ a1 (Sr hL (by omega:i<k) hk)
 ·intro x hx y hy
  obtain ⟨k,hk,hik,rfl⟩:=L3 hx
  obtain ⟨q,hq,hqj,rfl⟩:=L4 hy
  rcases h1 with h1 | h1 | ⟨hi,hj,h0,hlt⟩
  ·omega
  ·omega
  ·
   cases hc:lt R[q] L[k]
   ·rfl
   ·have a1:lt R[q] L[i-1]=true:=by
     by_cases hke:k=i-1
     ·subst hke;exact hc
     ·exact h.tr _ _ _ hc (Sr hL (by omega:k<i-1) hi)
    have a2:lt R[j] L[i-1]=true:=by
     by_cases hqe:q=j
     ·subst hqe;exact a1
     ·exact h.tl _ _ _ (Sr hR (by omega:j<q) hq) a1
    rw[hlt]at a2;cases a2
theorem U6 {lt:α→α→Bool} (h:Ordy lt) (x:α) {R:List α} (hR:Srt lt R) (j:Nat) (hj:j≤R.length)
  (h1:j=0∨∃ hj:j-1<R.length,lt R[j-1] x=true) (h2:j=R.length∨∃ hj:j<R.length,lt R[j] x=false) :
  Aq lt [x] R=R.take j++x::R.drop j:=by
 have e:=Le h (L:=[x]) (R:=R) (List.pairwise_singleton _ _) hR 0 j (.inl rfl) (by
  rcases h1 with h1 | ⟨hj1,hlt⟩
  ·exact .inr (.inl h1)
  ·by_cases h0:j=0
   ·exact .inr (.inl h0)
   ·exact .inr (.inr ⟨by simp,hj1,by omega,hlt⟩))
 rw[e,List.take_zero,Bb,List.drop_zero]
 congr 1
 rcases h2 with h2 | ⟨hj2,hlt⟩
 ·rw[List.drop_of_length_le j_,Bu]
 ·rw[List.drop_eq_getElem_cons hj2,Aq,if_neg (by rw[hlt];simp),Bb]
theorem U5 {lt:α→α→Bool} (h:Ordy lt) (y:α) {L:List α} (hL:Srt lt L) (i:Nat) (hi:i≤L.length)
  (h1:i=0∨∃ hi:i-1<L.length,lt y L[i-1]=false) (h2:i=L.length∨∃ hi:i<L.length,lt y L[i]=true) :
  Aq lt L [y]=L.take i++y::L.drop i:=by
 have e:=Le h (L:=L) (R:=[y]) hL (List.pairwise_singleton _ _) i 0 (by
  rcases h1 with h1 | ⟨hi1,hlt⟩
  ·exact .inl h1
  ·by_cases h0:i=0
   ·exact .inl h0
   ·exact .inr (.inr ⟨hi1,by simp,by omega,hlt⟩)) (.inr (.inl q_))
 rw[e,List.take_zero,Bu,List.drop_zero]
 congr 1
 rcases h2 with h2 | ⟨hi2,hlt⟩
 ·rw[List.drop_of_length_le j_,Bb]
 ·rw[List.drop_eq_getElem_cons hi2,Aq,if_pos hlt,Bu]
theorem Qp (p:α→Bool):∀ (a b:List α),(∀ x∈b,p x=true)→(a=[]∨∃ c z,a=c++[z]∧p z=false)→H2 p (a++b)=b.length
 | [],b,hb,_=>Eh p [] b hb (fun y hy=>by cases hy)
 | x::a,b,hb,ha=>by
  have key:a=[]∨∃ c z,a=c++[z]∧p z=false:=by
   rcases ha with ha | ⟨c,z,hc,hz⟩
   ·cases ha
   ·cases c with
    | nil=>simp at hc;exact .inl hc.2
    | cons y c=>simp at hc;exact .inr ⟨c,z,hc.2,hz⟩
  have ih:=Qp p a b hb key
  rw[List.cons_append,H2,ih]
  rw[if_neg]
  rintro ⟨h1,h2⟩
  rw[List.length_append]at h1
  have ha0:a=[]:=List.eq_nil_of_length_eq_zero j_
  subst ha0
  rcases ha with ha | ⟨c,z,hc,hz⟩
  ·cases ha
  ·cases c with
   | nil=>simp at hc;rw[hc,hz]at h2;cases h2
   | cons y c=>simp at hc
theorem Aa4 (lt:α→α→Bool) (x:α) (a b:List α) (h1:∀ y∈b,lt x y=true) (h2:a=[]∨∃ c z,a=c++[z]∧lt x z=false):H6 lt x (a++b)=a++x::b:=by
 unfold H6
 rw[Qp _ a b h1 h2,show (a++b).length-b.length=a.length by simp,List.take_left',List.drop_left']
 ·rfl
 ·rfl
end
end Go.Sy.YtgblchnfjbkipaaGreatDoor
namespace Go.Sy.YtgblchnfjbkipaaGreatDoor
section
variable {α β:Type}
structure CmpOK (c:α→α→Int):Prop where
 anti:∀ x y,c x y<0↔0<c y x
 trans:∀ x y z,c x y≤0→c y z≤0→c x z≤0∧(c x z=0→c x y=0∧c y z=0)
theorem CmpOK.self {c:α→α→Int} (h:CmpOK c) (x:α):c x x=0:=by
 have:=h.anti x x;omega
theorem CmpOK.zero {c:α→α→Int} (h:CmpOK c) {x y:α} (hx:c x y=0):c y x=0:=by
 have h1:=h.anti x y;have h2:=h.anti y x;omega
theorem CmpOK.alike {c:α→α→Int} (h:CmpOK c) {x y z:α} (h1:c x y=0) (h2:c y z=0):c x z=0:=by
 have a:=(h.trans x y z j_ j_).1
 have b:=(h.trans z y x (by rw[h.zero h2];omega) (by rw[h.zero h1];omega)).1
 have d:=h.anti x z
 have e:=h.anti z x
 omega
theorem CmpOK.ordy {c:α→α→Int} (h:CmpOK c):Ordy (fun x y=>decide (c x y<0)) where
 ne x:=by rw[h.self x];rfl
 asy x y hx:=by
  have hx:=of_decide_eq_true hx
  have:=h.anti x y
  exact decide_eq_false j_
 tr x y z hx hy:=by
  have hx:=of_decide_eq_true hx
  have hy:=of_decide_eq_false hy
  have:=h.anti z y
  have t:=h.trans x y z j_ j_
  exact decide_eq_true (by
   have h0:c x z≠0:=fun e=>by have:=(t.2 e).1;omega
   omega)
 tl x y z hx hy:=by
  have hx:=of_decide_eq_false hx
  have hy:=of_decide_eq_true hy
  have:=h.anti y x
  have t:=h.trans x y z j_ j_
  exact decide_eq_true (by
   have h0:c x z≠0:=fun e=>by have:=(t.2 e).2;omega
   omega)
theorem CmpOK.comap {c:β→β→Int} (h:CmpOK c) (f:α→β):CmpOK (fun x y=>c (f x) (f y)):=⟨fun x y=>h.anti _ _,fun x y z=>h.trans _ _ _⟩
def Ez (a b:Int):Int:=if a≠0 then a else b
theorem CmpOK.then {c d:α→α→Int} (hc:CmpOK c) (hd:CmpOK d):CmpOK (fun x y=>Ez (c x y) (d x y)) where
 anti x y:=by
  have h1:=hc.anti x y
  have h2:=hc.anti y x
  have h3:=hd.anti x y
  unfold Ez
  by_cases h:c x y=0
  ·rw[if_neg j_,if_neg j_];exact h3
  ·rw[if_pos h,if_pos j_];exact h1
 trans x y z:=by
  unfold Ez
  intro h1 h2
  have t:=hc.trans x y z
  by_cases hxy:c x y=0
  ·rw[if_neg j_]at h1
   by_cases hyz:c y z=0
   ·rw[if_neg j_]at h2
    have hxz:=hc.alike hxy hyz
    rw[if_neg j_,if_neg j_,if_neg j_]
    exact hd.trans x y z h1 h2
   ·rw[if_pos hyz]at h2
    have t:=t j_ h2
    have h0:c x z≠0:=fun e=>hyz (t.2 e).2
    rw[if_pos h0]
    exact⟨t.1,fun e=>absurd e h0⟩
  ·rw[if_pos hxy]at h1
   have hyz:c y z≤0:=by
    by_cases hyz:c y z=0
    ·omega
    ·rw[if_pos hyz]at h2;exact h2
   have t:=t h1 hyz
   have h0:c x z≠0:=fun e=>hxy (t.2 e).1
   rw[if_pos h0]
   exact⟨t.1,fun e=>absurd e h0⟩
def At (c:α→α→Int):List α→List α→Int
 | [],[]=>0
 | [],_::_=>-1
 | _::_,[]=>1
 | x::a,y::b=>Ez (c x y) (At c a b)
theorem O6 {c:α→α→Int} (h:CmpOK c):∀ (a b:List α),At c a b<0↔0<At c b a
 | [],[]=>by simp[At]
 | [],_::_=>by simp[At]
 | _::_,[]=>by simp[At]
 | x::a,y::b=>by
  have ih:=O6 h a b
  have h1:=h.anti x y
  have h2:=h.anti y x
  rw[At,At]
  unfold Ez
  by_cases h0:c x y=0
  ·rw[if_neg j_,if_neg j_];exact ih
  ·rw[if_pos h0,if_pos j_];exact h1
theorem Me {c:α→α→Int} (h:CmpOK c):∀ (a b d:List α),At c a b≤0→At c b d≤0→At c a d≤0∧(At c a d=0→At c a b=0∧At c b d=0)
 | [],[],[],_,_=>by simp[At]
 | [],[],_::_,_,_=>by simp[At]
 | [],_::_,[],_,h2=>by simp[At]at h2
 | [],_::_,_::_,_,_=>by simp[At]
 | _::_,[],_,h1,_=>by simp[At]at h1
 | _::_,_::_,[],_,h2=>by simp[At]at h2
 | x::a,y::b,z::d,h1,h2=>by
  have ih:=Me h a b d
  rw[At]at h1 h2 ⊢
  rw[At,At]
  unfold Ez at h1 h2 ⊢
  have t:=h.trans x y z
  by_cases hxy:c x y=0
  ·rw[if_neg j_]at h1
   by_cases hyz:c y z=0
   ·rw[if_neg j_]at h2
    have hxz:=h.alike hxy hyz
    rw[if_neg j_,if_neg j_,if_neg j_]
    exact ih h1 h2
   ·rw[if_pos hyz]at h2
    have t:=t j_ h2
    have h0:c x z≠0:=fun e=>hyz (t.2 e).2
    rw[if_pos h0]
    exact⟨t.1,fun e=>absurd e h0⟩
  ·rw[if_pos hxy]at h1
   have hyz:c y z≤0:=by
    by_cases hyz:c y z=0
    ·omega
    ·rw[if_pos hyz]at h2;exact h2
   have t:=t h1 hyz
   have h0:c x z≠0:=fun e=>hxy (t.2 e).1
   rw[if_pos h0]
   exact⟨t.1,fun e=>absurd e h0⟩
theorem CmpOK.list {c:α→α→Int} (h:CmpOK c):CmpOK (At c):=⟨O6 h,Me h⟩
theorem Dj {c:α→α→Int} (h:∀ x y,c x y=0→x=y):∀ (a b:List α),At c a b=0→a=b
 | [],[],_=>rfl
 | [],_::_,e=>by simp[At]at e
 | _::_,[],e=>by simp[At]at e
 | x::a,y::b,e=>by
  rw[At]at e
  unfold Ez at e
  by_cases h0:c x y=0
  ·rw[if_neg j_]at e
   rw[h x y h0,Dj h a b e]
  ·rw[if_pos h0]at e;exact absurd e h0
def Abl (a b:Int):Int:=if a<b then -1 else if b<a then 1 else 0
theorem Ab9:CmpOK Abl where
 anti x y:=by unfold Abl;split<;>split<;>(try split)<;>omega
 trans x y z:=by
  unfold Abl
  intro h1 h2
  repeat' split
  all_goals (repeat' split at h1;repeat' split at h2)
  all_goals first | omega | (constructor<;>omega)
theorem Zs {a b:Int} (h:Abl a b=0):a=b:=by
 unfold Abl at h
 split at h
 ·cases h
 ·split at h
  ·cases h
  ·omega
end
end Go.Sy.YtgblchnfjbkipaaGreatDoor
namespace Go.Sy.YtgblchnfjbkipaaGreatDoor
open Go.Proofs
attribute [local irreducible] Go.Sy.G Go.Sy.DR
set_option maxRecDepth 20000
set_option maxHeartbeats 4000000
theorem indexS (l:List Int) (x:Int) (hl:D0 l):Sy.Spec Tryz.prog 160 [.sl 1 Aa l,Aa x] [] (Aa (Xl (· == x) l)) []:=cT F160 Tryz.ntmps160 fun F hF=>by
 unfold D0 at hl
 conv=>whnf
 refine Bv l.length (fun j=>∀ i (h:i<l.length),i<j→(l[i] == x)=false) (fun j=>[(0,.sl 1 Aa l),(1,Aa x),(7,Aa l.length),(8,Aa j)]) (fun _=>[]) [] (fun i h hj=>absurd hj j_) ⟨⟨q_,q_,q_,q_,q_,q_,q_,q_,z_⟩,z_,q_,q_⟩ ?_
 intro j hj hI
 refine oO ?_
 (repeat' (first | (refine⟨fun h=>?_,fun h=>?_⟩<;>(repeat (first | simp only[decide_eq_true_eq]at h | simp only[decide_eq_false_iff_not]at h | simp only[beq_iff_eq]at h | simp only[beq_eq_false_iff_ne]at h))<;>((refine oO ?_))) | (refine Bo rfl (.cons .tmp .nil) ?_ rfl) | (refine⟨y_,?_⟩;((conv=>whnf))) | (refine⟨by (omega),by (omega),?_⟩;((conv=>whnf))) | (refine⟨by (unfold I64;omega),?_⟩;((conv=>whnf))) | refine By [] hI j_ ?_ ⟨⟨rfl,rfl,rfl,rfl,rfl,rfl,rfl,rfl,trivial⟩,trivial,rfl,rfl⟩))
 all_goals try (refine congrArg Aa ?_)
 ·exact Xk j_ hI (by simpa using h.symm)
 ·intro i hi hij
  rcases Nat.lt_or_ge i j with h1 | h1
  ·exact hI i hi h1
  ·have:i=j:=by omega
   subst this
   simpa using Ne.symm h
 ·exact Zl (fun i hi=>hI i hi j_)
theorem Zr (l:List Int) (x:Int) (hl:D0 l):Sy.Spec Tryz.prog 161 [.sl 1 Aa l,Aa x] [] (Af (inB l x)) []:=cT F161 Tryz.ntmps161 fun F hF=>by
 conv=>whnf
 (repeat' (first | (refine Bo rfl (.cons .tmp .nil) ?_ rfl) | (refine c0 (indexS _ _ hl) F160 ?_;((refine oO ?_)))))
 exact congrArg Af (Aa8 _ _).symm
def Od (l:List Int) (least most:Int) (i:Nat) (x:Int):Bool:=decide (least≤x) && decide (x≤most) && (i == 0 || decide (nth l ((i:Int)-1)<x))
def Hn (l:List Int) (least most:Int):Bool:=decide (0<l.length) && decide (l.length≤16) && Qa (Od l least most) l
theorem Xa (l:List Int) (least most:Int) (hl:D0 l):Sy.Spec Tryz.prog 166 [.sl 1 Aa l,Aa least,Aa most] [] (Af (Hn l least most)) []:=cT F166 Tryz.ntmps166 fun F hF=>by
 unfold D0 at hl
 conv=>whnf
 refine Bv l.length (fun j=>Mr (Od l least most) l j) (fun j=>[(0,.sl 1 Aa l),(1,Aa least),(2,Aa most),(9,.sl 1 Aa l),(10,Aa l.length),(11,Aa j)]) (fun _=>[]) [] (Ej _ _) ⟨⟨q_,q_,q_,q_,q_,q_,q_,q_,q_,q_,q_,q_,z_⟩,z_,q_,q_⟩ ?_
 intro j hj hI
 refine oO ?_
 (repeat' (first | (refine⟨fun h=>?_,fun h=>?_⟩<;>(repeat (first | simp only[decide_eq_true_eq]at h | simp only[decide_eq_false_iff_not]at h))<;>((refine oO ?_);repeat((first|refine aF ?_|refine aT ?_);(refine oO ?_)))) | (refine Bo rfl (.cons .tmp .nil) ?_ rfl) | (refine⟨y_,?_⟩;((conv=>whnf))) | (refine⟨by (first | (unfold I64;omega) | omega),by (omega),?_⟩;((conv=>whnf))) | (refine⟨by (unfold I64;omega),?_⟩;((conv=>whnf))) | refine By [] hI j_ ?_ ⟨⟨rfl,rfl,rfl,rfl,rfl,rfl,rfl,rfl,rfl,rfl,rfl,rfl,trivial⟩,trivial,rfl,rfl⟩))
 all_goals try (refine congrArg Af ?_)
 all_goals try simp only[Int.toNat_natCast,Int.pred_toNat]at *
 ·rw[Hn,Ev (i:=j) j_ (by simp[Od];omega)];simp
 ·rw[Hn,Ev (i:=j) j_ (by simp[Od];omega)];simp
 ·rw[Hn,Ev (i:=j) j_ (by simp only[Od,Aat (show ((j:Int)-1).toNat<l.length by omega),Int.pred_toNat,Int.toNat_natCast];simp;omega)];simp
 ·exact D2 hI j_ (by simp only[Od,Aat (show ((j:Int)-1).toNat<l.length by omega),Int.pred_toNat,Int.toNat_natCast];simp;omega)
 ·exact D2 hI j_ (by simp[Od];omega)
 ·rw[Hn,M1 hI j_,Bool.eq_iff_iff];simp;omega
 ·rw[Hn];simp;omega
theorem Bk {K:List Nat}:∀ (a b:List SV),Be K (a++b)=(Be K a && Be K b)
 | [],b=>by simp[Be]
 | x::a,b=>by simp[Be,Bk a b,Bool.and_assoc]
theorem My {f:FuncId} {first cap xs:List SV} (hc:(SV.clo (.func f) first cap).inn []=true) (hx:Be [] xs=true):Be [] (first++xs++cap)=true:=by
 simp only[SV.inn,Bool.and_eq_true]at hc
 rw[Bk,Bk,hc.1,hc.2,hx]
 rfl
def Ack (l:List Int) (most:Int):Bool:=decide (l.length=0) || Hn l 1 most
theorem Q8 (a:Int):Sy.Spec Tryz.prog 170 [Aa a] [] (Af false) []:=cT F170 Tryz.ntmps170 fun F hF=>by
 conv=>whnf
 exact Bo q_ (.cons .tmp .nil) (congrArg Af qd) q_
theorem Q7 (a:Int):Sy.Spec Tryz.prog 231 [Cy a] [] (Af false) []:=cT F231 Tryz.ntmps231 fun F hF=>by
 conv=>whnf
 exact Bo q_ (.cons .tmp .nil) (congrArg Af qd) q_
def A9 (a b:Int):Int:=if a<b then -1 else if a>b then 1 else 0
theorem Do (a b:Int):Sy.Spec Tryz.prog 103 [Aa a,Aa b] [] (Aa (A9 a b)) []:=cT F103 Tryz.ntmps103 fun F hF=>by
 conv=>whnf
 (repeat' (first | (refine⟨fun h=>?_,fun h=>?_⟩<;>(repeat (first | simp only[decide_eq_true_eq]at h | simp only[decide_eq_false_iff_not]at h))<;>((refine oO ?_))) | (refine Bo rfl (.cons .tmp .nil) ?_ rfl) | (refine c0 (Q8 a) F170 ?_;((refine oO ?_))) | (refine c0 (Q8 b) F170 ?_;((refine oO ?_);repeat((refine aF ?_);(refine oO ?_))))))
 all_goals (refine congrArg Aa ?_;clear hF;grind [A9])
theorem Vr (a b:Int):Sy.Spec Tryz.prog 172 [Cy a,Cy b] [] (Aa (A9 a b)) []:=cT F172 Tryz.ntmps172 fun F hF=>by
 conv=>whnf
 (repeat' (first | (refine⟨fun h=>?_,fun h=>?_⟩<;>(repeat (first | simp only[decide_eq_true_eq]at h | simp only[decide_eq_false_iff_not]at h))<;>((refine oO ?_))) | (refine Bo rfl (.cons .tmp .nil) ?_ rfl) | (refine c0 (Q7 a) F231 ?_;((refine oO ?_))) | (refine c0 (Q7 b) F231 ?_;((refine oO ?_);repeat((refine aF ?_);(refine oO ?_))))))
 all_goals (refine congrArg Aa ?_;clear hF;grind [A9])
def orI:List Int→Int
 | []=>0
 | x::l=>if x=0 then orI l else x
theorem Ok:∀ {l:List Int} {j:Nat},(∀ i (h:i<l.length),i<j→l[i]=0)→orI l=orI (l.drop j)
 | l,0,_=>rfl
 | [],j+1,_=>rfl
 | x::l,j+1,h=>by
  have h0:=h 0 qd j_
  simp only[List.getElem_cons_zero]at h0
  rw[orI,if_pos h0,List.drop_succ_cons]
  exact Ok fun i hi hij=>h (i+1) (by simp;omega) j_
theorem orS (l:List Int) (hl:D0 l):Sy.Spec Tryz.prog 102 [.sl 1 Aa l] [] (Aa (orI l)) []:=cT F102 Tryz.ntmps102 fun F hF=>by
 unfold D0 at hl
 conv=>whnf
 refine Bv l.length (fun j=>∀ i (h:i<l.length),i<j→l[i]=0) (fun j=>[(3,Aa 0),(6,.sl 1 Aa l),(7,Aa l.length),(8,Aa j)]) (fun _=>[]) [] (fun i h hj=>absurd hj j_) ⟨⟨q_,q_,q_,q_,q_,q_,q_,q_,z_⟩,z_,q_,q_⟩ ?_
 intro j hj hI
 refine oO ?_
 (repeat' (first | (refine⟨fun h=>?_,fun h=>?_⟩<;>(repeat (first | simp only[decide_eq_true_eq]at h | simp only[decide_eq_false_iff_not]at h | simp only[bne_iff_ne]at h | simp only[bne_eq_false_iff_eq]at h))<;>((refine oO ?_))) | (refine Bo rfl (.cons .tmp .nil) ?_ rfl) | (refine⟨y_,?_⟩;((conv=>whnf))) | (refine⟨by (omega),by (omega),?_⟩;((conv=>whnf))) | (refine⟨by (unfold I64;omega),?_⟩;((conv=>whnf))) | refine By [] hI j_ ?_ ⟨⟨rfl,rfl,rfl,rfl,rfl,rfl,rfl,rfl,trivial⟩,trivial,rfl,rfl⟩))
 all_goals try (refine congrArg Aa ?_)
 ·have hj2:j<l.length:=by omega
  rw[Ok hI,List.drop_eq_getElem_cons hj2,orI,if_neg (by simpa using h)]
  rfl
 ·intro i hi hij
  rcases Nat.lt_or_ge i j with h1 | h1
  ·exact hI i hi h1
  ·have:i=j:=by omega
   subst this
   simpa using h
 ·rw[Ok hI,List.drop_of_length_le j_]
  rfl
end Go.Sy.YtgblchnfjbkipaaGreatDoor
namespace Go.Sy.YtgblchnfjbkipaaGreatDoor
open Go.Proofs
structure LineM where
 row:Int
 kind:Int
 dev:ByteArray
 port:ByteArray
 peer:ByteArray
 far:ByteArray
 name:ByteArray
 mac:Int
 addr:Int
 bits:Int
 vlan:Int
 num:Int
 cost:Int
 tagged:List Int
 imports:List Int
 exports:List Int
 addrs:List Int
def Av (l:LineM):List SV:=[Aa l.row,Aa l.kind,Ac l.dev,Ac l.port,Ac l.peer,Ac l.far,Ac l.name,Cy l.mac,A1 l.addr,Aa l.bits,Aa l.vlan,Aa l.num,Aa l.cost,.sl 1 Aa l.tagged,.sl 1 Aa l.imports,.sl 1 Aa l.exports,.sl 1 A1 l.addrs]
def Ab (l:LineM):SV:=.agg [Aa l.row,Aa l.kind,Ac l.dev,Ac l.port,Ac l.peer,Ac l.far,Ac l.name,Cy l.mac,A1 l.addr,Aa l.bits,Aa l.vlan,Aa l.num,Aa l.cost,.sl 1 Aa l.tagged,.sl 1 Aa l.imports,.sl 1 Aa l.exports,.sl 1 A1 l.addrs]
theorem cmpI_ok:CmpOK A9:=Ab9
theorem Bp {a b:Int} (h:A9 a b=0):a=b:=Zs h
def Lj (x y:UInt8):Int:=A9 (x.toNat:Int) (y.toNat:Int)
theorem cmpU_ok:CmpOK Lj:=cmpI_ok.comap (fun x:UInt8=>(x.toNat:Int))
theorem Sh {x y:UInt8} (h:Lj x y=0):x=y:=by
 have:=Bp h
 exact UInt8.toNat_inj.1 j_
def Hf (a b:ByteArray):Int:=At Lj a.data.toList b.data.toList
theorem cmpB_ok:CmpOK Hf:=cmpU_ok.list.comap (fun b:ByteArray=>b.data.toList)
theorem En {a b:ByteArray} (h:Hf a b=0):a=b:=by
 have:=Dj (fun x y=>Sh) _ _ h
 obtain ⟨⟨a⟩⟩:=a
 obtain ⟨⟨b⟩⟩:=b
 simp at this
 rw[this]
theorem Kq:∀ (a b:List UInt8),Op.bytesLess a b=decide (At Lj a b<0)
 | [],[]=>by simp[Op.bytesLess,At]
 | [],_::_=>by simp[Op.bytesLess,At]
 | _::_,[]=>by simp[Op.bytesLess,At]
 | x::a,y::b=>by
  rw[Op.bytesLess,At,Kq a b]
  unfold Ez Lj A9
  have hx:=x.toNat_lt
  have hy:=y.toNat_lt
  by_cases h1:x<y
  ·have h2:(x.toNat:Int)<(y.toNat:Int):=by have:=UInt8.lt_iff_toNat_lt.1 h1;omega
   simp[h1,h2]
  ·have h2:¬ (x.toNat:Int)<(y.toNat:Int):=fun h=>h1 (UInt8.lt_iff_toNat_lt.2 j_)
   by_cases h3:x=y
   ·subst h3;simp
   ·have h4:(y.toNat:Int)<(x.toNat:Int):=by
     have:x.toNat≠y.toNat:=fun e=>h3 (UInt8.toNat_inj.1 e)
     omega
    simp[h1,h2,h3,h4]
theorem Abk {a b:List UInt8}:At Lj a b=if Op.bytesLess a b=true then -1 else if a=b then 0 else 1:=by
 rw[Kq]
 have hr:∀ (a b:List UInt8),At Lj a b=-1∨At Lj a b=0∨At Lj a b=1:=by
  intro a
  induction a with
  | nil=>intro b;cases b<;>simp[At]
  | cons x a ih =>
   intro b
   cases b with
   | nil=>simp[At]
   | cons y b =>
    rw[At]
    unfold Ez
    split
    ·unfold Lj A9;split
     ·simp
     ·split<;>simp
    ·exact ih b
 have h0:=Dj (c:=Lj) (fun x y=>Sh) a b
 rcases hr a b with h | h | h
 ·rw[h];simp
 ·rw[h,h0 h];simp
 ·have hne:a≠b:=fun e=>by
   subst e
   have:=cmpU_ok.list.self a
   omega
  rw[h,if_neg qd,if_neg hne]
theorem Us (x:Int) (l:List Int):orI (x::l)=Ez x (orI l):=by
 rw[orI];unfold Ez;split<;>simp_all
theorem CmpOK.const {α:Type}:CmpOK (fun _ _:α=>(0:Int)):=⟨fun _ _=>by simp,fun _ _ _ _ _=>by simp⟩
theorem CmpOK.orNil {α:Type}:CmpOK (fun _ _:α=>orI []):=CmpOK.const
theorem CmpOK.or {α:Type} {c:α→α→Int} {d:α→α→List Int} (hc:CmpOK c) (hd:CmpOK (fun x y=>orI (d x y))):CmpOK (fun x y=>orI (c x y::d x y)):=by
 have h:=hc.then hd
 simp only[Us]
 exact h
def stepI (k:Int):Int:=if k=1 then 1 else if k=5 then 2 else if k=2 then 3 else if k=3 then 4 else if k=4 then 5 else if k=6 then 6 else if k=7 then 7 else if k=8 then 8 else if k=9 then 9 else 10
def Td (a b:LineM):Int:=orI [Hf a.dev b.dev,Hf a.port b.port,Hf a.peer b.peer,Hf a.far b.far,Hf a.name b.name]
def Km (a b:LineM):Int:=orI [A9 a.vlan b.vlan,A9 a.num b.num,A9 a.mac b.mac,A9 a.addr b.addr,A9 a.bits b.bits,A9 a.cost b.cost]
def Tf (a b:LineM):Int:=orI [At A9 a.tagged b.tagged,At A9 a.imports b.imports,At A9 a.exports b.exports,At A9 a.addrs b.addrs]
def Jf (a b:LineM):Int:=orI [A9 (stepI a.kind) (stepI b.kind),Td a b,Km a b,Tf a b]
theorem lineC_ok:CmpOK Jf:=by
 have n:CmpOK Td:=.or (cmpB_ok.comap LineM.dev) (.or (cmpB_ok.comap LineM.port) (.or (cmpB_ok.comap LineM.peer) (.or (cmpB_ok.comap LineM.far) (.or (cmpB_ok.comap LineM.name) .orNil))))
 have u:CmpOK Km:=.or (cmpI_ok.comap LineM.vlan) (.or (cmpI_ok.comap LineM.num) (.or (cmpI_ok.comap LineM.mac) (.or (cmpI_ok.comap LineM.addr) (.or (cmpI_ok.comap LineM.bits) (.or (cmpI_ok.comap LineM.cost) .orNil)))))
 have l:CmpOK Tf:=.or (cmpI_ok.list.comap LineM.tagged) (.or (cmpI_ok.list.comap LineM.imports) (.or (cmpI_ok.list.comap LineM.exports) (.or (cmpI_ok.list.comap LineM.addrs) .orNil)))
 exact .or (cmpI_ok.comap (fun a:LineM=>stepI a.kind)) (.or n (.or u (.or l .orNil)))
def Cj (a b:LineM):Bool:=decide (Jf a b<0)
theorem lineB_ordy:Ordy Cj:=lineC_ok.ordy
def Cv (l:List LineM):List LineM:=l.mapIdx fun i x=>{ x with row:=i+1 }
def Ao (l:List LineM):List LineM:=Cv (Au Cj l)
end Go.Sy.YtgblchnfjbkipaaGreatDoor
namespace Go.Sy.YtgblchnfjbkipaaGreatDoor
open Go.Proofs Go.ChangeShapes Go.WideShapes Go.ChangeAt Go.RowKit
set_option maxRecDepth 100000
section
variable {H:Type} {enc:TypeId × Value→H} {W:World}
def LineM.In (x:LineM):Prop:=wI .i64 x.row∧wI .i64 x.kind∧x.dev.size≤maxLen∧x.port.size≤maxLen∧x.peer.size≤maxLen∧x.far.size≤maxLen∧x.name.size≤maxLen∧wI .u64 x.mac∧wI .u32 x.addr∧wI .i64 x.bits∧wI .i64 x.vlan∧wI .i64 x.num∧wI .i64 x.cost∧((∀ z∈x.tagged,wI .i64 z)∧x.tagged.length≤maxLen)∧((∀ z∈x.imports,wI .i64 z)∧x.imports.length≤maxLen)∧((∀ z∈x.exports,wI .i64 z)∧x.exports.length≤maxLen)∧((∀ z∈x.addrs,wI .u32 z)∧x.addrs.length≤maxLen)
theorem Y5:OpN enc Tryz.prog W 28 Ab LineM.In 17:=fun n cs y h=>by
 obtain ⟨xs,m,_,_,hlen,hx,hg⟩:=DataW.trod_struct Tryz.underlying28 h
 have hlen:cs.length=17:=hlen.trans (by kernel_rfl:Tryz.prog.cellsOf 28=17)
 have hx:xs.length=17:=hx
 match cs,hlen with
 | [c0,c1,c2,c3,c4,c5,c6,c7,c8,c9,c10,c11,c12,c13,c14,c15,c16],_ =>
  have g0:DataW.trod enc Tryz.prog W 0 (fun _=>true) true m 3 (([c0,c1,c2,c3,c4,c5,c6,c7,c8,c9,c10,c11,c12,c13,c14,c15,c16].drop 0).take (Tryz.prog.cellsOf 3))=xs[0]?:=hg 0 _ rfl
  rw[(by kernel_rfl:Tryz.prog.cellsOf 3=1),List.getElem?_eq_getElem j_]at g0
  obtain ⟨z0,p0,r0,o0⟩:=Ii Tryz.underlying3 _ _ _ g0
  have g1:DataW.trod enc Tryz.prog W 0 (fun _=>true) true m 3 (([c0,c1,c2,c3,c4,c5,c6,c7,c8,c9,c10,c11,c12,c13,c14,c15,c16].drop 1).take (Tryz.prog.cellsOf 3))=xs[1]?:=hg 1 _ rfl
  rw[(by kernel_rfl:Tryz.prog.cellsOf 3=1),List.getElem?_eq_getElem j_]at g1
  obtain ⟨z1,p1,r1,o1⟩:=Ii Tryz.underlying3 _ _ _ g1
  have g2:DataW.trod enc Tryz.prog W 0 (fun _=>true) true m 9 (([c0,c1,c2,c3,c4,c5,c6,c7,c8,c9,c10,c11,c12,c13,c14,c15,c16].drop 2).take (Tryz.prog.cellsOf 9))=xs[2]?:=hg 2 _ rfl
  rw[(by kernel_rfl:Tryz.prog.cellsOf 9=1),List.getElem?_eq_getElem j_]at g2
  obtain ⟨z2,p2,r2,o2⟩:=Ol Tryz.underlying9 _ _ _ g2
  have g3:DataW.trod enc Tryz.prog W 0 (fun _=>true) true m 9 (([c0,c1,c2,c3,c4,c5,c6,c7,c8,c9,c10,c11,c12,c13,c14,c15,c16].drop 3).take (Tryz.prog.cellsOf 9))=xs[3]?:=hg 3 _ rfl
  rw[(by kernel_rfl:Tryz.prog.cellsOf 9=1),List.getElem?_eq_getElem j_]at g3
  obtain ⟨z3,p3,r3,o3⟩:=Ol Tryz.underlying9 _ _ _ g3
  have g4:DataW.trod enc Tryz.prog W 0 (fun _=>true) true m 9 (([c0,c1,c2,c3,c4,c5,c6,c7,c8,c9,c10,c11,c12,c13,c14,c15,c16].drop 4).take (Tryz.prog.cellsOf 9))=xs[4]?:=hg 4 _ rfl
  rw[(by kernel_rfl:Tryz.prog.cellsOf 9=1),List.getElem?_eq_getElem j_]at g4
  obtain ⟨z4,p4,r4,o4⟩:=Ol Tryz.underlying9 _ _ _ g4
  have g5:DataW.trod enc Tryz.prog W 0 (fun _=>true) true m 9 (([c0,c1,c2,c3,c4,c5,c6,c7,c8,c9,c10,c11,c12,c13,c14,c15,c16].drop 5).take (Tryz.prog.cellsOf 9))=xs[5]?:=hg 5 _ rfl
  rw[(by kernel_rfl:Tryz.prog.cellsOf 9=1),List.getElem?_eq_getElem j_]at g5
  obtain ⟨z5,p5,r5,o5⟩:=Ol Tryz.underlying9 _ _ _ g5
  have g6:DataW.trod enc Tryz.prog W 0 (fun _=>true) true m 9 (([c0,c1,c2,c3,c4,c5,c6,c7,c8,c9,c10,c11,c12,c13,c14,c15,c16].drop 6).take (Tryz.prog.cellsOf 9))=xs[6]?:=hg 6 _ rfl
  rw[(by kernel_rfl:Tryz.prog.cellsOf 9=1),List.getElem?_eq_getElem j_]at g6
  obtain ⟨z6,p6,r6,o6⟩:=Ol Tryz.underlying9 _ _ _ g6
  have g7:DataW.trod enc Tryz.prog W 0 (fun _=>true) true m 23 (([c0,c1,c2,c3,c4,c5,c6,c7,c8,c9,c10,c11,c12,c13,c14,c15,c16].drop 7).take (Tryz.prog.cellsOf 23))=xs[7]?:=hg 7 _ rfl
  rw[(by kernel_rfl:Tryz.prog.cellsOf 23=1),List.getElem?_eq_getElem j_]at g7
  obtain ⟨z7,p7,r7,o7⟩:=Ii Tryz.underlying23 _ _ _ g7
  have g8:DataW.trod enc Tryz.prog W 0 (fun _=>true) true m 24 (([c0,c1,c2,c3,c4,c5,c6,c7,c8,c9,c10,c11,c12,c13,c14,c15,c16].drop 8).take (Tryz.prog.cellsOf 24))=xs[8]?:=hg 8 _ rfl
  rw[(by kernel_rfl:Tryz.prog.cellsOf 24=1),List.getElem?_eq_getElem j_]at g8
  obtain ⟨z8,p8,r8,o8⟩:=Ii Tryz.underlying24 _ _ _ g8
  have g9:DataW.trod enc Tryz.prog W 0 (fun _=>true) true m 3 (([c0,c1,c2,c3,c4,c5,c6,c7,c8,c9,c10,c11,c12,c13,c14,c15,c16].drop 9).take (Tryz.prog.cellsOf 3))=xs[9]?:=hg 9 _ rfl
  rw[(by kernel_rfl:Tryz.prog.cellsOf 3=1),List.getElem?_eq_getElem j_]at g9
  obtain ⟨z9,p9,r9,o9⟩:=Ii Tryz.underlying3 _ _ _ g9
  have g10:DataW.trod enc Tryz.prog W 0 (fun _=>true) true m 3 (([c0,c1,c2,c3,c4,c5,c6,c7,c8,c9,c10,c11,c12,c13,c14,c15,c16].drop 10).take (Tryz.prog.cellsOf 3))=xs[10]?:=hg 10 _ rfl
  rw[(by kernel_rfl:Tryz.prog.cellsOf 3=1),List.getElem?_eq_getElem j_]at g10
  obtain ⟨z10,p10,r10,o10⟩:=Ii Tryz.underlying3 _ _ _ g10
  have g11:DataW.trod enc Tryz.prog W 0 (fun _=>true) true m 3 (([c0,c1,c2,c3,c4,c5,c6,c7,c8,c9,c10,c11,c12,c13,c14,c15,c16].drop 11).take (Tryz.prog.cellsOf 3))=xs[11]?:=hg 11 _ rfl
  rw[(by kernel_rfl:Tryz.prog.cellsOf 3=1),List.getElem?_eq_getElem j_]at g11
  obtain ⟨z11,p11,r11,o11⟩:=Ii Tryz.underlying3 _ _ _ g11
  have g12:DataW.trod enc Tryz.prog W 0 (fun _=>true) true m 3 (([c0,c1,c2,c3,c4,c5,c6,c7,c8,c9,c10,c11,c12,c13,c14,c15,c16].drop 12).take (Tryz.prog.cellsOf 3))=xs[12]?:=hg 12 _ rfl
  rw[(by kernel_rfl:Tryz.prog.cellsOf 3=1),List.getElem?_eq_getElem j_]at g12
  obtain ⟨z12,p12,r12,o12⟩:=Ii Tryz.underlying3 _ _ _ g12
  have g13:DataW.trod enc Tryz.prog W 0 (fun _=>true) true m 25 (([c0,c1,c2,c3,c4,c5,c6,c7,c8,c9,c10,c11,c12,c13,c14,c15,c16].drop 13).take (Tryz.prog.cellsOf 25))=xs[13]?:=hg 13 _ rfl
  rw[(by kernel_rfl:Tryz.prog.cellsOf 25=1),List.getElem?_eq_getElem j_]at g13
  obtain ⟨z13,p13,r13,o13⟩:=S8 _ _ _ g13
  have g14:DataW.trod enc Tryz.prog W 0 (fun _=>true) true m 25 (([c0,c1,c2,c3,c4,c5,c6,c7,c8,c9,c10,c11,c12,c13,c14,c15,c16].drop 14).take (Tryz.prog.cellsOf 25))=xs[14]?:=hg 14 _ rfl
  rw[(by kernel_rfl:Tryz.prog.cellsOf 25=1),List.getElem?_eq_getElem j_]at g14
  obtain ⟨z14,p14,r14,o14⟩:=S8 _ _ _ g14
  have g15:DataW.trod enc Tryz.prog W 0 (fun _=>true) true m 25 (([c0,c1,c2,c3,c4,c5,c6,c7,c8,c9,c10,c11,c12,c13,c14,c15,c16].drop 15).take (Tryz.prog.cellsOf 25))=xs[15]?:=hg 15 _ rfl
  rw[(by kernel_rfl:Tryz.prog.cellsOf 25=1),List.getElem?_eq_getElem j_]at g15
  obtain ⟨z15,p15,r15,o15⟩:=S8 _ _ _ g15
  have g16:DataW.trod enc Tryz.prog W 0 (fun _=>true) true m 26 (([c0,c1,c2,c3,c4,c5,c6,c7,c8,c9,c10,c11,c12,c13,c14,c15,c16].drop 16).take (Tryz.prog.cellsOf 26))=xs[16]?:=hg 16 _ rfl
  rw[(by kernel_rfl:Tryz.prog.cellsOf 26=1),List.getElem?_eq_getElem j_]at g16
  obtain ⟨z16,p16,r16,o16⟩:=Ab1 _ _ _ g16
  refine⟨⟨z0,z1,z2,z3,z4,z5,z6,z7,z8,z9,z10,z11,z12,z13,z14,z15,z16⟩,⟨p0,p1,p2,p3,p4,p5,p6,p7,p8,p9,p10,p11,p12,p13,p14,p15,p16⟩,q_,fun c hc=>?_,?_⟩
  ·simp only[List.mem_cons,List.not_mem_nil,or_false]at hc
   rcases hc with rfl | rfl | rfl | rfl | rfl | rfl | rfl | rfl | rfl | rfl | rfl | rfl | rfl | rfl | rfl | rfl | rfl<;>assumption
  ·simp only[Ab,cellsOf,RdL]
   exact⟨_,_,q_,r0,_,_,q_,r1,_,_,q_,r2,_,_,q_,r3,_,_,q_,r4,_,_,q_,r5,_,_,q_,r6,_,_,q_,r7,_,_,q_,r8,_,_,q_,r9,_,_,q_,r10,_,_,q_,r11,_,_,q_,r12,_,_,q_,r13,_,_,q_,r14,_,_,q_,r15,_,_,q_,r16,q_⟩
theorem Aao:Op1 enc Tryz.prog W 22 (fun l:List LineM=>.sl 17 Ab l) (fun l=>(∀ x∈l,LineM.In x)∧l.length≤maxLen) :=
 Om Tryz.underlying22 (by kernel_rfl:Tryz.prog.cellsOf 28=17) qc (fun _=>rfl) (fun _=>rfl) Y5
end
end Go.Sy.YtgblchnfjbkipaaGreatDoor
namespace Go.Sy
theorem Yk {κ:Ka} {w:World} {x:SV}:∀ {l:List SV} {cs:List Value} {i:Nat},RdL κ w l cs→(∀ y v,l[i]? = some y→Rd κ w y v→Rd κ w x v)→RdL κ w (l.set i x) cs
 | [],_,_,h,_=>h
 | y::l,cs,0,h,hx=>by
  simp only[RdL,List.set_cons_zero]at h ⊢
  obtain ⟨v,r,e1,e2,e3⟩:=h
  exact⟨v,r,e1,hx y v q_ e2,e3⟩
 | y::l,cs,i+1,h,hx=>by
  simp only[RdL,List.set_cons_succ]at h ⊢
  obtain ⟨v,r,e1,e2,e3⟩:=h
  exact⟨v,r,e1,e2,Yk e3 (fun z u hz hu=>hx z u hz hu)⟩
theorem V3 {C:Cx} {k:List KI} {s:SS} (b i d sz:Nat) {α:Type} (e:α→SV) {l:List SV} (hb:s.h b=.box l) (h:l[i]? = some (.val (.slice none 0 0))) (hd:s.h d=.fresh) (hbd:Nat.beq b d=false)
  (hg:G C k ⟨s.σ,upd (upd s.h b (.box (l.set i (.osl d)))) d (.row sz e [])⟩):G C k s:=fun κ a w hs=>by
 have hne:b≠d:=fun e=>by rw[e,Nat.beq_refl]at hbd;cases hbd
 have hnew:κ d=.new:=by have:=hs.obj d;rwa [hd]at this
 obtain ⟨st,inv⟩:=Da hs.inv hnew (e:=.nil) (Grew.refl w) (fun b hb=>by cases hb)
 refine hg (Cr κ d .nil) a w ⟨hs.defers,hs.size,inv,hs.ctx.step inv st,fun j=>Rd.step st _ _ (hs.slot j),fun j=>?_⟩
 show ObOK _ w j (upd (upd s.h b (.box (l.set i (.osl d)))) d (.row sz e []) j)
 by_cases hj:j=d
 ·subst hj;rw[Bc];exact .inl ⟨Ag _ _ _,rfl⟩
 ·rw[Bz _ _ hj]
  by_cases hjb:j=b
  ·subst hjb
   rw[Bc]
   have:=ObOK.step st hj _ (hs.obj j)
   rw[hb]at this
   obtain ⟨b',cs,T,fr,e1,e2,e3,e4,e5⟩:=this
   refine⟨b',cs,T,fr,e1,e2,e3,e4,Yk e5 fun y v hy hv=>?_⟩
   rw[h]at hy
   cases hy
   simp only[Rd]at hv
   simp only[Rd,Ag]
   exact hv
  ·rw[Bz _ _ hjb];exact ObOK.step st hj _ (hs.obj j)
theorem I2 {P:Program} (w:World) {t e:TypeId} (h:P.underlying t=some (.slice e)) (ad:Option Addr) (n cap c1 c2:Nat):(Op.equal t (.slice ad n cap) (.slice none c1 c2)).run P w=.ok ad.isNone w:=by
 have key:∀ d,(Op.equalIn (d+1) t (.slice ad n cap) (.slice none c1 c2)).run P w=.ok ad.isNone w:=fun d=>by
  cases ad<;>simp[Op.equalIn,run_underlying h]
 exact key 9999
inductive NilT (s:SS):SV→List Nat→Nat→Prop
 | sl {sz:Nat} {α:Type} {e:α→SV} {l:List α}:NilT s (.sl sz e l) [] l.length
 | row {k sz:Nat} {α:Type} {e:α→SV} {l:List α} (h:s.h k=.row sz e l):NilT s (.osl k) [k] l.length
theorem NilT.at {C:Cx} {s:SS} {κ:Ka} {a:Act} {w:World} {x:Operand} {rd:List Nat} {n:Nat} (hs:St C.F C.n s κ a w) (hx:NilT s (ev s x) rd n):∃ (ad:Option Addr) (m cap:Nat),a.eval x=.slice ad m cap∧(ad.isNone=true→n=0):=by
 have h1:Rd κ w (ev s x) (a.eval x):=hs.ev x
 generalize ev s x=y at *
 cases hx with
 | @sl sz α e l =>
  simp only[Rd,RdD]at h1
  rcases h1 with ⟨rfl,a',cap,h1⟩ | ⟨b,off,cap,h1,_⟩
  ·exact⟨_,_,_,h1,fun _=>rfl⟩
  ·exact⟨_,_,_,h1,fun h=>by cases h⟩
 | @row k' sz α e l hr =>
  have hob:=hs.obj k'
  rw[hr]at hob
  simp only[Rd]at h1
  rcases hob with ⟨hκ,hl⟩ | ⟨b,cap,_,_,_,hκ,_⟩
  ·rw[hκ]at h1
   exact⟨_,_,_,h1,fun _=>by rw[hl];rfl⟩
  ·rw[hκ]at h1
   exact⟨_,_,_,h1,fun h=>by cases h⟩
theorem X4 {C:Cx} {k:List KI} {s:SS} {all:Array Oper} {o:Oper} {rest:List Oper} {op:BinOp} {t yt:TypeId} {ti:TI} {et:TypeId} {sz eb n:Nat} {ez:List Value} {x y:Operand} {rd:List Nat} (h:o.op=.binOp op t x y yt) (hop:op=.eql∨op=.neq)
  (ht:C.Γ.get t=some ti) (hk:ti.k=.slice et sz eb ez) (hy:ev s y=.val (.slice none 0 0)) (hx:NilT s (ev s x) rd n) (hd:Jk C.n o=true) (hw:B6 C.n all o s=some true)
  (hg:∀ b:Bool,(b=true→n=0)→G C (.ops all rest::k) (s.upd o.dst ⟨.val (.bool (if op=.eql then b else !b)),rd,[]⟩)):G C (.ops all (o::rest)::k) s:=fun κ a w hs=>by
 have h2:Rd κ w (ev s y) (a.eval y):=hs.ev y
 rw[hy]at h2
 obtain ⟨ad,m,cap,e1,e2⟩:=hx.at hs
 obtain ⟨d,info,z,k1,k2,_⟩:=C.Γ.ok t ti ht
 rw[hk]at k2
 simp only[TK.ok]at k2
 have hrun:=I2 (P:=C.P) w (t:=t) (e:=et) (by first | exact k2.1 ▸ k1 | (rw[k1,k2.1])) ad m cap 0 0
 have hG:=hg ad.isNone e2
 have hv:=h2.val
 refine wpList_step fun K hK=>?_
 rw[if_pos (It hs (B0 hw).2 (B0 hw).1)]
 have hx':(execOp a.eval o).run C.P w=.ok (.value (.bool (if op=.eql then ad.isNone else !ad.isNone))) w:=by
  rcases hop with rfl | rfl<;>simp[execOp,h,e1,hv,eqGuard,binOp,hrun]
 simp only[Oper.wp,hx',Oper.upon]
 exact hK _ _ (hG κ _ w (hs.put (U:=⟨.val (.bool (if op=.eql then ad.isNone else !ad.isNone)),rd,[]⟩) (O5 hd) (Step.refl _ κ w) hs.inv (by simp[Rd]) (fun p hp=>by cases hp)))
def KeepL (s:SS):List (Nat × Ob)→Prop
 | []=>True
 | (k,o)::r=>s.h k=o∧KeepL s r
theorem KeepL.all {s:SS}:∀ {l:List (Nat × Ob)},KeepL s l→∀ p∈l,s.h p.1=p.2
 | [],_,p,hp=>by cases hp
 | (k,o)::r,h,p,hp=>by
  rcases List.mem_cons.1 hp with rfl | hp
  ·exact h.1
  ·exact KeepL.all h.2 p hp
theorem stepD2 {C:Cx} {k:List KI} {s:SS} {all:Array Oper} {done:List Stp} {o:Oper} {rest:List Oper} {U:Up} (hg:Good C.P o s U) (hk:KeepL s U.objs) (hi:all[done.length]? = some o) (hw:B6 C.n all o s=some true)
  (h:DR C k all (done++[⟨done.length,o,⟨U.v,U.rd++U.ws,[]⟩,true⟩]) rest (s.upd o.dst ⟨U.v,U.rd++U.ws,[]⟩)) (hn:(Dm o || E7 o)=false:=by rfl):DR C k all done (o::rest) s :=
 Abs _ (.of2 (hg.keep hk.all) hn) hi (B0 hw).1 h
theorem Qu {κ:Ka} {w w':World} (hi:Inv κ w) (g:Grew w w'):Step (fun _=>False) κ w κ w'∧Inv κ w' :=
 ⟨⟨g.size,g.os,g.tape,g.output,rfl,fun b hb=>g.blk b (hi.mbnd b hb),fun b hb _=>g.blk b hb,fun k b _ hb=>g.blk b (hi.bnd k b hb),fun _ _=>rfl,fun _ h=>h.elim,fun _ h=>.inl h⟩,
  ⟨hi.inj,fun k b h=>Nat.lt_of_lt_of_le (hi.bnd k b h) g.size,hi.apart,fun b h=>Nat.lt_of_lt_of_le (hi.mbnd b h) g.size⟩⟩
theorem Spec.of_calls {P:Program} {f:FuncId} {A:List SV} {H:Obs} {u:Value}
  (h:∀ (κ:Ka) (w:World) (vs:List Value),Inv κ w→RdL κ w A vs→H.ok κ w→Calls P f vs.toArray w fun e w'=>e=.returned u∧RowKit.Below w.heap.size w w'):Spec P f A H (.val u) H:=by
 intro κ w vs hi _ hr ho
 refine(h κ w vs hi hr ho).mono fun e w' hw=>?_
 obtain ⟨he,hw⟩:=hw
 have g:Grew w w':=⟨hw.os,hw.tape,hw.output,hw.size,hw.block⟩
 have st:=Qu hi g
 exact⟨u,κ,he,(Ctx.refl κ w).step st.2 st.1,st.2,by simp[Rd],fun p hp=>ObOK.step st.1 qd p.2 (ho p hp)⟩
theorem V6 {κ:Ka} {w:World} {l:List ByteArray} {v:Value} (h:Rd κ w (.sl 1 Ac l) v) :
  (l=[]∧∃ a c,v=.slice a 0 c)∨∃ b o c,v=.slice (some ⟨b,o,none⟩) l.length c∧l.length≤c∧b<w.heap.size∧∀ (j:Nat) x,l[j]? = some x→w.cell? ⟨b,o+j,none⟩=some (.string x):=by
 simp only[Rd,RdD]at h
 rcases h with ⟨h1,h2⟩ | ⟨b,off,cap,h1,h0,h2,h3,h4⟩
 ·exact .inl ⟨h1,h2⟩
 ·refine .inr ⟨b,off,cap,h1,h0,h3,fun j x hj=>?_⟩
  obtain ⟨hlt,he⟩:=List.getElem?_eq_some_iff.1 hj
  obtain ⟨u,h5,h6⟩:=h4 j hlt
  rw[he]at h5
  simp only[Ac,RdD]at h5
  subst h5
  have:=h6.2.2 0 j_
  simp only[Nat.mul_one,Nat.add_zero]at this
  exact this
def D8 (l:List ByteArray) (sep:ByteArray):ByteArray:=⟨(Lib.join (l.map (·.data.toList)) sep.data.toList).toArray⟩
def Hb (l:List ByteArray):Nat:=(l.map (·.size)).sum
theorem X9:∀ (l:List (List UInt8)) (sep:List UInt8),(Lib.join l sep).length≤(l.map (·.length)).sum+sep.length * l.length
 | [],_=>by simp[Lib.join_nil]
 | x::r,sep=>by
  rw[Lib.join_length]
  have:Lib.lens (x::r)=((x::r).map (·.length)).sum:=by
   clear sep
   induction (x::r) with
   | nil=>rfl
   | cons a t ih=>simp[Lib.lens,ih]
  rw[this,List.length_cons,Nat.mul_succ]
  omega
theorem Aa0 {l:List ByteArray} {sep:ByteArray} (h1:Hb l≤70368744177664) (h2:sep.size * l.length≤70368744177664):(Lib.join (l.map (·.data.toList)) sep.data.toList).length≤140737488355328:=by
 have:=X9 (l.map (·.data.toList)) sep.data.toList
 have e:(l.map (·.data.toList)).map (·.length)=l.map (·.size):=by
  rw[List.map_map]
  apply List.map_congr_left
  intro a _
  rfl
 rw[e,List.length_map]at this
 have e2:sep.data.toList.length=sep.size:=rfl
 rw[e2]at this
 unfold Hb at h1
 omega
end Go.Sy
namespace Go.Proofs
open Go.Shelf
def Tryz.lays156_ren:Go.Shelf.Ren:=⟨fun | 156=>255 | 165=>303 | 166=>304 | 169=>305 | 240=>353 | 241=>354 | 276=>386 | 277=>387 | n=>n,fun | 31=>164 | 9=>9 | 3=>3 | 4=>4 | 0=>0 | 20=>20 | 72=>302 | 76=>305 | 70=>300 | 37=>35 | 75=>304 | 127=>330 | 164=>338 | 5=>5 | 80=>223 | n=>n,fun | n=>n⟩
theorem Tryz.lays156:Go.Proofs.Lays.n156 Tryz.prog Tryz.lays156_ren:={
 mixed:=by kernel_rfl
 f156:=Tryz.func255.trans (congrArg some Go.Sy.y_)
 f165:=Tryz.func303.trans (congrArg some Go.Sy.y_)
 f166:=Tryz.func304.trans (congrArg some Go.Sy.y_)
 f169:=Tryz.func305.trans (congrArg some Go.Sy.y_)
 f240:=Tryz.func353.trans (congrArg some Go.Sy.y_)
 f241:=Tryz.func354.trans (congrArg some Go.Sy.y_)
 f276:=Tryz.func386.trans (congrArg some Go.Sy.y_)
 f277:=Tryz.func387.trans (congrArg some Go.Sy.y_)
 t0:=Tryz.underlying0
 a0:=Tryz.isAgg0
 z0:=Tryz.sizeOf0
 v0:=Tryz.zeroValue0
 t3:=Tryz.underlying3
 a3:=Tryz.isAgg3
 z3:=Tryz.sizeOf3
 v3:=Tryz.zeroValue3
 t4:=Tryz.underlying4
 a4:=Tryz.isAgg4
 z4:=Tryz.sizeOf4
 v4:=Tryz.zeroValue4
 t9:=Tryz.underlying9
 a9:=Tryz.isAgg9
 z9:=Tryz.sizeOf9
 v9:=Tryz.zeroValue9
 t20:=Tryz.underlying20
 a20:=Tryz.isAgg20
 z20:=Tryz.sizeOf20
 v20:=Tryz.zeroValue20
 t31:=Tryz.underlying164
 a31:=Tryz.isAgg164
 z31:=Tryz.sizeOf164
 v31:=Tryz.zeroValue164
 t37:=Tryz.underlying35
 a37:=Tryz.isAgg35
 z37:=Tryz.sizeOf35
 v37:=Tryz.zeroValue35
 t70:=Tryz.underlying300
 a70:=Tryz.isAgg300
 z70:=Tryz.sizeOf300
 v70:=Tryz.zeroValue300
 t72:=Tryz.underlying302
 a72:=Tryz.isAgg302
 z72:=Tryz.sizeOf302
 v72:=Tryz.zeroValue302
 t75:=Tryz.underlying304
 a75:=Tryz.isAgg304
 z75:=Tryz.sizeOf304
 v75:=Tryz.zeroValue304
 t76:=Tryz.underlying305
 a76:=Tryz.isAgg305
 z76:=Tryz.sizeOf305
 v76:=Tryz.zeroValue305
 t127:=Tryz.underlying330
 a127:=Tryz.isAgg330
 z127:=Tryz.sizeOf330
 v127:=Tryz.zeroValue330
 t164:=Tryz.underlying338
 a164:=Tryz.isAgg338
 z164:=Tryz.sizeOf338
 v164:=Tryz.zeroValue338 }
theorem Tryz.Builder_Extra_156:Builder.Extra Tryz.prog Tryz.lays156_ren:={
 sizeBuilder:=by kernel_rfl
 liesBuilder:=by kernel_rfl
 t5:=Tryz.underlying5
 a5:=Tryz.isAgg5
 z5:=Tryz.sizeOf5
 v5:=Tryz.zeroValue5
 infoByte:=by kernel_rfl
 cellsByte:=by kernel_rfl
 sizeByte:=by kernel_rfl
 neB5:=by decide }
open Go.RowKit in
theorem Tryz.strings_Join_none (a:Option Addr) (c:Nat) (sep:ByteArray) (w:World) :
  Calls Tryz.prog 255 #[.slice a 0 c,.string sep] w fun e w'=>e=.returned (.string ⟨#[]⟩)∧w'=w:=Any.strings_Join_none Tryz.lays156 Tryz.Builder_Extra_156 a c sep w
open Go.RowKit in
theorem Tryz.strings_Join (bk o c:Nat) (xs:List ByteArray) (sep:ByteArray) (w:World) (hcells:∀ (j:Nat) x,xs[j]? = some x→w.cell? ⟨bk,o+j,none⟩=some (.string x)) (hbk:bk<w.heap.size) (hN:xs.length≤140737488355328) (hcap:xs.length≤c) (hlen:(Lib.join (xs.map (·.data.toList)) sep.data.toList).length≤140737488355328) :
  Calls Tryz.prog 255 #[.slice (some ⟨bk,o,none⟩) xs.length c,.string sep] w fun e w'=>e=.returned (.string ⟨(Lib.join (xs.map (·.data.toList)) sep.data.toList).toArray⟩)∧Below w.heap.size w w':=Any.strings_Join Tryz.lays156 Tryz.Builder_Extra_156 bk o c xs sep w hcells hbk hN hcap hlen
def Tryz.lays219_ren:Go.Shelf.Ren:=⟨fun | 219=>288 | 217=>341 | 225=>342 | 224=>343 | 267=>344 | 266=>382 | 314=>383 | n=>n,fun | 9=>9 | 3=>3 | 4=>4 | 5=>5 | 46=>257 | 146=>350 | 51=>24 | n=>n,fun | 1=>0 | n=>n⟩
theorem Tryz.lays219:Go.Proofs.Lays.n219 Tryz.prog Tryz.lays219_ren:={
 mixed:=by kernel_rfl
 f217:=Tryz.func341.trans (congrArg some Go.Sy.y_)
 f219:=Tryz.func288.trans (congrArg some Go.Sy.y_)
 f224:=Tryz.func343.trans (congrArg some Go.Sy.y_)
 f225:=Tryz.func342.trans (congrArg some Go.Sy.y_)
 f266:=Tryz.func382.trans (congrArg some Go.Sy.y_)
 f267:=Tryz.func344.trans (congrArg some Go.Sy.y_)
 f314:=Tryz.func383.trans (congrArg some Go.Sy.y_)
 t3:=Tryz.underlying3
 a3:=Tryz.isAgg3
 z3:=Tryz.sizeOf3
 v3:=Tryz.zeroValue3
 t4:=Tryz.underlying4
 a4:=Tryz.isAgg4
 z4:=Tryz.sizeOf4
 v4:=Tryz.zeroValue4
 t5:=Tryz.underlying5
 a5:=Tryz.isAgg5
 z5:=Tryz.sizeOf5
 v5:=Tryz.zeroValue5
 t9:=Tryz.underlying9
 a9:=Tryz.isAgg9
 z9:=Tryz.sizeOf9
 v9:=Tryz.zeroValue9
 t46:=Tryz.underlying257
 a46:=Tryz.isAgg257
 z46:=Tryz.sizeOf257
 v46:=Tryz.zeroValue257
 t51:=Tryz.underlying24
 a51:=Tryz.isAgg24
 z51:=Tryz.sizeOf24
 v51:=Tryz.zeroValue24
 t146:=Tryz.underlying350
 a146:=Tryz.isAgg350
 z146:=Tryz.sizeOf350
 v146:=Tryz.zeroValue350
 g1:=by kernel_rfl }
open Go.RowKit Go.Lib in
theorem Tryz.stringslite_Index_one (s:ByteArray) (c:UInt8) (w:World) :
  Calls Tryz.prog 288 #[.string s,.string ⟨#[c]⟩] w fun e w'=>e=.returned (.int .i64 (Lib.indexByte s.data.toList c))∧w'=w:=Any.stringslite_Index_one Tryz.lays219 s c w
def Tryz.lays143_ren:Go.Shelf.Ren:=⟨fun | 143=>348 | 219=>288 | 217=>341 | 225=>342 | 224=>343 | 267=>344 | 266=>382 | 314=>383 | n=>n,fun | 9=>9 | 3=>3 | 4=>4 | 5=>5 | 46=>257 | 146=>350 | 51=>24 | n=>n,fun | 1=>0 | n=>n⟩
theorem Tryz.lays143:Go.Proofs.Lays.n143 Tryz.prog Tryz.lays143_ren:={
 mixed:=by kernel_rfl
 f143:=Tryz.func348.trans (congrArg some Go.Sy.y_)
 f217:=Tryz.func341.trans (congrArg some Go.Sy.y_)
 f219:=Tryz.func288.trans (congrArg some Go.Sy.y_)
 f224:=Tryz.func343.trans (congrArg some Go.Sy.y_)
 f225:=Tryz.func342.trans (congrArg some Go.Sy.y_)
 f266:=Tryz.func382.trans (congrArg some Go.Sy.y_)
 f267:=Tryz.func344.trans (congrArg some Go.Sy.y_)
 f314:=Tryz.func383.trans (congrArg some Go.Sy.y_)
 t3:=Tryz.underlying3
 a3:=Tryz.isAgg3
 z3:=Tryz.sizeOf3
 v3:=Tryz.zeroValue3
 t4:=Tryz.underlying4
 a4:=Tryz.isAgg4
 z4:=Tryz.sizeOf4
 v4:=Tryz.zeroValue4
 t5:=Tryz.underlying5
 a5:=Tryz.isAgg5
 z5:=Tryz.sizeOf5
 v5:=Tryz.zeroValue5
 t9:=Tryz.underlying9
 a9:=Tryz.isAgg9
 z9:=Tryz.sizeOf9
 v9:=Tryz.zeroValue9
 t46:=Tryz.underlying257
 a46:=Tryz.isAgg257
 z46:=Tryz.sizeOf257
 v46:=Tryz.zeroValue257
 t51:=Tryz.underlying24
 a51:=Tryz.isAgg24
 z51:=Tryz.sizeOf24
 v51:=Tryz.zeroValue24
 t146:=Tryz.underlying350
 a146:=Tryz.isAgg350
 z146:=Tryz.sizeOf350
 v146:=Tryz.zeroValue350
 g1:=by kernel_rfl }
open Go.RowKit Go.Lib in
theorem Tryz.strings_Index_one (s:ByteArray) (c:UInt8) (w:World) :
  Calls Tryz.prog 348 #[.string s,.string ⟨#[c]⟩] w fun e w'=>e=.returned (.int .i64 (Lib.indexByte s.data.toList c))∧w'=w:=Any.strings_Index_one Tryz.lays143 s c w
def Tryz.lays101_ren:Go.Shelf.Ren:=⟨fun | 101=>289 | 208=>345 | 206=>384 | n=>n,fun | 9=>9 | 4=>4 | 3=>3 | n=>n,fun | n=>n⟩
theorem Tryz.lays101:Go.Proofs.Lays.n101 Tryz.prog Tryz.lays101_ren:={
 mixed:=by kernel_rfl
 f101:=Tryz.func289.trans (congrArg some Go.Sy.y_)
 f206:=Tryz.func384.trans (congrArg some Go.Sy.y_)
 f208:=Tryz.func345.trans (congrArg some Go.Sy.y_)
 t3:=Tryz.underlying3
 a3:=Tryz.isAgg3
 z3:=Tryz.sizeOf3
 v3:=Tryz.zeroValue3
 t4:=Tryz.underlying4
 a4:=Tryz.isAgg4
 z4:=Tryz.sizeOf4
 v4:=Tryz.zeroValue4
 t9:=Tryz.underlying9
 a9:=Tryz.isAgg9
 z9:=Tryz.sizeOf9
 v9:=Tryz.zeroValue9 }
open Go.RowKit Go.Lib in
theorem Tryz.strings_TrimPrefix (s p:ByteArray) (w:World) :
  Calls Tryz.prog 289 #[.string s,.string p] w fun e w'=>e=.returned (.string ⟨(Lib.trimPrefix s.data.toList p.data.toList).toArray⟩)∧w'=w:=Any.strings_TrimPrefix Tryz.lays101 s p w
end Go.Proofs
namespace Go.Sy.YtgblchnfjbkipaaGreatDoor
open Go.Proofs
theorem M6 (l:List ByteArray) (sep:ByteArray) (h0:l.length≤70368744177664) (h1:Hb l≤70368744177664) (h2:sep.size * l.length≤70368744177664) :
  Sy.Spec Tryz.prog 255 [.sl 1 Ac l,Ac sep] [] (Ac (D8 l sep)) [] :=
 Spec.of_calls fun κ w vs hi hr _=>by
  simp only[RdL]at hr
  obtain ⟨v,r,rfl,h3,u,r',rfl,h4,rfl⟩:=hr
  have h4':u=.string sep:=by simpa only [Ac,Rd] using h4
  subst h4'
  rcases V6 h3 with ⟨rfl,a,c,rfl⟩ | ⟨b,o,c,rfl,hc,hb,hcell⟩
  ·exact(Tryz.strings_Join_none a c sep w).mono fun e w' ⟨he,hw⟩=>⟨he,hw ▸ RowKit.Below.refl _ _⟩
  ·exact Tryz.strings_Join b o c l sep w hcell hb j_ hc (Aa0 h1 h2)
def Ea (c:UInt8) (l:List UInt8):Nat:=(Lib.indexByte l c).toNat
def A5 (c:UInt8) (l:List UInt8):Nat→List UInt8
 | 0=>l
 | j+1=>(A5 c l j).drop (Ea c (A5 c l j)+1)
def Ig (c:UInt8) (l:List UInt8) (j:Nat):List UInt8:=(A5 c l j).take (Ea c (A5 c l j))
def mkT (l:List UInt8):ByteArray:=⟨l.toArray⟩
def A3 (c:UInt8) (s:ByteArray):List ByteArray :=
 (List.range (s.data.toList.count c)).map (fun j=>mkT (Ig c s.data.toList j))++[mkT (A5 c s.data.toList (s.data.toList.count c))]
theorem Dn:∀ {l:List UInt8} {c:UInt8},c∈l→0≤Lib.indexByte l c∧(Lib.indexByte l c).toNat<l.length
 | b::l,c,h=>by
  unfold Lib.indexByte
  by_cases hb:b == c
  ·rw[if_pos hb];simp
  ·rw[if_neg hb]
   have hm':c∈l:=by
    rcases List.mem_cons.1 h with h | h
    ·exact absurd (by simp[h]) hb
    ·exact h
   have:=Dn hm'
   rw[if_neg (by simp;omega)]
   simp only[List.length_cons]
   omega
theorem Hx:∀ {l:List UInt8} {c:UInt8},c∈l→(l.drop (Ea c l+1)).count c+1=l.count c
 | b::l,c,h=>by
  unfold Ea Lib.indexByte
  by_cases hb:b == c
  ·rw[if_pos hb,List.count_cons,if_pos hb];simp
  ·rw[if_neg hb]
   have hm':c∈l:=by
    rcases List.mem_cons.1 h with h | h
    ·exact absurd (by simp[h]) hb
    ·exact h
   have h1:=Dn hm'
   rw[if_neg (by simp;omega),List.count_cons,if_neg hb,Nat.add_zero,← Hx hm']
   have e:(Lib.indexByte l c+1).toNat=Ea c l+1:=by unfold Ea;omega
   rw[e,List.drop_succ_cons]
theorem Jw (c:UInt8) (l:List UInt8):∀ j,j≤l.count c→(A5 c l j).count c+j=l.count c
 | 0,_=>rfl
 | j+1,h=>by
  have ih:=Jw c l j j_
  have hm':c∈A5 c l j:=List.count_pos_iff.1 j_
  have:=Hx hm'
  rw[A5]
  omega
theorem W4 {c:UInt8} {l:List UInt8} {j:Nat} (h:j<l.count c):c∈A5 c l j :=
 List.count_pos_iff.1 (by have:=Jw c l j j_;omega)
def Xs (c:UInt8) (s:ByteArray):Nat:=s.data.toList.count c
theorem I9 (c:UInt8) (s:ByteArray):(A3 c s).length=Xs c s+1:=by simp only[A3,List.length_append,List.length_map,List.length_range,List.length_singleton];rfl
theorem Uh (c:UInt8) (l:List UInt8):∀ j,(A5 c l j).length≤l.length
 | 0=>Nat.le_refl _
 | j+1=>by rw[A5,List.length_drop];have:=Uh c l j;omega
theorem K0 {a b:ByteArray} (h:a.data.toList=b.data.toList):a=b:=by
 cases a;cases b;simp only[ByteArray.mk.injEq];exact Array.toList_inj.1 h
theorem Bt (l:List UInt8):(mkT l).size=l.length:=by simp[mkT,ByteArray.size]
theorem Dv (l:List UInt8):(mkT l).data.toList=l:=by simp[mkT]
theorem B2 (l:List UInt8) (i j:Nat):(mkT l).extract i j=mkT ((l.take j).drop i):=by
 apply K0
 simp[mkT,ByteArray.data_extract,List.extract_eq_take_drop,List.drop_take]
theorem Du (s:ByteArray):mkT s.data.toList=s:=K0 (by simp[mkT])
theorem Aal {c:UInt8} {s:ByteArray} {j m:Nat} (h:Lib.indexByte (A5 c s.data.toList j) c=m):Ig c s.data.toList j=(A5 c s.data.toList j).take m:=by
 rw[Ig,Ea,h,Int.toNat_natCast]
theorem Aby {c:UInt8} {s:ByteArray} {j m:Nat} (h:Lib.indexByte (A5 c s.data.toList j) c=m):A5 c s.data.toList (j+1)=(A5 c s.data.toList j).drop (m+1):=by
 rw[A5,Ea,h,Int.toNat_natCast]
end Go.Sy.YtgblchnfjbkipaaGreatDoor
namespace Go.Sy.YtgblchnfjbkipaaGreatDoor
open Go.Proofs
attribute [local irreducible] Go.Sy.G Go.Sy.DR
set_option maxRecDepth 20000
set_option maxHeartbeats 4000000
def D1 (c:UInt8):Bool:=decide (48≤c.toNat) && decide (c.toNat≤57)
def Jn (s:ByteArray):Nat→Int
 | 0=>0
 | j+1=>10 * Jn s j+((An s j).toNat-48)
def Vq (s:ByteArray):Bool:=(List.range s.size).all fun i=>D1 (An s i)
def smallT (s:ByteArray) (most:Int):Int × Bool :=
 if s.size=0∨3<s.size∨(1<s.size∧(An s 0).toNat=48)∨Vq s=false then (0,false) else (Jn s s.size,decide (Jn s s.size≤most))
theorem K2 {s:ByteArray} {i:Nat} (hi:i<s.size) (h:D1 (An s i)=false):Vq s=false:=by
 rw[Vq,List.all_eq_false]
 exact⟨i,by simpa using hi,by simp[h]⟩
theorem Se {s:ByteArray} (h:∀ i,i<s.size→D1 (An s i)=true):Vq s=true:=by
 rw[Vq,List.all_eq_true]
 intro i hi
 exact h i (by simpa using hi)
theorem digB_iff {c:UInt8}:D1 c=true↔48≤c.toNat∧c.toNat≤57:=by simp[D1]
theorem So {s:ByteArray}:∀ {j:Nat},(∀ i,i<j→D1 (An s i)=true)→0≤Jn s j∧Jn s j<10 ^ j
 | 0,_=>by simp[Jn]
 | j+1,h=>by
  have ih:=So (s:=s) (j:=j) (fun i hi=>h i j_)
  have hd:=digB_iff.1 (h j j_)
  rw[Jn]
  have e:(10:Int) ^ (j+1)=10 * 10 ^ j:=by rw[Int.pow_succ];omega
  rw[e]
  omega
theorem Z2 {n:Nat} (h:48≤n) (h2:n<256):IntKind.u8.wrap ((n:Int)-48)=(n:Int)-48:=by
 rw[IntKind.wrap_u8]
 omega
theorem Aa9 {n:Int} (h:0≤n) (h2:n<256):IntKind.i64.wrap n=n:=by
 rw[IntKind.wrap_i64]
 omega
theorem Qb (s:ByteArray) (most:Int):Sy.Spec Tryz.prog 241 [Ac s,Aa most] [] (.tup [Aa (smallT s most).1,Af (smallT s most).2]) []:=cT F241 Tryz.ntmps241 fun F hF=>by
 have hlk:=smallT.eq_1 s most
 generalize smallT s most=res at *
 ((conv=>whnf);repeat((first|refine aF ?_|refine aT ?_);(first|refine rG Γ hm ?_|refine rD Γ hm y_ ?_);conv=>whnf))
 refine⟨fun h=>?_,fun h=>?_⟩
 ·have h1:s.size=0:=by simpa using h
  rw[if_pos (.inl h1)]at hlk
  subst hlk
  ((first|refine rG Γ hm ?_|refine rD Γ hm y_ ?_);(conv=>whnf);repeat((first|refine aF ?_|refine aT ?_);(first|refine rG Γ hm ?_|refine rD Γ hm y_ ?_);conv=>whnf))
  exact dN
 have h1:¬ s.size=0:=by simpa using h
 ((first|refine rG Γ hm ?_|refine rD Γ hm y_ ?_);(conv=>whnf);repeat((first|refine aF ?_|refine aT ?_);(first|refine rG Γ hm ?_|refine rD Γ hm y_ ?_);conv=>whnf))
 refine⟨fun h=>?_,fun h=>?_⟩
 ·have h2:3<s.size:=qA h
  rw[if_pos (.inr (.inl h2))]at hlk
  subst hlk
  ((first|refine rG Γ hm ?_|refine rD Γ hm y_ ?_);(conv=>whnf);repeat((first|refine aF ?_|refine aT ?_);(first|refine rG Γ hm ?_|refine rD Γ hm y_ ?_);conv=>whnf))
  exact dN
 have h2:¬ 3<s.size:=qB h
 ((first|refine rG Γ hm ?_|refine rD Γ hm y_ ?_);(conv=>whnf);repeat((first|refine aF ?_|refine aT ?_);(first|refine rG Γ hm ?_|refine rD Γ hm y_ ?_);conv=>whnf))
 refine⟨fun h=>?_,fun h=>?_⟩
 ·have h3:1<s.size:=qA h
  ((first|refine rG Γ hm ?_|refine rD Γ hm y_ ?_);(conv=>whnf);repeat((first|refine aF ?_|refine aT ?_);(first|refine rG Γ hm ?_|refine rD Γ hm y_ ?_);conv=>whnf))
  refine⟨by decide,by simp;omega,?_⟩
  ((conv=>whnf);repeat((first|refine aF ?_|refine aT ?_);(first|refine rG Γ hm ?_|refine rD Γ hm y_ ?_);conv=>whnf))
  refine⟨fun h=>?_,fun h=>?_⟩
  ·have h4:(An s 0).toNat=48:=by have:=h;simp at this;omega
   rw[if_pos (.inr (.inr (.inl ⟨h3,h4⟩)))]at hlk
   subst hlk
   ((first|refine rG Γ hm ?_|refine rD Γ hm y_ ?_);(conv=>whnf);repeat((first|refine aF ?_|refine aT ?_);(first|refine rG Γ hm ?_|refine rD Γ hm y_ ?_);conv=>whnf))
   exact dN
  have h34:¬ (1<s.size∧(An s 0).toNat=48):=by
   intro e
   have:=h
   simp at this
   omega
  ((first|refine rG Γ hm ?_|refine rD Γ hm y_ ?_);(conv=>whnf);repeat((first|refine aF ?_|refine aT ?_);(first|refine rG Γ hm ?_|refine rD Γ hm y_ ?_);conv=>whnf))
  refine Bv s.size (fun j=>∀ i,i<j→D1 (An s i)=true) (fun j=>[(0,Ac s),(1,Aa most),(6,Aa (Jn s j)),(27,Aa s.size),(28,Aa j)]) (fun _=>[]) [] (fun i hi=>absurd hi j_) ⟨⟨q_,q_,q_,q_,q_,q_,q_,q_,q_,q_,z_⟩,z_,q_,q_⟩ ?_
  intro j hj hI
  have hv:=So hI
  have hp:(10:Int) ^ j≤1000:=by
   have:j=0∨j=1∨j=2∨j=3:=by omega
   rcases this with rfl | rfl | rfl | rfl<;>decide
  have hsu:Jn s (j+1)=10 * Jn s j+((An s j).toNat-48):=rfl
  have hjn:((j:Nat):Int).toNat=j:=Int.toNat_natCast j
  have hb:=(An s j).toNat_lt
  generalize hvj:Jn s j=v at *
  ((first|refine rG Γ hm ?_|refine rD Γ hm y_ ?_);(conv=>whnf);repeat((first|refine aF ?_|refine aT ?_);(first|refine rG Γ hm ?_|refine rD Γ hm y_ ?_);conv=>whnf))
  refine⟨fun h=>?_,fun h=>?_⟩
  ·have hlt:j<s.size:=by simpa using h
   ((first|refine rG Γ hm ?_|refine rD Γ hm y_ ?_);(conv=>whnf);repeat((first|refine aF ?_|refine aT ?_);(first|refine rG Γ hm ?_|refine rD Γ hm y_ ?_);conv=>whnf))
   refine⟨by omega,by simpa using hlt,?_⟩
   rw[hjn]
   ((conv=>whnf);repeat((first|refine aF ?_|refine aT ?_);(first|refine rG Γ hm ?_|refine rD Γ hm y_ ?_);conv=>whnf))
   refine⟨fun h=>?_,fun h=>?_⟩
   ·have h5:¬ 48≤(An s j).toNat:=qA h
    rw[if_pos (.inr (.inr (.inr (K2 hlt (by simp only[D1,Bool.and_eq_false_iff,decide_eq_false_iff_not];exact .inl h5)))))]at hlk
    subst hlk
    ((first|refine rG Γ hm ?_|refine rD Γ hm y_ ?_);(conv=>whnf);repeat((first|refine aF ?_|refine aT ?_);(first|refine rG Γ hm ?_|refine rD Γ hm y_ ?_);conv=>whnf))
    exact dN
   have h5:48≤(An s j).toNat:=qB h
   ((first|refine rG Γ hm ?_|refine rD Γ hm y_ ?_);(conv=>whnf);repeat((first|refine aF ?_|refine aT ?_);(first|refine rG Γ hm ?_|refine rD Γ hm y_ ?_);conv=>whnf))
   refine⟨by omega,by simpa using hlt,?_⟩
   rw[hjn]
   ((conv=>whnf);repeat((first|refine aF ?_|refine aT ?_);(first|refine rG Γ hm ?_|refine rD Γ hm y_ ?_);conv=>whnf))
   refine⟨fun h=>?_,fun h=>?_⟩
   ·have h6:¬ (An s j).toNat≤57:=qA h
    rw[if_pos (.inr (.inr (.inr (K2 hlt (by simp only[D1,Bool.and_eq_false_iff,decide_eq_false_iff_not];exact .inr h6)))))]at hlk
    subst hlk
    ((first|refine rG Γ hm ?_|refine rD Γ hm y_ ?_);(conv=>whnf);repeat((first|refine aF ?_|refine aT ?_);(first|refine rG Γ hm ?_|refine rD Γ hm y_ ?_);conv=>whnf))
    exact dN
   have h6:(An s j).toNat≤57:=qB h
   ((first|refine rG Γ hm ?_|refine rD Γ hm y_ ?_);(conv=>whnf);repeat((first|refine aF ?_|refine aT ?_);(first|refine rG Γ hm ?_|refine rD Γ hm y_ ?_);conv=>whnf))
   refine iL ?_
   ((conv=>whnf);repeat((first|refine aF ?_|refine aT ?_);(first|refine rG Γ hm ?_|refine rD Γ hm y_ ?_);conv=>whnf))
   refine⟨by omega,by simpa using hlt,?_⟩
   rw[hjn]
   ((conv=>whnf);repeat((first|refine aF ?_|refine aT ?_);(first|refine rG Γ hm ?_|refine rD Γ hm y_ ?_);conv=>whnf))
   rw[Z2 h5 hb,Aa9 j_ j_]
   refine iL ?_
   ((conv=>whnf);repeat((first|refine aF ?_|refine aT ?_);(first|refine rG Γ hm ?_|refine rD Γ hm y_ ?_);conv=>whnf))
   refine iL ?_
   ((conv=>whnf);repeat((first|refine aF ?_|refine aT ?_);(first|refine rG Γ hm ?_|refine rD Γ hm y_ ?_);conv=>whnf))
   refine By [] hI j_ (fun i hi=>?_) ⟨⟨q_,q_,q_,q_,congrArg Aa hsu,q_,q_,q_,q_,q_,z_⟩,z_,q_,q_⟩
   by_cases hij:i=j
   ·subst hij;exact digB_iff.2 ⟨h5,h6⟩
   ·exact hI i j_
  ·have:j=s.size:=qB h
   subst this
   rw[if_neg (by rw[Se hI];simp only[h1,h2,false_or,Bool.true_eq_false,or_false];exact h34),hvj]at hlk
   subst hlk
   ((first|refine rG Γ hm ?_|refine rD Γ hm y_ ?_);(conv=>whnf);repeat((first|refine aF ?_|refine aT ?_);(first|refine rG Γ hm ?_|refine rD Γ hm y_ ?_);conv=>whnf))
   exact dN
 ·have h34:¬ (1<s.size∧(An s 0).toNat=48):=qB h
  ((first|refine rG Γ hm ?_|refine rD Γ hm y_ ?_);(conv=>whnf);repeat((first|refine aF ?_|refine aT ?_);(first|refine rG Γ hm ?_|refine rD Γ hm y_ ?_);conv=>whnf))
  refine Bv s.size (fun j=>∀ i,i<j→D1 (An s i)=true) (fun j=>[(0,Ac s),(1,Aa most),(6,Aa (Jn s j)),(27,Aa s.size),(28,Aa j)]) (fun _=>[]) [] (fun i hi=>absurd hi j_) ⟨⟨q_,q_,q_,q_,q_,q_,q_,q_,q_,q_,z_⟩,z_,q_,q_⟩ ?_
  intro j hj hI
  have hv:=So hI
  have hp:(10:Int) ^ j≤1000:=by
   have:j=0∨j=1∨j=2∨j=3:=by omega
   rcases this with rfl | rfl | rfl | rfl<;>decide
  have hsu:Jn s (j+1)=10 * Jn s j+((An s j).toNat-48):=rfl
  have hjn:((j:Nat):Int).toNat=j:=Int.toNat_natCast j
  have hb:=(An s j).toNat_lt
  generalize hvj:Jn s j=v at *
  ((first|refine rG Γ hm ?_|refine rD Γ hm y_ ?_);(conv=>whnf);repeat((first|refine aF ?_|refine aT ?_);(first|refine rG Γ hm ?_|refine rD Γ hm y_ ?_);conv=>whnf))
  refine⟨fun h=>?_,fun h=>?_⟩
  ·have hlt:j<s.size:=by simpa using h
   ((first|refine rG Γ hm ?_|refine rD Γ hm y_ ?_);(conv=>whnf);repeat((first|refine aF ?_|refine aT ?_);(first|refine rG Γ hm ?_|refine rD Γ hm y_ ?_);conv=>whnf))
   refine⟨by omega,by simpa using hlt,?_⟩
   rw[hjn]
   ((conv=>whnf);repeat((first|refine aF ?_|refine aT ?_);(first|refine rG Γ hm ?_|refine rD Γ hm y_ ?_);conv=>whnf))
   refine⟨fun h=>?_,fun h=>?_⟩
   ·have h5:¬ 48≤(An s j).toNat:=qA h
    rw[if_pos (.inr (.inr (.inr (K2 hlt (by simp only[D1,Bool.and_eq_false_iff,decide_eq_false_iff_not];exact .inl h5)))))]at hlk
    subst hlk
    ((first|refine rG Γ hm ?_|refine rD Γ hm y_ ?_);(conv=>whnf);repeat((first|refine aF ?_|refine aT ?_);(first|refine rG Γ hm ?_|refine rD Γ hm y_ ?_);conv=>whnf))
    exact dN
   have h5:48≤(An s j).toNat:=qB h
   ((first|refine rG Γ hm ?_|refine rD Γ hm y_ ?_);(conv=>whnf);repeat((first|refine aF ?_|refine aT ?_);(first|refine rG Γ hm ?_|refine rD Γ hm y_ ?_);conv=>whnf))
   refine⟨by omega,by simpa using hlt,?_⟩
   rw[hjn]
   ((conv=>whnf);repeat((first|refine aF ?_|refine aT ?_);(first|refine rG Γ hm ?_|refine rD Γ hm y_ ?_);conv=>whnf))
   refine⟨fun h=>?_,fun h=>?_⟩
   ·have h6:¬ (An s j).toNat≤57:=qA h
    rw[if_pos (.inr (.inr (.inr (K2 hlt (by simp only[D1,Bool.and_eq_false_iff,decide_eq_false_iff_not];exact .inr h6)))))]at hlk
    subst hlk
    ((first|refine rG Γ hm ?_|refine rD Γ hm y_ ?_);(conv=>whnf);repeat((first|refine aF ?_|refine aT ?_);(first|refine rG Γ hm ?_|refine rD Γ hm y_ ?_);conv=>whnf))
    exact dN
   have h6:(An s j).toNat≤57:=qB h
   ((first|refine rG Γ hm ?_|refine rD Γ hm y_ ?_);(conv=>whnf);repeat((first|refine aF ?_|refine aT ?_);(first|refine rG Γ hm ?_|refine rD Γ hm y_ ?_);conv=>whnf))
   refine iL ?_
   ((conv=>whnf);repeat((first|refine aF ?_|refine aT ?_);(first|refine rG Γ hm ?_|refine rD Γ hm y_ ?_);conv=>whnf))
   refine⟨by omega,by simpa using hlt,?_⟩
   rw[hjn]
   ((conv=>whnf);repeat((first|refine aF ?_|refine aT ?_);(first|refine rG Γ hm ?_|refine rD Γ hm y_ ?_);conv=>whnf))
   rw[Z2 h5 hb,Aa9 j_ j_]
   refine iL ?_
   ((conv=>whnf);repeat((first|refine aF ?_|refine aT ?_);(first|refine rG Γ hm ?_|refine rD Γ hm y_ ?_);conv=>whnf))
   refine iL ?_
   ((conv=>whnf);repeat((first|refine aF ?_|refine aT ?_);(first|refine rG Γ hm ?_|refine rD Γ hm y_ ?_);conv=>whnf))
   refine By [] hI j_ (fun i hi=>?_) ⟨⟨q_,q_,q_,q_,congrArg Aa hsu,q_,q_,q_,q_,q_,z_⟩,z_,q_,q_⟩
   by_cases hij:i=j
   ·subst hij;exact digB_iff.2 ⟨h5,h6⟩
   ·exact hI i j_
  ·have:j=s.size:=qB h
   subst this
   rw[if_neg (by rw[Se hI];simp only[h1,h2,false_or,Bool.true_eq_false,or_false];exact h34),hvj]at hlk
   subst hlk
   ((first|refine rG Γ hm ?_|refine rD Γ hm y_ ?_);(conv=>whnf);repeat((first|refine aF ?_|refine aT ?_);(first|refine rG Γ hm ?_|refine rD Γ hm y_ ?_);conv=>whnf))
   exact dN
end Go.Sy.YtgblchnfjbkipaaGreatDoor
namespace Go.Sy.YtgblchnfjbkipaaGreatDoor
open Go.Proofs
def I4 {α:Type} (l:List α) (j:Nat):List α:=List.ofFn fun i:Fin l.length=>if i.1<j∨l.length-j≤i.1 then l[l.length-1-i.1] else l[i.1]
theorem Bs {α:Type} (l:List α) (j:Nat):(I4 l j).length=l.length:=by simp[I4]
theorem Hc {α:Type} (l:List α) (j i:Nat) (h:i<l.length):(I4 l j)[i]'(by rw[Bs];exact h)=if i<j∨l.length-j≤i then l[l.length-1-i] else l[i]:=by simp[I4]
theorem Qz {α:Type} (l:List α):I4 l 0=l:=by
 apply List.ext_getElem (Bs l 0)
 intro i h1 h2
 rw[Hc l 0 i h2,if_neg j_]
theorem Uf {α:Type} (l:List α) (j:Nat) (h:l.length≤2 * j+1):I4 l j=l.reverse:=by
 apply List.ext_getElem (by rw[Bs,List.length_reverse])
 intro i h1 h2
 have hi:i<l.length:=by rw[Bs]at h1;exact h1
 rw[Hc l j i hi,List.getElem_reverse]
 split
 ·rfl
 ·congr 1;omega
theorem Y4 {α:Type} (l:List α) (j:Nat) (h:2 * j+1<l.length) :
  ((I4 l j).set j ((I4 l j)[l.length-1-j]'(by rw[Bs];omega))).set (l.length-1-j) ((I4 l j)[j]'(by rw[Bs];omega))=I4 l (j+1):=by
 apply List.ext_getElem (by simp only[List.length_set,Bs])
 intro i h1 h2
 have hi:i<l.length:=by rw[Bs]at h2;exact h2
 rw[List.getElem_set,List.getElem_set,Hc l (j+1) i hi,Hc l j i hi,Hc l j _ j_,Hc l j _ j_]
 by_cases e1:l.length-1-j=i
 ·rw[if_pos e1,if_neg j_,if_pos j_]
  congr 1;omega
 ·rw[if_neg e1]
  by_cases e2:j=i
  ·rw[if_pos e2,if_neg j_,if_pos j_]
   congr 1;omega
  ·rw[if_neg e2]
   by_cases e3:i<j∨l.length-j≤i
   ·rw[if_pos e3,if_pos j_]
   ·rw[if_neg e3,if_neg j_]
theorem Q0 {α:Type} {l u:List α} {j k:Nat} (hu:I4 l j=u) (h:2 * j+1<l.length) (hk:l.length-1-j=k) (h1:k<u.length) (h2:j<u.length):(u.set j u[k]).set k u[j]=I4 l (j+1):=by
 subst hu hk
 exact Y4 l j h
def revDigs (u:Nat):List UInt8:=if u<10 then [UInt8.ofNat (48+u)] else UInt8.ofNat (48+u % 10)::revDigs (u / 10)
theorem E2 (u:Nat):0<(revDigs u).length:=by
 rw[revDigs];split<;>simp
theorem Ic:∀ (j u:Nat),j+1<(revDigs u).length↔0<u / 10 ^ (j+1)
 | 0,u=>by
  rw[revDigs]
  split
  ·simp;omega
  ·have:=E2 (u / 10)
   simp only[List.length_cons];omega
 | j+1,u=>by
  rw[revDigs]
  have e:u / 10 ^ (j+1+1)=u / 10 / 10 ^ (j+1):=by rw[Nat.div_div_eq_div_mul,Nat.pow_succ 10 (j+1),Nat.mul_comm (10 ^ (j+1))]
  rw[e]
  split
  ·have:u / 10=0:=by omega
   rw[this];simp
  ·rw[List.length_cons,← Ic j (u / 10)];omega
theorem Id:∀ (j u:Nat) (h:j<(revDigs u).length),(revDigs u)[j]=UInt8.ofNat (48+u / 10 ^ j % 10)
 | 0,u,h=>by
  have e:(revDigs u)[0]=UInt8.ofNat (48+u % 10):=by
   simp only[revDigs.eq_1 u]
   split
   ·show UInt8.ofNat (48+u)=UInt8.ofNat (48+u % 10)
    rw[Nat.mod_eq_of_lt (by assumption)]
   ·rfl
  rw[e];simp
 | j+1,u,h=>by
  have hu:¬ u<10:=fun hu=>by rw[revDigs,if_pos hu]at h;simp at h
  have e0:revDigs u=UInt8.ofNat (48+u % 10)::revDigs (u / 10):=by rw[revDigs.eq_1 u,if_neg hu]
  have e:u / 10 ^ (j+1)=u / 10 / 10 ^ j:=by rw[Nat.div_div_eq_div_mul,Nat.pow_succ,Nat.mul_comm]
  have hl:j<(revDigs (u / 10)).length:=by rw[e0]at h;simpa using h
  have:=Id j (u / 10) hl
  rw[e,← this]
  simp only[e0,List.getElem_cons_succ]
theorem B5:∀ (k u:Nat),u<10 ^ k→(revDigs u).length≤k+1
 | 0,u,h=>by rw[revDigs,if_pos (by simp at h;omega)];simp
 | k+1,u,h=>by
  rw[revDigs]
  split
  ·simp
  ·have:=B5 k (u / 10) (by rw[Nat.pow_succ]at h;omega)
   simp only[List.length_cons];omega
def Aas (n:Int):List UInt8:=(revDigs n.natAbs++(if n<0 then [45] else [])).reverse
def A8 (n:Int):ByteArray:=mkT (Aas n)
theorem U0 (m:Nat):Aas m=(revDigs m).reverse:=by
 rw[Aas,Int.natAbs_natCast,if_neg j_,List.append_nil]
set_option maxRecDepth 20000 in
theorem Aaq (m:Nat) (hb:m<9223372036854775808):Sy.Spec Tryz.prog 247 [Aa m] [] (Ac (A8 m)) []:=cT F247 Tryz.ntmps247 fun F hF=>by
 have hpos:=E2 m
 have hlen:=fun j=>Ic j m
 have hget:=fun j=>Id j m
 have hsh:(revDigs m).length≤20:=B5 19 m j_
 rw[A8,U0]
 generalize revDigs m=D at *
 ((conv=>whnf);repeat((first|refine aF ?_|refine aT ?_);(first|refine rG Γ hm ?_|refine rD Γ hm y_ ?_);conv=>whnf))
 refine Dg 3 1000 1 Al q_ q_ ?_
 refine Df D.length (fun j=>[(0,Aa m),(3,.osl 1000),(4,Cy (m / 10 ^ j:Nat)),(5,Af (decide (j<D.length)))]) (fun j=>[(1000,.row 1 Al (D.take j))]) []
  ⟨⟨rfl,rfl,rfl,rfl,congrArg (fun z=>SV.val (.int .u64 z)) (by rw[IntKind.wrap_u64];omega),rfl,congrArg Af (decide_eq_true hpos),rfl,trivial⟩,⟨.inl rfl,rfl,trivial⟩,rfl,rfl⟩ ?_
 intro j hj
 ((first|refine rG Γ hm ?_|refine rD Γ hm y_ ?_);(conv=>whnf);repeat((first|refine aF ?_|refine aT ?_);(first|refine rG Γ hm ?_|refine rD Γ hm y_ ?_);conv=>whnf))
 refine⟨fun h=>?_,fun h=>?_⟩
 ·have hlt:j<D.length:=of_decide_eq_true h
  have hgj:=hget j hlt
  have hlj:=hlen j
  have e:m / 10 ^ (j+1)=m / 10 ^ j / 10:=by rw[Nat.div_div_eq_div_mul,Nat.pow_succ]
  have hq:m / 10 ^ j≤m:=Nat.div_le_self _ _
  rw[e]at hlj
  ((first|refine rG Γ hm ?_|refine rD Γ hm y_ ?_);(conv=>whnf);repeat((first|refine aF ?_|refine aT ?_);(first|refine rG Γ hm ?_|refine rD Γ hm y_ ?_);conv=>whnf))
  refine⟨by decide,?_⟩
  ((conv=>whnf);repeat((first|refine aF ?_|refine aT ?_);(first|refine rG Γ hm ?_|refine rD Γ hm y_ ?_);conv=>whnf))
  refine Cc (Ai Γ.toTy 23 q_ q_ q_ q_ q_ (.row q_) (.lit (l:=[D[j]]) q_ ?_) qd ?_ ?_) q_ q_ ?_
  ·rw[hgj]
   simp only[List.map_cons,List.map_nil,Al]
   congr 3
   generalize m / 10 ^ j=q at *
   rw[Int.tmod_eq_emod_of_nonneg (Int.natCast_nonneg _),IntKind.wrap_u64,IntKind.wrap_u8]
   simp
  ·simp;omega
  ·simp;omega
  ((first|refine rG Γ hm ?_|refine rD Γ hm y_ ?_);(conv=>whnf);repeat((first|refine aF ?_|refine aT ?_);(first|refine rG Γ hm ?_|refine rD Γ hm y_ ?_);conv=>whnf))
  refine⟨by decide,?_⟩
  ((conv=>whnf);repeat((first|refine aF ?_|refine aT ?_);(first|refine rG Γ hm ?_|refine rD Γ hm y_ ?_);conv=>whnf))
  refine Dk [(1000,23)] hlt ⟨⟨q_,q_,q_,q_,congrArg (fun z=>SV.val (.int .u64 z)) ?_,q_,congrArg Af ?_,q_,z_⟩,⟨.inl (congrArg (Ob.row 1 Al) (List.take_succ_eq_append_getElem hlt)),q_,z_⟩,q_,q_⟩
  ·rw[e,Int.tdiv_eq_ediv_of_nonneg (Int.natCast_nonneg _),IntKind.wrap_u64]
   generalize m / 10 ^ j=q at *
   omega
  ·rw[Int.tdiv_eq_ediv_of_nonneg (Int.natCast_nonneg _),IntKind.wrap_u64]
   generalize m / 10 ^ j=q at *
   refine decide_eq_decide.2 ?_
   omega
 ·have:j=D.length:=qB h
  subst this
  rw[List.take_length]
  ((first|refine rG Γ hm ?_|refine rD Γ hm y_ ?_);(conv=>whnf);repeat((first|refine aF ?_|refine aT ?_);(first|refine rG Γ hm ?_|refine rD Γ hm y_ ?_);conv=>whnf))
  refine iL ?_
  ((conv=>whnf);repeat((first|refine aF ?_|refine aT ?_);(first|refine rG Γ hm ?_|refine rD Γ hm y_ ?_);conv=>whnf))
  refine Df (D.length / 2) (fun j=>[(3,.osl 1000),(6,Aa j),(7,Aa (D.length-1-j:Nat))]) (fun j=>[(1000,.row 1 Al (I4 D j))]) []
   ⟨⟨rfl,rfl,rfl,rfl,congrArg (fun z=>SV.val (.int .i64 z)) j_,rfl,trivial⟩,⟨.inl (congrArg (Ob.row 1 Al) (Qz D)),rfl,trivial⟩,rfl,rfl⟩ ?_
  intro i hi
  have hul:=Bs D i
  ((first|refine rG Γ hm ?_|refine rD Γ hm y_ ?_);(conv=>whnf);repeat((first|refine aF ?_|refine aT ?_);(first|refine rG Γ hm ?_|refine rD Γ hm y_ ?_);conv=>whnf))
  refine⟨fun h2=>?_,fun h2=>?_⟩
  ·have hlt:2 * i+1<D.length:=by have:=of_decide_eq_true h2;omega
   obtain ⟨u,hu⟩:∃ u,I4 D i=u:=⟨_,rfl⟩
   obtain ⟨k,hk⟩:∃ k,D.length-1-i=k:=⟨_,rfl⟩
   rw[hu]at hul
   have hs:=Q0 hu hlt hk j_ j_
   rw[hu,hk]
   ((first|refine rG Γ hm ?_|refine rD Γ hm y_ ?_);(conv=>whnf);repeat((first|refine aF ?_|refine aT ?_);(first|refine rG Γ hm ?_|refine rD Γ hm y_ ?_);conv=>whnf))
   refine⟨by omega,by omega,?_⟩
   ((conv=>whnf);repeat((first|refine aF ?_|refine aT ?_);(first|refine rG Γ hm ?_|refine rD Γ hm y_ ?_);conv=>whnf))
   refine⟨q_,by omega,?_⟩
   ((conv=>whnf);repeat((first|refine aF ?_|refine aT ?_);(first|refine rG Γ hm ?_|refine rD Γ hm y_ ?_);conv=>whnf))
   refine⟨by omega,by omega,?_⟩
   ((conv=>whnf);repeat((first|refine aF ?_|refine aT ?_);(first|refine rG Γ hm ?_|refine rD Γ hm y_ ?_);conv=>whnf))
   refine⟨q_,by omega,?_⟩
   ((conv=>whnf);repeat((first|refine aF ?_|refine aT ?_);(first|refine rG Γ hm ?_|refine rD Γ hm y_ ?_);conv=>whnf))
   refine⟨by omega,by omega,?_⟩
   ((conv=>whnf);repeat((first|refine aF ?_|refine aT ?_);(first|refine rG Γ hm ?_|refine rD Γ hm y_ ?_);conv=>whnf))
   refine⟨q_,by omega,u[k],q_,q_,?_⟩
   ((conv=>whnf);repeat((first|refine aF ?_|refine aT ?_);(first|refine rG Γ hm ?_|refine rD Γ hm y_ ?_);conv=>whnf))
   refine⟨by omega,by simp;omega,?_⟩
   ((conv=>whnf);repeat((first|refine aF ?_|refine aT ?_);(first|refine rG Γ hm ?_|refine rD Γ hm y_ ?_);conv=>whnf))
   refine⟨q_,by simp;omega,u[i],q_,q_,?_⟩
   ((conv=>whnf);repeat((first|refine aF ?_|refine aT ?_);(first|refine rG Γ hm ?_|refine rD Γ hm y_ ?_);conv=>whnf))
   refine⟨y_,?_⟩
   ((conv=>whnf);repeat((first|refine aF ?_|refine aT ?_);(first|refine rG Γ hm ?_|refine rD Γ hm y_ ?_);conv=>whnf))
   refine iL ?_
   ((conv=>whnf);repeat((first|refine aF ?_|refine aT ?_);(first|refine rG Γ hm ?_|refine rD Γ hm y_ ?_);conv=>whnf))
   refine iL ?_
   ((conv=>whnf);repeat((first|refine aF ?_|refine aT ?_);(first|refine rG Γ hm ?_|refine rD Γ hm y_ ?_);conv=>whnf))
   refine Dk [] j_ ⟨⟨q_,q_,q_,q_,congrArg (fun z=>SV.val (.int .i64 z)) j_,q_,z_⟩,⟨.inl (congrArg (Ob.row 1 Al) hs.symm),q_,z_⟩,q_,q_⟩
  ·have h3:D.length≤2 * i+1:=by have:=of_decide_eq_false h2;omega
   rw[Uf D i h3]
   ((first|refine rG Γ hm ?_|refine rD Γ hm y_ ?_);(conv=>whnf);repeat((first|refine aF ?_|refine aT ?_);(first|refine rG Γ hm ?_|refine rD Γ hm y_ ?_);conv=>whnf))
   refine Cc (Ce Γ.toTy (bs:=D.reverse) q_ q_ q_ q_ q_ q_ q_ (.row q_)) q_ q_ ?_
   ((first|refine rG Γ hm ?_|refine rD Γ hm y_ ?_);(conv=>whnf);repeat((first|refine aF ?_|refine aT ?_);(first|refine rG Γ hm ?_|refine rD Γ hm y_ ?_);conv=>whnf))
   exact dN
end Go.Sy.YtgblchnfjbkipaaGreatDoor
namespace Go.Sy
def Vz (C:Cx) {β:Type} (I:β→Prop) (L:β→List (Nat × SV)) (O:β→Obs) (μ:β→Nat) (x:β) (a:Act) (w:World):Prop :=
 ∃ x':{y:β // I y},∃ κ,μ x'.1<μ x∧St C.F C.n (mkS (L x'.1) (O x'.1)) κ a w
theorem A7 {C:Cx} {k:List KI} {s:SS} {body:Code} {β:Type} (I:β→Prop) (L:β→List (Nat × SV)) (O:β→Obs) (μ:β→Nat) (x₀:β) (ρ:List (Nat × Nat)) (h0:I x₀) (hsub:Sub C s ρ (L x₀) (O x₀))
  (h:∀ x,I x→G C (.code body::.inv (Vz C I L O μ x)::k) (mkS (L x) (O x))):G C (.code (.loop body)::k) s :=
 X3 (α:={y:β // I y}) (fun x=>L x.1) (fun x=>O x.1) (fun x=>μ x.1) ⟨x₀,h0⟩ ρ hsub (fun x=>h x.1 x.2)
theorem As {C:Cx} {k:List KI} {s:SS} {β:Type} {I:β→Prop} {L:β→List (Nat × SV)} {O:β→Obs} {μ:β→Nat} {x:β} (x':β) (ρ:List (Nat × Nat)) (h':I x') (hμ:μ x'<μ x) (hsub:Sub C s ρ (L x') (O x')) :
  G C (.inv (Vz C I L O μ x)::k) s:=fun _ _ _ hs=>⟨⟨x',h'⟩,_,hμ,hsub.st hs⟩
theorem Abq {C:Cx} {kk:List KI} {s:SS} (k d:Nat) {sz:Nat} {α:Type} {e:α→SV} {l:List α} (h:s.h k=.row sz e l) (hd:s.h d=.fresh) (hkd:k≠d)
  (hg:G C kk ⟨fun i=>frz k (.osl d) (s.σ i),upd (fun j=>bif Nat.beq j k then .non else Zo k (.osl d) (s.h j)) d (.row sz e l)⟩):G C kk s:=fun κ a w hs=>by
 have hob:=hs.obj k
 rw[h]at hob
 have hnew:κ d=.new:=by have:=hs.obj d;rwa [hd]at this
 have fin:∀ κ':Ka,(∀ j,j≠k→j≠d→κ' j=κ j)→Step (fun j=>j=k∨j=d) κ w κ' w→Inv κ' w→(∀ v,Rd κ w (.osl k) v→Rd κ' w (.osl d) v)→ObOK κ' w d (.row sz e l)→den C.P C.B kk .normal a w:=by
  intro κ' hne st inv hv ho
  refine hg κ' a w ⟨hs.defers,hs.size,inv,hs.ctx.step inv st,fun j=>Tj st hv _ _ (hs.slot j),fun j=>?_⟩
  show ObOK κ' w j (upd (fun j=>bif Nat.beq j k then .non else Zo k (.osl d) (s.h j)) d (.row sz e l) j)
  by_cases hj:j=d
  ·subst hj;rw[Bc];exact ho
  ·rw[Bz _ _ hj]
   by_cases hj2:j=k
   ·subst hj2;rw[show Nat.beq j j=true from Nat.beq_refl j];trivial
   ·rw[show Nat.beq j k=false from by cases hb:Nat.beq j k with | false=>rfl | true=>exact absurd (Nat.eq_of_beq_eq_true hb) hj2]
    have hb:=ObOK.step st (fun e=>e.elim hj2 hj) _ (hs.obj j)
    have h0:=hs.obj j
    show ObOK κ' w j (Zo k (.osl d) (s.h j))
    cases hh:s.h j with
    | box m =>
     rw[hh]at h0 hb
     obtain ⟨b,cs,T,fr,e1,e2,e3,e4,e5⟩:=h0
     exact⟨b,cs,T,fr,(hne j hj2 hj).trans e1,e2,e3,e4,Hw st hv m cs e5⟩
    | fresh=>rw[hh]at hb;exact hb
    | non=>rw[hh]at hb;exact hb
    | row sz' e' l'=>rw[hh]at hb;exact hb
    | lit sz' svs=>rw[hh]at hb;exact hb
    | glob sz' x' g'=>rw[hh]at hb;exact hb
    | pin b' n' cap' sz' e' l'=>rw[hh]at hb;exact hb
    | dat v' sz' e' l'=>rw[hh]at hb;exact hb
 rcases hob with ⟨h1,rfl⟩ | ⟨b,cap,cs,T,fr,e1,e2,e3,e4,e5,e6⟩
 ·have st:=Da (D9 hs.inv (some k)) (by show Cr κ k .dead d=.new;rw[A6 _ _ (Ne.symm hkd)];exact hnew) (e:=.nil) (Grew.refl w) (fun b hb=>by cases hb)
  refine fin _ (fun j h1 h2=>by rw[A6 _ _ h2];exact A6 _ _ h1) (((Dl (some k)).weaken (fun j hj=>.inl (Option.some.inj hj).symm)).trans (st.1.weaken (fun j hj=>.inr hj))) st.2 (fun v hv=>?_) (.inl ⟨Ag _ _ _,q_⟩)
  simp only[Rd,h1]at hv
  simp[Rd,Ag,hv]
 ·obtain ⟨st,inv⟩:=K9 (n':=l.length) (w':=w) hs.inv e1 hnew rfl rfl rfl rfl (fun _ _=>rfl)
  refine fin _ (fun j h1 h2=>by rw[A6 _ _ h2];exact A6 _ _ h1) st inv (fun v hv=>?_) (.inr ⟨b,cap,cs,T,fr,Ag _ _ _,e2,e3,e4,e5,fun i x hx=>?_⟩)
  ·simp only[Rd,e1]at hv
   simp[Rd,Ag,hv]
  ·obtain ⟨q1,u,q2,q3⟩:=e6 i x hx
   exact⟨q1,u,RdD.keep st.keeps _ _ q2,q3⟩
theorem Ha {C:Cx} {k:List KI} {s:SS} (d:Nat) {sz:Nat} {α:Type} (e:α→SV) (l:List α) {svs:List SV} (h:s.h d=.lit sz svs) (hl:l.map e=svs) (hg:G C k ⟨s.σ,upd s.h d (.row sz e l)⟩):G C k s:=fun κ a w hs=>by
 refine hg κ a w ⟨hs.defers,hs.size,hs.inv,hs.ctx,hs.slot,fun j=>?_⟩
 show ObOK κ w j (upd s.h d (.row sz e l) j)
 by_cases hj:j=d
 ·subst hj
  rw[Bc]
  have hob:=hs.obj j
  rw[h]at hob
  have hlen:l.length=svs.length:=by rw[← hl,List.length_map]
  obtain ⟨b,cap,cs,T,fr,e1,e2,e3,e4,e5,e6⟩:=hob
  exact .inr ⟨b,cap,cs,T,fr,by rw[hlen];exact e1,e2,e3,e4,by omega,fun i x hx=>by rw[hlen];exact e6 i x (Kd hl i x hx)⟩
 ·rw[Bz _ _ hj];exact hs.obj j
end Go.Sy
namespace Go.Sy.YtgblchnfjbkipaaGreatDoor
open Go.Proofs
theorem tdiv10 (n:Nat) (h:n<1000000000000000000):IntKind.i64.wrap ((n:Int).tdiv 10)=((n / 10:Nat):Int):=by
 rw[Int.tdiv_eq_ediv_of_nonneg j_,IntKind.wrap_i64];omega
theorem Z4 (n:Nat):(n:Int).tmod 10=((n % 10:Nat):Int):=by
 rw[Int.tmod_eq_emod_of_nonneg j_];omega
theorem dig8 (n:Nat):IntKind.u8.wrap (48+((n % 10:Nat):Int))=((UInt8.ofNat (48+n % 10)).toNat:Int):=by
 rw[IntKind.wrap_u8]
 simp
theorem Ug (n:Nat):(revDigs n).reverse=(if n<10 then [] else (revDigs (n / 10)).reverse)++[UInt8.ofNat (48+n % 10)]:=by
 rw[revDigs.eq_1 n]
 split
 ·rw[Nat.mod_eq_of_lt (by assumption)];rfl
 ·rw[List.reverse_cons]
theorem Ju (l:List ByteArray) (sep:ByteArray):(D8 l sep).size≤Hb l+sep.size * l.length:=by
 have:=X9 (l.map (·.data.toList)) sep.data.toList
 have e:(l.map (·.data.toList)).map (·.length)=l.map (·.size):=by
  rw[List.map_map]
  apply List.map_congr_left
  intro a _
  rfl
 rw[e,List.length_map]at this
 have e2:(D8 l sep).size=(Lib.join (l.map (·.data.toList)) sep.data.toList).length:=by simp[D8,ByteArray.size]
 rw[e2]
 exact this
end Go.Sy.YtgblchnfjbkipaaGreatDoor
namespace Go.Sy.YtgblchnfjbkipaaGreatDoor
open Go.Proofs
attribute [local irreducible] Go.Sy.G Go.Sy.DR
set_option maxRecDepth 20000
set_option maxHeartbeats 4000000
theorem Xc (a b:List UInt8):mkT a++mkT b=mkT (a++b):=by
 apply K0
 simp[mkT]
theorem Uv (m:Nat):A8 m=mkT (revDigs m).reverse:=by rw[A8,U0]
end Go.Sy.YtgblchnfjbkipaaGreatDoor
namespace Go.Sy.YtgblchnfjbkipaaGreatDoor
open Go.Proofs
theorem Uz (m:Nat) (h:0<m):Aas (-(m:Int))=(revDigs m++[45]).reverse:=by
 rw[Aas,if_pos j_]
 have:(-(m:Int)).natAbs=m:=by omega
 rw[this]
set_option maxRecDepth 20000 in
theorem Uu (m:Nat) (h0:0<m) (hb:m≤9223372036854775808):Sy.Spec Tryz.prog 247 [Aa (-(m:Int))] [] (Ac (A8 (-(m:Int)))) []:=cT F247 Tryz.ntmps247 fun F hF=>by
 have hpos:=E2 m
 have hlen:=fun j=>Ic j m
 have hget:=fun j=>Id j m
 have hsh:(revDigs m).length≤20:=B5 19 m j_
 have w1:IntKind.u64.wrap (0-IntKind.u64.wrap (-(m:Int)))=m:=by rw[IntKind.wrap_u64,IntKind.wrap_u64];omega
 rw[A8,Uz m h0]
 generalize revDigs m=D at *
 ((conv=>whnf);repeat((first|refine aF ?_|refine aT ?_);(first|refine rG Γ hm ?_|refine rD Γ hm y_ ?_);conv=>whnf))
 refine⟨fun _=>?_,fun h=>absurd (of_decide_eq_false h) j_⟩
 refine Dg 3 1000 1 Al q_ q_ ?_
 ((first|refine rG Γ hm ?_|refine rD Γ hm y_ ?_);(conv=>whnf);repeat((first|refine aF ?_|refine aT ?_);(first|refine rG Γ hm ?_|refine rD Γ hm y_ ?_);conv=>whnf))
 refine Df D.length (fun j=>[(0,Aa (-(m:Int))),(3,.osl 1000),(4,Cy (m / 10 ^ j:Nat)),(5,Af (decide (j<D.length)))]) (fun j=>[(1000,.row 1 Al (D.take j))]) []
  ⟨⟨rfl,rfl,rfl,rfl,congrArg (fun z=>SV.val (.int .u64 z)) (by simpa using w1.symm),rfl,congrArg Af (decide_eq_true hpos),rfl,trivial⟩,⟨.inl rfl,rfl,trivial⟩,rfl,rfl⟩ ?_
 intro j hj
 ((first|refine rG Γ hm ?_|refine rD Γ hm y_ ?_);(conv=>whnf);repeat((first|refine aF ?_|refine aT ?_);(first|refine rG Γ hm ?_|refine rD Γ hm y_ ?_);conv=>whnf))
 refine⟨fun h=>?_,fun h=>?_⟩
 ·have hlt:j<D.length:=of_decide_eq_true h
  have hgj:=hget j hlt
  have hlj:=hlen j
  have e:m / 10 ^ (j+1)=m / 10 ^ j / 10:=by rw[Nat.div_div_eq_div_mul,Nat.pow_succ]
  have hq:m / 10 ^ j≤m:=Nat.div_le_self _ _
  rw[e]at hlj
  ((first|refine rG Γ hm ?_|refine rD Γ hm y_ ?_);(conv=>whnf);repeat((first|refine aF ?_|refine aT ?_);(first|refine rG Γ hm ?_|refine rD Γ hm y_ ?_);conv=>whnf))
  refine⟨by decide,?_⟩
  ((conv=>whnf);repeat((first|refine aF ?_|refine aT ?_);(first|refine rG Γ hm ?_|refine rD Γ hm y_ ?_);conv=>whnf))
  refine Cc (Ai Γ.toTy 23 q_ q_ q_ q_ q_ (.row q_) (.lit (l:=[D[j]]) q_ ?_) qd ?_ ?_) q_ q_ ?_
  ·rw[hgj]
   simp only[List.map_cons,List.map_nil,Al]
   congr 3
   generalize m / 10 ^ j=q at *
   rw[Int.tmod_eq_emod_of_nonneg (Int.natCast_nonneg _),IntKind.wrap_u64,IntKind.wrap_u8]
   simp
  ·simp;omega
  ·simp;omega
  ((first|refine rG Γ hm ?_|refine rD Γ hm y_ ?_);(conv=>whnf);repeat((first|refine aF ?_|refine aT ?_);(first|refine rG Γ hm ?_|refine rD Γ hm y_ ?_);conv=>whnf))
  refine⟨by decide,?_⟩
  ((conv=>whnf);repeat((first|refine aF ?_|refine aT ?_);(first|refine rG Γ hm ?_|refine rD Γ hm y_ ?_);conv=>whnf))
  refine Dk [(1000,23)] hlt ⟨⟨q_,q_,q_,q_,congrArg (fun z=>SV.val (.int .u64 z)) ?_,q_,congrArg Af ?_,q_,z_⟩,⟨.inl (congrArg (Ob.row 1 Al) (List.take_succ_eq_append_getElem hlt)),q_,z_⟩,q_,q_⟩
  ·rw[e,Int.tdiv_eq_ediv_of_nonneg (Int.natCast_nonneg _),IntKind.wrap_u64]
   generalize m / 10 ^ j=q at *
   omega
  ·rw[Int.tdiv_eq_ediv_of_nonneg (Int.natCast_nonneg _),IntKind.wrap_u64]
   generalize m / 10 ^ j=q at *
   refine decide_eq_decide.2 ?_
   omega
 ·have:j=D.length:=qB h
  subst this
  rw[List.take_length]
  ((first|refine rG Γ hm ?_|refine rD Γ hm y_ ?_);(conv=>whnf);repeat((first|refine aF ?_|refine aT ?_);(first|refine rG Γ hm ?_|refine rD Γ hm y_ ?_);conv=>whnf))
  refine⟨fun _=>?_,fun h=>absurd (of_decide_eq_false h) j_⟩
  ((first|refine rG Γ hm ?_|refine rD Γ hm y_ ?_);(conv=>whnf);repeat((first|refine aF ?_|refine aT ?_);(first|refine rG Γ hm ?_|refine rD Γ hm y_ ?_);conv=>whnf))
  refine Cc (Ai Γ.toTy 30 q_ q_ q_ q_ q_ (.row q_) (.lit (e:=Al) (l:=[45]) q_ q_) qd (by simp;omega) (by simp;omega)) q_ q_ ?_
  have hDl:(D++[45]).length=D.length+1:=by simp
  generalize D++[45]=D at *
  ((first|refine rG Γ hm ?_|refine rD Γ hm y_ ?_);(conv=>whnf);repeat((first|refine aF ?_|refine aT ?_);(first|refine rG Γ hm ?_|refine rD Γ hm y_ ?_);conv=>whnf))
  refine iL ?_
  ((conv=>whnf);repeat((first|refine aF ?_|refine aT ?_);(first|refine rG Γ hm ?_|refine rD Γ hm y_ ?_);conv=>whnf))
  refine Df (D.length / 2) (fun j=>[(3,.osl 1000),(6,Aa j),(7,Aa (D.length-1-j:Nat))]) (fun j=>[(1000,.row 1 Al (I4 D j))]) [(1000,30)]
   ⟨⟨rfl,rfl,rfl,rfl,congrArg (fun z=>SV.val (.int .i64 z)) j_,rfl,trivial⟩,⟨.inl (congrArg (Ob.row 1 Al) (Qz D)),rfl,trivial⟩,rfl,rfl⟩ ?_
  intro i hi
  have hul:=Bs D i
  ((first|refine rG Γ hm ?_|refine rD Γ hm y_ ?_);(conv=>whnf);repeat((first|refine aF ?_|refine aT ?_);(first|refine rG Γ hm ?_|refine rD Γ hm y_ ?_);conv=>whnf))
  refine⟨fun h2=>?_,fun h2=>?_⟩
  ·have hlt:2 * i+1<D.length:=by have:=of_decide_eq_true h2;omega
   obtain ⟨u,hu⟩:∃ u,I4 D i=u:=⟨_,rfl⟩
   obtain ⟨k,hk⟩:∃ k,D.length-1-i=k:=⟨_,rfl⟩
   rw[hu]at hul
   have hs:=Q0 hu hlt hk j_ j_
   rw[hu,hk]
   ((first|refine rG Γ hm ?_|refine rD Γ hm y_ ?_);(conv=>whnf);repeat((first|refine aF ?_|refine aT ?_);(first|refine rG Γ hm ?_|refine rD Γ hm y_ ?_);conv=>whnf))
   refine⟨by omega,by omega,?_⟩
   ((conv=>whnf);repeat((first|refine aF ?_|refine aT ?_);(first|refine rG Γ hm ?_|refine rD Γ hm y_ ?_);conv=>whnf))
   refine⟨q_,by omega,?_⟩
   ((conv=>whnf);repeat((first|refine aF ?_|refine aT ?_);(first|refine rG Γ hm ?_|refine rD Γ hm y_ ?_);conv=>whnf))
   refine⟨by omega,by omega,?_⟩
   ((conv=>whnf);repeat((first|refine aF ?_|refine aT ?_);(first|refine rG Γ hm ?_|refine rD Γ hm y_ ?_);conv=>whnf))
   refine⟨q_,by omega,?_⟩
   ((conv=>whnf);repeat((first|refine aF ?_|refine aT ?_);(first|refine rG Γ hm ?_|refine rD Γ hm y_ ?_);conv=>whnf))
   refine⟨by omega,by omega,?_⟩
   ((conv=>whnf);repeat((first|refine aF ?_|refine aT ?_);(first|refine rG Γ hm ?_|refine rD Γ hm y_ ?_);conv=>whnf))
   refine⟨q_,by omega,u[k],q_,q_,?_⟩
   ((conv=>whnf);repeat((first|refine aF ?_|refine aT ?_);(first|refine rG Γ hm ?_|refine rD Γ hm y_ ?_);conv=>whnf))
   refine⟨by omega,by simp;omega,?_⟩
   ((conv=>whnf);repeat((first|refine aF ?_|refine aT ?_);(first|refine rG Γ hm ?_|refine rD Γ hm y_ ?_);conv=>whnf))
   refine⟨q_,by simp;omega,u[i],q_,q_,?_⟩
   ((conv=>whnf);repeat((first|refine aF ?_|refine aT ?_);(first|refine rG Γ hm ?_|refine rD Γ hm y_ ?_);conv=>whnf))
   refine⟨y_,?_⟩
   ((conv=>whnf);repeat((first|refine aF ?_|refine aT ?_);(first|refine rG Γ hm ?_|refine rD Γ hm y_ ?_);conv=>whnf))
   refine iL ?_
   ((conv=>whnf);repeat((first|refine aF ?_|refine aT ?_);(first|refine rG Γ hm ?_|refine rD Γ hm y_ ?_);conv=>whnf))
   refine iL ?_
   ((conv=>whnf);repeat((first|refine aF ?_|refine aT ?_);(first|refine rG Γ hm ?_|refine rD Γ hm y_ ?_);conv=>whnf))
   refine Dk [] j_ ⟨⟨q_,q_,q_,q_,congrArg (fun z=>SV.val (.int .i64 z)) j_,q_,z_⟩,⟨.inl (congrArg (Ob.row 1 Al) hs.symm),q_,z_⟩,q_,q_⟩
  ·have h3:D.length≤2 * i+1:=by have:=of_decide_eq_false h2;omega
   rw[Uf D i h3]
   ((first|refine rG Γ hm ?_|refine rD Γ hm y_ ?_);(conv=>whnf);repeat((first|refine aF ?_|refine aT ?_);(first|refine rG Γ hm ?_|refine rD Γ hm y_ ?_);conv=>whnf))
   refine Cc (Ce Γ.toTy (bs:=D.reverse) q_ q_ q_ q_ q_ q_ q_ (.row q_)) q_ q_ ?_
   ((first|refine rG Γ hm ?_|refine rD Γ hm y_ ?_);(conv=>whnf);repeat((first|refine aF ?_|refine aT ?_);(first|refine rG Γ hm ?_|refine rD Γ hm y_ ?_);conv=>whnf))
   exact dN
end Go.Sy.YtgblchnfjbkipaaGreatDoor
namespace Go.Sy.YtgblchnfjbkipaaGreatDoor
open Go.Proofs
attribute [local irreducible] Go.Sy.G Go.Sy.DR
set_option maxRecDepth 20000
set_option maxHeartbeats 4000000
def Ch (n:Int):Prop:=-9223372036854775808≤n∧n<9223372036854775808
theorem Aar (m:Nat) (h:0<m):A8 (-(m:Int))=⟨#[45]⟩++A8 (m:Int):=by
 rw[A8,Uz m h,Uv,List.reverse_append]
 exact(Xc [45] _).symm
theorem D6 {n:Int} (h:Ch n):(A8 n).size≤22:=by
 have hs:∀ m:Nat,m<10 ^ 20→(A8 (m:Int)).size≤21:=fun m hm2=>by
  rw[Uv,Bt,List.length_reverse];exact B5 20 m hm2
 unfold Ch at h
 by_cases h0:0≤n
 ·obtain ⟨m,rfl⟩:=Int.eq_ofNat_of_zero_le h0
  have:=hs m j_
  omega
 ·obtain ⟨m,hmn⟩:∃ m:Nat,n=-(m:Int):=⟨n.natAbs,by omega⟩
  subst hmn
  have:=hs m j_
  rw[Aar m j_,ByteArray.size_append]
  show 1+_≤22
  omega
theorem Aw (n:Int) (h:Ch n):Sy.Spec Tryz.prog 247 [Aa n] [] (Ac (A8 n)) []:=by
 unfold Ch at h
 by_cases h0:0≤n
 ·obtain ⟨m,rfl⟩:=Int.eq_ofNat_of_zero_le h0
  exact Aaq m j_
 ·obtain ⟨m,hmn⟩:∃ m:Nat,n=-(m:Int):=⟨n.natAbs,by omega⟩
  subst hmn
  exact Uu m j_ j_
end Go.Sy.YtgblchnfjbkipaaGreatDoor
namespace Go.Sy.YtgblchnfjbkipaaGreatDoor
open Go.Proofs
attribute [local irreducible] Go.Sy.G Go.Sy.DR
set_option maxRecDepth 100000
set_option maxHeartbeats 4000000
theorem F233:Fun Tryz.prog 233 Tryz.f233 (O8 Tryz.f233):=⟨Tryz.func233,rfl,by kernel_rfl⟩
theorem F288:Fun Tryz.prog 288 Tryz.f288 (O8 Tryz.f288):=⟨Tryz.func288,rfl,by kernel_rfl⟩
theorem M5 (s p:ByteArray):Sy.Spec Tryz.prog 289 [Ac s,Ac p] [] (Ac (mkT (Lib.trimPrefix s.data.toList p.data.toList))) [] :=
 Spec.of_calls fun κ w vs hi hr _=>by
  simp only[RdL]at hr
  obtain ⟨v,r,rfl,h3,u,r',rfl,h4,rfl⟩:=hr
  have h3':v=.string s:=by simpa only [Ac,Rd] using h3
  have h4':u=.string p:=by simpa only [Ac,Rd] using h4
  subst h3' h4'
  exact(Tryz.strings_TrimPrefix s p w).mono fun e w' ⟨he,hw⟩=>⟨he,hw ▸ RowKit.Below.refl _ _⟩
theorem Xh (s:ByteArray) (c:UInt8) (m:Int) (hm:Lib.indexByte s.data.toList c=m):Sy.Spec Tryz.prog 288 [Ac s,Ac ⟨#[c]⟩] [] (Aa m) [] :=
 Spec.of_calls fun κ w vs hi hr _=>by
  subst hm
  simp only[RdL]at hr
  obtain ⟨v,r,rfl,h3,u,r',rfl,h4,rfl⟩:=hr
  have h3':v=.string s:=by simpa only [Ac,Rd] using h3
  have h4':u=.string ⟨#[c]⟩:=by simpa only [Ac,Rd] using h4
  subst h3' h4'
  exact(Tryz.stringslite_Index_one s c w).mono fun e w' ⟨he,hw⟩=>⟨he,hw ▸ RowKit.Below.refl _ _⟩
def cutT (c:UInt8) (s:ByteArray):ByteArray × ByteArray × Bool :=
 if 0≤Lib.indexByte s.data.toList c then (s.extract 0 (Ea c s.data.toList),s.extract (Ea c s.data.toList+1) s.size,true) else (s,⟨#[]⟩,false)
theorem Hu (l:List UInt8) (c:UInt8):Lib.indexByte l c<l.length:=by
 induction l with
 | nil=>simp[Lib.indexByte]
 | cons b l ih =>
  unfold Lib.indexByte
  rw[List.length_cons]
  split
  ·omega
  split
  ·omega
  ·omega
theorem Aax (s:ByteArray) (c:UInt8) (hs:s.size≤1000000000):Sy.Spec Tryz.prog 233 [Ac s,Ac ⟨#[c]⟩] [] (.tup [Ac (cutT c s).1,Ac (cutT c s).2.1,Af (cutT c s).2.2]) []:=cT F233 Tryz.ntmps233 fun F hF=>by
 have hres:=cutT.eq_1 c s
 generalize cutT c s=res at *
 have hlt:=Hu s.data.toList c
 have hsz:s.data.toList.length=s.size:=rfl
 have hid:Ea c s.data.toList=(Lib.indexByte s.data.toList c).toNat:=rfl
 obtain ⟨m,hmm⟩:∃ m,Lib.indexByte s.data.toList c=m:=⟨_,rfl⟩
 have q:=Xh s c m hmm
 rw[hmm]at hres hlt hid
 ((conv=>whnf);repeat((first|refine aF ?_|refine aT ?_);(first|refine rG Γ hm ?_|refine rD Γ hm y_ ?_);conv=>whnf))
 refine c0 q F288 ?_
 ((first|refine rG Γ hm ?_|refine rD Γ hm y_ ?_);(conv=>whnf);repeat((first|refine aF ?_|refine aT ?_);(first|refine rG Γ hm ?_|refine rD Γ hm y_ ?_);conv=>whnf))
 refine⟨fun h=>?_,fun h=>?_⟩
 ·have h0:0≤m:=of_decide_eq_true h
  rw[if_pos h0,hid]at hres
  have e1:(m+1).toNat=m.toNat+1:=by omega
  have hc1:(⟨#[c]⟩:ByteArray).size=1:=rfl
  subst hres
  ((first|refine rG Γ hm ?_|refine rD Γ hm y_ ?_);(conv=>whnf);repeat((first|refine aF ?_|refine aT ?_);(first|refine rG Γ hm ?_|refine rD Γ hm y_ ?_);conv=>whnf))
  refine⟨⟨by omega,by omega,by omega⟩,?_⟩
  ((conv=>whnf);repeat((first|refine aF ?_|refine aT ?_);(first|refine rG Γ hm ?_|refine rD Γ hm y_ ?_);conv=>whnf))
  refine⟨by show I64 (m+1);unfold I64;omega,?_⟩
  ((conv=>whnf);repeat((first|refine aF ?_|refine aT ?_);(first|refine rG Γ hm ?_|refine rD Γ hm y_ ?_);conv=>whnf))
  refine⟨⟨by omega,by omega,by omega⟩,?_⟩
  ((conv=>whnf);repeat((first|refine aF ?_|refine aT ?_);(first|refine rG Γ hm ?_|refine rD Γ hm y_ ?_);conv=>whnf))
  refine⟨y_,?_⟩
  ((conv=>whnf);repeat((first|refine aF ?_|refine aT ?_);(first|refine rG Γ hm ?_|refine rD Γ hm y_ ?_);conv=>whnf))
  refine Bo q_ (.cons .tmp (.cons .tmp (.cons .tmp .nil))) ?_ q_
  show SV.tup [Ac _,Ac (s.extract (m.toNat+1) s.size),_]=SV.tup [Ac _,Ac (s.extract (m+1).toNat _),_]
  rw[e1]
  rfl
 ·have h0:¬ 0≤m:=of_decide_eq_false h
  rw[if_neg h0]at hres
  subst hres
  ((first|refine rG Γ hm ?_|refine rD Γ hm y_ ?_);(conv=>whnf);repeat((first|refine aF ?_|refine aT ?_);(first|refine rG Γ hm ?_|refine rD Γ hm y_ ?_);conv=>whnf))
  exact dN
theorem Mt (s:ByteArray) (c:UInt8) (hs:s.size≤1000000000):Sy.Spec Tryz.prog 176 [Ac s,Ac ⟨#[c]⟩] [] (.tup [Ac (cutT c s).1,Ac (cutT c s).2.1,Af (cutT c s).2.2]) []:=cT F176 Tryz.ntmps176 fun F hF=>by
 have q:=Aax s c hs
 generalize cutT c s=res at *
 ((conv=>whnf);repeat((first|refine aF ?_|refine aT ?_);(first|refine rG Γ hm ?_|refine rD Γ hm y_ ?_);conv=>whnf))
 refine c0 q F233 ?_
 ((first|refine rG Γ hm ?_|refine rD Γ hm y_ ?_);(conv=>whnf);repeat((first|refine aF ?_|refine aT ?_);(first|refine rG Γ hm ?_|refine rD Γ hm y_ ?_);conv=>whnf))
 exact dN
def I6 (l:List UInt8):Int:=l.foldl (fun n c=>10 * n+((c.toNat:Int)-48)) 0
def U4 (s:ByteArray):Bool:=s.data.toList.head? == some 45
def Eg (s:ByteArray):List UInt8:=if U4 s=true then s.data.toList.drop 1 else s.data.toList
def numV (s:ByteArray):Int:=if U4 s=true then 0-I6 (Eg s) else I6 (Eg s)
def numR (s:ByteArray) (lo hi:Int):Int × Bool :=
 if (Eg s).length<1∨10<(Eg s).length then (0,false) else if (Eg s).all D1=false then (0,false)
 else if numV s<lo∨hi<numV s then (0,false) else if (A8 (numV s) == s)=true then (numV s,true) else (0,false)
theorem Sf (l:List UInt8) (c:UInt8):I6 (l++[c])=10 * I6 l+((c.toNat:Int)-48):=by
 rw[I6,List.foldl_append];rfl
theorem Yg:∀ (k:Nat) (l:List UInt8),l.length=k→(∀ c∈l,D1 c=true)→0≤I6 l∧I6 l<10 ^ k
 | 0,l,hl,_=>by
  rw[List.length_eq_zero_iff.1 hl]
  exact⟨Int.le_refl _,by decide⟩
 | k+1,l,hl,h=>by
  have hne:l≠[]:=fun e=>by rw[e]at hl;cases hl
  have e:=List.dropLast_concat_getLast hne
  have h1:=Yg k l.dropLast (by rw[List.length_dropLast];omega) fun c hc=>h c (List.dropLast_subset l hc)
  have h2:=h _ (List.getLast_mem hne)
  simp only[D1,Bool.and_eq_true,decide_eq_true_eq]at h2
  rw[← e,Sf,Int.pow_succ]
  omega
theorem Ab8 {l:List UInt8} (hl:l.length≤10) (h:∀ c∈l,D1 c=true):0≤I6 l∧I6 l<10000000000:=by
 have h1:=Yg _ l rfl h
 refine⟨h1.1,Int.lt_of_lt_of_le h1.2 ?_⟩
 have h2:(10:Nat) ^ l.length≤10 ^ 10:=Nat.pow_le_pow_right qc hl
 have h3:((10:Nat) ^ l.length:Int)≤((10 ^ 10:Nat):Int):=by exact_mod_cast h2
 simpa using h3
theorem Z3 (s:ByteArray):Lib.trimPrefix s.data.toList [45]=Eg s:=by
 unfold Lib.trimPrefix Eg U4
 cases s.data.toList with
 | nil=>simp[Lib.hasPrefix]
 | cons c l =>
  by_cases hc:c=45
  ·subst hc;simp[Lib.hasPrefix]
  ·simp[Lib.hasPrefix,hc,Ne.symm hc]
theorem M0 {s:ByteArray} {i:Nat} (h:i<s.data.toList.length):An s i=s.data.toList[i]:=by
 rw[An,List.getD_eq_getElem?_getD,List.getElem?_eq_getElem h];rfl
theorem Z1 {α:Type} {p:α→Bool} {l:List α} {j:Nat} (hI:Mr (fun _ x=>p x) l j):∀ c∈l.take j,p c=true:=by
 intro c hc
 obtain ⟨i,hi,rfl⟩:=List.mem_iff_getElem.1 hc
 rw[List.length_take]at hi
 rw[List.getElem_take]
 exact hI i j_ j_
theorem Lm {α:Type} {p:α→Bool} {l:List α} {j:Nat} (hI:Mr (fun _ x=>p x) l j) (hj:l.length≤j):l.all p=true:=by
 rw[List.all_eq_true]
 intro x hx
 obtain ⟨i,hi,rfl⟩:=List.mem_iff_getElem.1 hx
 exact hI i hi j_
theorem all_at' {α:Type} {p:α→Bool} {l:List α} {j:Nat} (hj:j<l.length) (h:p l[j]=false):l.all p=false:=by
 cases ha:l.all p
 ·rfl
 ·rw[List.all_eq_true]at ha
  rw[ha _ (List.getElem_mem hj)]at h;cases h
theorem u8_sub2 {c:UInt8} (h:D1 c=true):IntKind.i64.wrap (IntKind.u8.wrap ((c.toNat:Int)-48))=(c.toNat:Int)-48:=by
 simp only[D1,Bool.and_eq_true,decide_eq_true_eq]at h
 rw[IntKind.wrap_u8,IntKind.wrap_i64];omega
theorem neg_digs {s:ByteArray} (h:U4 s=true):(Eg s).length+1=s.size∧∀ j,j<(Eg s).length→An s (1+j)=(Eg s).getD j 0:=by
 have hsz:s.data.toList.length=s.size:=rfl
 rw[Eg,if_pos h]
 rw[U4]at h
 cases hd:s.data.toList with
 | nil=>rw[hd]at h;cases h
 | cons c l =>
  rw[hd]at hsz
  refine⟨by simp at hsz ⊢;omega,fun j hj=>?_⟩
  rw[An,hd,Nat.add_comm]
  rfl
theorem pos_digs {s:ByteArray} (h:U4 s=false):(Eg s).length=s.size∧∀ j,j<(Eg s).length→An s j=(Eg s).getD j 0:=by
 rw[Eg,if_neg (by simp[h])]
 exact⟨q_,fun j hj=>rfl⟩
theorem Ux (s:ByteArray) (lo hi:Int):Sy.Spec Tryz.prog 236 [Ac s,Aa lo,Aa hi] [] (.tup [Aa (numR s lo hi).1,Af (numR s lo hi).2]) []:=cT F236 Tryz.ntmps236 fun F hF=>by
 have hres:=numR.eq_1 s lo hi
 generalize numR s lo hi=res at *
 have q:=M5 s ⟨#[45]⟩
 rw[show (⟨#[45]⟩:ByteArray).data.toList=[45] from rfl,Z3]at q
 have hnv:=numV.eq_1 s
 have hng:=@neg_digs s
 have hps:=@pos_digs s
 generalize numV s=nv at *
 generalize hD:Eg s=D at *
 have hDs:(mkT D).size=D.length:=Bt D
 ((conv=>whnf);repeat((first|refine aF ?_|refine aT ?_);(first|refine rG Γ hm ?_|refine rD Γ hm y_ ?_);conv=>whnf))
 refine c0 q F289 ?_
 by_cases h1:D.length<1∨10<D.length
 ·rw[if_pos h1]at hres
  subst hres
  ((first|refine rG Γ hm ?_|refine rD Γ hm y_ ?_);(conv=>whnf);repeat((first|refine aF ?_|refine aT ?_);(first|refine rG Γ hm ?_|refine rD Γ hm y_ ?_);conv=>whnf))
  refine⟨fun h=>?_,fun h=>?_⟩
  ·((first|refine rG Γ hm ?_|refine rD Γ hm y_ ?_);(conv=>whnf);repeat((first|refine aF ?_|refine aT ?_);(first|refine rG Γ hm ?_|refine rD Γ hm y_ ?_);conv=>whnf))
   exact dN
  ·have h2:1≤D.length:=by
    cases D with
    | nil=>exact absurd (show (mkT [] == (⟨#[]⟩:ByteArray))=true from rfl) (by rw[show (mkT [] == (⟨#[]⟩:ByteArray))=false from h];simp)
    | cons=>simp
   ((first|refine rG Γ hm ?_|refine rD Γ hm y_ ?_);(conv=>whnf);repeat((first|refine aF ?_|refine aT ?_);(first|refine rG Γ hm ?_|refine rD Γ hm y_ ?_);conv=>whnf))
   refine⟨fun h=>?_,fun h=>?_⟩
   ·((first|refine rG Γ hm ?_|refine rD Γ hm y_ ?_);(conv=>whnf);repeat((first|refine aF ?_|refine aT ?_);(first|refine rG Γ hm ?_|refine rD Γ hm y_ ?_);conv=>whnf))
    exact dN
   ·exact absurd (of_decide_eq_false h) j_
 rw[if_neg h1]at hres
 have hne:(mkT D == (⟨#[]⟩:ByteArray))=false:=by
  cases he:(mkT D == (⟨#[]⟩:ByteArray))
  ·rfl
  ·have e:(mkT D).data=(⟨#[]⟩:ByteArray).data:=by simpa using (show ((mkT D).data == (⟨#[]⟩:ByteArray).data)=true from he)
   have:=congrArg Array.size e
   have e2:(mkT D).data.size=D.length:=hDs
   rw[e2]at this
   have e3:(⟨#[]⟩:ByteArray).data.size=0:=rfl
   omega
 ((first|refine rG Γ hm ?_|refine rD Γ hm y_ ?_);(conv=>whnf);repeat((first|refine aF ?_|refine aT ?_);(first|refine rG Γ hm ?_|refine rD Γ hm y_ ?_);conv=>whnf))
 refine⟨fun h=>absurd h (by rw[hne];simp),fun _=>?_⟩
 ((first|refine rG Γ hm ?_|refine rD Γ hm y_ ?_);(conv=>whnf);repeat((first|refine aF ?_|refine aT ?_);(first|refine rG Γ hm ?_|refine rD Γ hm y_ ?_);conv=>whnf))
 refine⟨fun h=>absurd (of_decide_eq_true h) j_,fun _=>?_⟩
 ((first|refine rG Γ hm ?_|refine rD Γ hm y_ ?_);(conv=>whnf);repeat((first|refine aF ?_|refine aT ?_);(first|refine rG Γ hm ?_|refine rD Γ hm y_ ?_);conv=>whnf))
 refine Bv D.length (fun j=>Mr (fun _ c=>D1 c) D j) (fun j=>[(0,Ac s),(1,Aa lo),(2,Aa hi),(8,Ac (mkT D)),(9,Aa (I6 (D.take j))),(21,Aa D.length),(22,Aa j)]) (fun _=>[]) [] (Ej _ _)
  ⟨⟨rfl,rfl,rfl,rfl,rfl,rfl,rfl,rfl,rfl,rfl,congrArg (fun z:Nat=>SV.val (.int .i64 z)) hDs.symm,rfl,rfl,rfl,trivial⟩,trivial,rfl,rfl⟩ ?_
 intro j hj hI
 have hv:=Ab8 (l:=D.take j) (by rw[List.length_take];omega) (Z1 hI)
 ((first|refine rG Γ hm ?_|refine rD Γ hm y_ ?_);(conv=>whnf);repeat((first|refine aF ?_|refine aT ?_);(first|refine rG Γ hm ?_|refine rD Γ hm y_ ?_);conv=>whnf))
 refine⟨fun h=>?_,fun h=>?_⟩
 ·have hlt:j<D.length:=qA h
  have hb:An (mkT D) ((j:Nat):Int).toNat=D[j]:=by
   have:j<(mkT D).data.toList.length:=by rw[Dv];exact hlt
   rw[Int.toNat_natCast,M0 this];simp[mkT]
  have hno:=fun h=>@all_at' _ D1 D j hlt h
  have hnx:=fun h=>D2 (p:=fun _ c=>D1 c) hI hlt h
  have hsucc:I6 (D.take (j+1))=10 * I6 (D.take j)+((D[j].toNat:Int)-48):=by rw[List.take_succ_eq_append_getElem hlt,Sf]
  have hu:=@u8_sub2 D[j]
  generalize D[j]=c at *
  generalize I6 (D.take j)=v at *
  have hc2:=c.toNat_lt
  ((first|refine rG Γ hm ?_|refine rD Γ hm y_ ?_);(conv=>whnf);repeat((first|refine aF ?_|refine aT ?_);(first|refine rG Γ hm ?_|refine rD Γ hm y_ ?_);conv=>whnf))
  refine⟨by omega,by omega,?_⟩
  rw[hb]
  ((conv=>whnf);repeat((first|refine aF ?_|refine aT ?_);(first|refine rG Γ hm ?_|refine rD Γ hm y_ ?_);conv=>whnf))
  refine⟨fun h2=>?_,fun h2=>?_⟩
  ·have h3:c.toNat<48:=by have:=of_decide_eq_true h2;omega
   rw[if_pos (hno (by rw[D1,decide_eq_false j_];rfl))]at hres
   subst hres
   ((first|refine rG Γ hm ?_|refine rD Γ hm y_ ?_);(conv=>whnf);repeat((first|refine aF ?_|refine aT ?_);(first|refine rG Γ hm ?_|refine rD Γ hm y_ ?_);conv=>whnf))
   exact dN
  have h2:=of_decide_eq_false h2
  ((first|refine rG Γ hm ?_|refine rD Γ hm y_ ?_);(conv=>whnf);repeat((first|refine aF ?_|refine aT ?_);(first|refine rG Γ hm ?_|refine rD Γ hm y_ ?_);conv=>whnf))
  refine⟨by omega,by omega,?_⟩
  rw[hb]
  ((conv=>whnf);repeat((first|refine aF ?_|refine aT ?_);(first|refine rG Γ hm ?_|refine rD Γ hm y_ ?_);conv=>whnf))
  refine⟨fun h3=>?_,fun h3=>?_⟩
  ·have h3:57<c.toNat:=by have:=of_decide_eq_true h3;omega
   rw[if_pos (hno (by rw[D1,decide_eq_false (by omega:¬ c.toNat≤57),Bool.and_false]))]at hres
   subst hres
   ((first|refine rG Γ hm ?_|refine rD Γ hm y_ ?_);(conv=>whnf);repeat((first|refine aF ?_|refine aT ?_);(first|refine rG Γ hm ?_|refine rD Γ hm y_ ?_);conv=>whnf))
   exact dN
  have h3:=of_decide_eq_false h3
  have hdg:D1 c=true:=by rw[D1,decide_eq_true j_,decide_eq_true j_];rfl
  have hu:=hu hdg
  ((first|refine rG Γ hm ?_|refine rD Γ hm y_ ?_);(conv=>whnf);repeat((first|refine aF ?_|refine aT ?_);(first|refine rG Γ hm ?_|refine rD Γ hm y_ ?_);conv=>whnf))
  refine⟨by show I64 (10 * v);unfold I64;omega,?_⟩
  ((conv=>whnf);repeat((first|refine aF ?_|refine aT ?_);(first|refine rG Γ hm ?_|refine rD Γ hm y_ ?_);conv=>whnf))
  refine⟨by omega,by omega,?_⟩
  rw[hb]
  ((conv=>whnf);repeat((first|refine aF ?_|refine aT ?_);(first|refine rG Γ hm ?_|refine rD Γ hm y_ ?_);conv=>whnf))
  rw[hu]
  refine⟨by show I64 (10 * v+((c.toNat:Int)-48));unfold I64;omega,?_⟩
  ((conv=>whnf);repeat((first|refine aF ?_|refine aT ?_);(first|refine rG Γ hm ?_|refine rD Γ hm y_ ?_);conv=>whnf))
  refine iL ?_
  ((conv=>whnf);repeat((first|refine aF ?_|refine aT ?_);(first|refine rG Γ hm ?_|refine rD Γ hm y_ ?_);conv=>whnf))
  exact By [] hI j_ (hnx hdg) ⟨⟨q_,q_,q_,q_,q_,q_,q_,q_,congrArg Aa hsucc,q_,q_,q_,q_,q_,z_⟩,z_,q_,q_⟩
 ·have hje:j=D.length:=qB h
  subst hje
  rw[if_neg (by rw[Lm hI (Nat.le_refl _)];simp)]at hres
  rw[List.take_length]at hv ⊢
  have fin:∀ nv:Int,nv=(if U4 s=true then 0-I6 D else I6 D)→(-10000000000<nv∧nv<10000000000)∧Ch nv:=fun nv h=>by
   unfold Ch
   split at h<;>omega
  have fn:=fin nv hnv
  have q2:=Aw nv fn.2
  have hs2:((mkT D).size:Int)=D.length:=by rw[hDs]
  cases hn:U4 s
  ·rw[hn,if_neg qd]at hnv
   have h4:=(hps hn).1
   rw[← hnv]
   ((first|refine rG Γ hm ?_|refine rD Γ hm y_ ?_);(conv=>whnf);repeat((first|refine aF ?_|refine aT ?_);(first|refine rG Γ hm ?_|refine rD Γ hm y_ ?_);conv=>whnf))
   refine⟨fun h=>absurd (of_decide_eq_true h) j_,fun _=>?_⟩
   ((first|refine rG Γ hm ?_|refine rD Γ hm y_ ?_);(conv=>whnf);repeat((first|refine aF ?_|refine aT ?_);(first|refine rG Γ hm ?_|refine rD Γ hm y_ ?_);conv=>whnf))
   refine⟨fun h=>?_,fun h=>?_⟩
   ·rw[if_pos (.inl (of_decide_eq_true h))]at hres
    subst hres
    ((first|refine rG Γ hm ?_|refine rD Γ hm y_ ?_);(conv=>whnf);repeat((first|refine aF ?_|refine aT ?_);(first|refine rG Γ hm ?_|refine rD Γ hm y_ ?_);conv=>whnf))
    exact dN
   have h5:=of_decide_eq_false h
   ((first|refine rG Γ hm ?_|refine rD Γ hm y_ ?_);(conv=>whnf);repeat((first|refine aF ?_|refine aT ?_);(first|refine rG Γ hm ?_|refine rD Γ hm y_ ?_);conv=>whnf))
   refine⟨fun h=>?_,fun h=>?_⟩
   ·rw[if_pos (.inr (of_decide_eq_true h))]at hres
    subst hres
    ((first|refine rG Γ hm ?_|refine rD Γ hm y_ ?_);(conv=>whnf);repeat((first|refine aF ?_|refine aT ?_);(first|refine rG Γ hm ?_|refine rD Γ hm y_ ?_);conv=>whnf))
    exact dN
   have h6:=of_decide_eq_false h
   rw[if_neg j_]at hres
   ((first|refine rG Γ hm ?_|refine rD Γ hm y_ ?_);(conv=>whnf);repeat((first|refine aF ?_|refine aT ?_);(first|refine rG Γ hm ?_|refine rD Γ hm y_ ?_);conv=>whnf))
   refine c0 q2 F247 ?_
   cases he:(A8 nv == s)
   ·rw[he,if_neg qd]at hres
    subst hres
    ((first|refine rG Γ hm ?_|refine rD Γ hm y_ ?_);(conv=>whnf);repeat((first|refine aF ?_|refine aT ?_);(first|refine rG Γ hm ?_|refine rD Γ hm y_ ?_);conv=>whnf))
    refine⟨fun _=>?_,fun h=>absurd h (by rw[he];simp)⟩
    ((first|refine rG Γ hm ?_|refine rD Γ hm y_ ?_);(conv=>whnf);repeat((first|refine aF ?_|refine aT ?_);(first|refine rG Γ hm ?_|refine rD Γ hm y_ ?_);conv=>whnf))
    exact dN
   ·rw[he,if_pos rfl]at hres
    subst hres
    ((first|refine rG Γ hm ?_|refine rD Γ hm y_ ?_);(conv=>whnf);repeat((first|refine aF ?_|refine aT ?_);(first|refine rG Γ hm ?_|refine rD Γ hm y_ ?_);conv=>whnf))
    refine⟨fun h=>absurd h (by rw[he];simp),fun _=>?_⟩
    ((first|refine rG Γ hm ?_|refine rD Γ hm y_ ?_);(conv=>whnf);repeat((first|refine aF ?_|refine aT ?_);(first|refine rG Γ hm ?_|refine rD Γ hm y_ ?_);conv=>whnf))
    exact dN
  ·rw[hn,if_pos rfl]at hnv
   have h4:=(hng hn).1
   have hw:IntKind.i64.wrap (0-I6 D)=nv:=by rw[IntKind.wrap_i64];omega
   ((first|refine rG Γ hm ?_|refine rD Γ hm y_ ?_);(conv=>whnf);repeat((first|refine aF ?_|refine aT ?_);(first|refine rG Γ hm ?_|refine rD Γ hm y_ ?_);conv=>whnf))
   refine⟨fun _=>?_,fun h=>absurd (of_decide_eq_false h) j_⟩
   ((first|refine rG Γ hm ?_|refine rD Γ hm y_ ?_);(conv=>whnf);repeat((first|refine aF ?_|refine aT ?_);(first|refine rG Γ hm ?_|refine rD Γ hm y_ ?_);conv=>whnf))
   rw[hw]
   refine⟨fun h=>?_,fun h=>?_⟩
   ·rw[if_pos (.inl (of_decide_eq_true h))]at hres
    subst hres
    ((first|refine rG Γ hm ?_|refine rD Γ hm y_ ?_);(conv=>whnf);repeat((first|refine aF ?_|refine aT ?_);(first|refine rG Γ hm ?_|refine rD Γ hm y_ ?_);conv=>whnf))
    exact dN
   have h5:=of_decide_eq_false h
   ((first|refine rG Γ hm ?_|refine rD Γ hm y_ ?_);(conv=>whnf);repeat((first|refine aF ?_|refine aT ?_);(first|refine rG Γ hm ?_|refine rD Γ hm y_ ?_);conv=>whnf))
   refine⟨fun h=>?_,fun h=>?_⟩
   ·rw[if_pos (.inr (of_decide_eq_true h))]at hres
    subst hres
    ((first|refine rG Γ hm ?_|refine rD Γ hm y_ ?_);(conv=>whnf);repeat((first|refine aF ?_|refine aT ?_);(first|refine rG Γ hm ?_|refine rD Γ hm y_ ?_);conv=>whnf))
    exact dN
   have h6:=of_decide_eq_false h
   rw[if_neg j_]at hres
   ((first|refine rG Γ hm ?_|refine rD Γ hm y_ ?_);(conv=>whnf);repeat((first|refine aF ?_|refine aT ?_);(first|refine rG Γ hm ?_|refine rD Γ hm y_ ?_);conv=>whnf))
   refine c0 q2 F247 ?_
   cases he:(A8 nv == s)
   ·rw[he,if_neg qd]at hres
    subst hres
    ((first|refine rG Γ hm ?_|refine rD Γ hm y_ ?_);(conv=>whnf);repeat((first|refine aF ?_|refine aT ?_);(first|refine rG Γ hm ?_|refine rD Γ hm y_ ?_);conv=>whnf))
    refine⟨fun _=>?_,fun h=>absurd h (by rw[he];simp)⟩
    ((first|refine rG Γ hm ?_|refine rD Γ hm y_ ?_);(conv=>whnf);repeat((first|refine aF ?_|refine aT ?_);(first|refine rG Γ hm ?_|refine rD Γ hm y_ ?_);conv=>whnf))
    exact dN
   ·rw[he,if_pos rfl]at hres
    subst hres
    ((first|refine rG Γ hm ?_|refine rD Γ hm y_ ?_);(conv=>whnf);repeat((first|refine aF ?_|refine aT ?_);(first|refine rG Γ hm ?_|refine rD Γ hm y_ ?_);conv=>whnf))
    refine⟨fun h=>absurd h (by rw[he];simp),fun _=>?_⟩
    ((first|refine rG Γ hm ?_|refine rD Γ hm y_ ?_);(conv=>whnf);repeat((first|refine aF ?_|refine aT ?_);(first|refine rG Γ hm ?_|refine rD Γ hm y_ ?_);conv=>whnf))
    exact dN
theorem Dw:∀ (l:List UInt8) (c:UInt8),-1≤Lib.indexByte l c
 | [],_=>by simp[Lib.indexByte]
 | b::l,c=>by
  unfold Lib.indexByte
  have:=Dw l c
  split
  ·omega
  split
  ·omega
  ·omega
def B9:List UInt8→List UInt8→List ByteArray
 | cur,[]=>if cur=[] then [] else [mkT cur]
 | cur,c::r=>if c=10 then mkT cur::B9 [] r else B9 (cur++[c]) r
def rowsT (b:List UInt8):List ByteArray × Int :=
 if 20000<b.length then ([],3) else if 400<(B9 [] b).length then ([],3) else (B9 [] b,0)
theorem Lw:∀ (l cur:List UInt8),Lib.indexByte l 10=-1→B9 cur l=if cur++l=[] then [] else [mkT (cur++l)]
 | [],cur,_=>by rw[B9,List.append_nil]
 | c::l,cur,h=>by
  unfold Lib.indexByte at h
  by_cases hc:(c == 10)=true
  ·rw[if_pos hc]at h;omega
  rw[if_neg hc]at h
  have hi:Lib.indexByte l 10=-1:=by
   by_cases h1:(Lib.indexByte l 10 == -1)=true
   ·simpa using h1
   ·rw[if_neg h1]at h
    have:=Dw l 10
    omega
  rw[B9,if_neg (by simpa using hc),Lw l _ hi]
  simp
theorem Lv:∀ (l cur:List UInt8),0≤Lib.indexByte l 10→B9 cur l=mkT (cur++l.take (Lib.indexByte l 10).toNat)::B9 [] (l.drop ((Lib.indexByte l 10).toNat+1))
 | [],cur,h=>by simp[Lib.indexByte]at h
 | c::l,cur,h=>by
  unfold Lib.indexByte at h ⊢
  by_cases hc:(c == 10)=true
  ·rw[if_pos hc,B9,if_pos (by simpa using hc)]
   simp
  rw[if_neg hc]at h ⊢
  by_cases h1:(Lib.indexByte l 10 == -1)=true
  ·rw[if_pos h1]at h;omega
  rw[if_neg h1]at h ⊢
  have:=Dw l 10
  have h2:0≤Lib.indexByte l 10:=by
   have h3:Lib.indexByte l 10≠-1:=by simpa using h1
   omega
  have e:(Lib.indexByte l 10+1).toNat=(Lib.indexByte l 10).toNat+1:=by omega
  rw[B9,if_neg (by simpa using hc),Lv l _ h2,e]
  simp
theorem Wx {l:List UInt8} (h:l≠[]):B9 [] l=(cutT 10 (mkT l)).1::B9 [] (cutT 10 (mkT l)).2.1.data.toList∧(cutT 10 (mkT l)).2.1.data.toList.length<l.length:=by
 have hpos:=List.length_pos_iff.2 h
 have hlt:=Hu l 10
 have hge:=Dw l 10
 have e0:(mkT l).size=l.length:=Bt l
 rw[cutT,Dv]
 split
 ·rename_i h0
  dsimp only
  rw[Lv l [] h0,B2,B2,Dv,e0,List.take_length]
  refine⟨q_,?_⟩
  rw[List.length_drop]
  omega
 ·rename_i h0
  dsimp only
  rw[Lw l [] j_,List.nil_append,if_neg h]
  exact⟨q_,hpos⟩
theorem Y8 (l:List UInt8):(mkT l == ⟨#[]⟩)=decide (l=[]):=by
 cases l with
 | nil=>rfl
 | cons c l =>
  rw[decide_eq_false qd]
  cases he:(mkT (c::l) == (⟨#[]⟩:ByteArray))
  ·rfl
  ·have e:(mkT (c::l)).data=(⟨#[]⟩:ByteArray).data:=by simpa using (show ((mkT (c::l)).data == (⟨#[]⟩:ByteArray).data)=true from he)
   have:=congrArg Array.size e
   simp[mkT]at this
theorem Ze (b:List UInt8) (hb:b.length≤1000000):Sy.Spec Tryz.prog 109 [.sl 1 Al b] [] (.tup [.sl 1 Ac (rowsT b).1,Aa (rowsT b).2]) []:=cT F109 Tryz.ntmps109 fun F hF=>by
 have hres:=rowsT.eq_1 b
 generalize rowsT b=res at *
 ((conv=>whnf);repeat((first|refine aF ?_|refine aT ?_);(first|refine rG Γ hm ?_|refine rD Γ hm y_ ?_);conv=>whnf))
 refine⟨fun h=>?_,fun h=>?_⟩
 ·rw[if_pos (qA h)]at hres
  subst hres
  ((first|refine rG Γ hm ?_|refine rD Γ hm y_ ?_);(conv=>whnf);repeat((first|refine aF ?_|refine aT ?_);(first|refine rG Γ hm ?_|refine rD Γ hm y_ ?_);conv=>whnf))
  refine Bw 2 1 Ac q_ ?_
  ((first|refine rG Γ hm ?_|refine rD Γ hm y_ ?_);(conv=>whnf);repeat((first|refine aF ?_|refine aT ?_);(first|refine rG Γ hm ?_|refine rD Γ hm y_ ?_);conv=>whnf))
  exact dN
 rw[if_neg (qB h)]at hres
 ((first|refine rG Γ hm ?_|refine rD Γ hm y_ ?_);(conv=>whnf);repeat((first|refine aF ?_|refine aT ?_);(first|refine rG Γ hm ?_|refine rD Γ hm y_ ?_);conv=>whnf))
 refine Cc (Ce Γ.toTy (bs:=b) q_ q_ q_ q_ q_ q_ q_ .sl) q_ q_ ?_
 refine Dg 4 1000 1 Ac q_ q_ ?_
 ((first|refine rG Γ hm ?_|refine rD Γ hm y_ ?_);(conv=>whnf);repeat((first|refine aF ?_|refine aT ?_);(first|refine rG Γ hm ?_|refine rD Γ hm y_ ?_);conv=>whnf))
 refine A7 (fun x:List ByteArray × List UInt8=>B9 [] b=x.1++B9 [] x.2∧x.1.length+x.2.length≤b.length) (fun x=>[(4,.osl 1000),(5,Ac (mkT x.2))]) (fun x=>[(1000,.row 1 Ac x.1)]) (fun x=>x.2.length) ([],b) [] ⟨q_,by simp⟩
  ⟨⟨rfl,rfl,rfl,rfl,trivial⟩,⟨.inl rfl,rfl,trivial⟩,rfl,rfl⟩ ?_
 rintro ⟨out,rest⟩ ⟨hI,hlen⟩
 dsimp only at hI hlen ⊢
 have hemp:=Y8 rest
 ((first|refine rG Γ hm ?_|refine rD Γ hm y_ ?_);(conv=>whnf);repeat((first|refine aF ?_|refine aT ?_);(first|refine rG Γ hm ?_|refine rD Γ hm y_ ?_);conv=>whnf))
 by_cases hr:rest=[]
 ·rw[decide_eq_true hr]at hemp
  refine⟨fun h=>absurd h (by rw[hemp];simp),fun _=>?_⟩
  have hro:B9 [] b=out:=by rw[hI,hr];simp[B9]
  rw[hro]at hres
  ((first|refine rG Γ hm ?_|refine rD Γ hm y_ ?_);(conv=>whnf);repeat((first|refine aF ?_|refine aT ?_);(first|refine rG Γ hm ?_|refine rD Γ hm y_ ?_);conv=>whnf))
  refine⟨fun h=>?_,fun h=>?_⟩
  ·rw[if_pos (qA h)]at hres
   subst hres
   ((first|refine rG Γ hm ?_|refine rD Γ hm y_ ?_);(conv=>whnf);repeat((first|refine aF ?_|refine aT ?_);(first|refine rG Γ hm ?_|refine rD Γ hm y_ ?_);conv=>whnf))
   refine Bw 2 1 Ac q_ ?_
   ((first|refine rG Γ hm ?_|refine rD Γ hm y_ ?_);(conv=>whnf);repeat((first|refine aF ?_|refine aT ?_);(first|refine rG Γ hm ?_|refine rD Γ hm y_ ?_);conv=>whnf))
   exact dN
  ·rw[if_neg (qB h)]at hres
   subst hres
   refine Bf 1000 q_ ?_
   ((first|refine rG Γ hm ?_|refine rD Γ hm y_ ?_);(conv=>whnf);repeat((first|refine aF ?_|refine aT ?_);(first|refine rG Γ hm ?_|refine rD Γ hm y_ ?_);conv=>whnf))
   exact dN
 ·rw[decide_eq_false hr]at hemp
  refine⟨fun _=>?_,fun h=>absurd h (by rw[hemp];simp)⟩
  obtain ⟨hc,hlt⟩:=Wx hr
  have q:=Mt (mkT rest) 10 (by rw[Bt];omega)
  obtain ⟨⟨row,rs,more⟩,hct⟩:∃ p,cutT 10 (mkT rest)=p:=⟨_,rfl⟩
  rw[hct]at q hc hlt
  dsimp only at q hc hlt
  have hrz:rs.data.toList.length=rs.size:=rfl
  ((first|refine rG Γ hm ?_|refine rD Γ hm y_ ?_);(conv=>whnf);repeat((first|refine aF ?_|refine aT ?_);(first|refine rG Γ hm ?_|refine rD Γ hm y_ ?_);conv=>whnf))
  refine c0 q F176 ?_
  ((first|refine rG Γ hm ?_|refine rD Γ hm y_ ?_);(conv=>whnf);repeat((first|refine aF ?_|refine aT ?_);(first|refine rG Γ hm ?_|refine rD Γ hm y_ ?_);conv=>whnf))
  refine Cc (Ai Γ.toTy 23 q_ q_ q_ q_ q_ (.row q_) (.lit (e:=Ac) (l:=[row]) q_ q_) qd (by simp;omega) (by simp;omega)) q_ q_ ?_
  ((first|refine rG Γ hm ?_|refine rD Γ hm y_ ?_);(conv=>whnf);repeat((first|refine aF ?_|refine aT ?_);(first|refine rG Γ hm ?_|refine rD Γ hm y_ ?_);conv=>whnf))
  refine As (out++[row],rs.data.toList) [(1000,23)] ⟨by rw[hI,hc];simp,by simp;omega⟩ (by dsimp only;omega) ⟨⟨q_,q_,congrArg Ac (Du rs),q_,z_⟩,⟨.inl q_,q_,z_⟩,q_,q_⟩
end Go.Sy.YtgblchnfjbkipaaGreatDoor
namespace Go.Sy.YtgblchnfjbkipaaGreatDoor
open Go.Proofs
attribute [local irreducible] Go.Sy.G Go.Sy.DR
set_option maxRecDepth 20000
set_option maxHeartbeats 4000000
mutual
theorem De {K:List Nat}:∀ x:SV,x.inn []=true→x.inn K=true
 | .ptr _ _,h=>by simp[SV.inn,Hq]at h
 | .rpt _ _ _ _,h=>by simp[SV.inn,Hq]at h
 | .osl _,h=>by simp[SV.inn,Hq]at h
 | .agg l,h=>by simp only[SV.inn]at h ⊢;exact Ik l h
 | .tup l,h=>by simp only[SV.inn]at h ⊢;exact Ik l h
 | .ifc _ x,h=>by simp only[SV.inn]at h ⊢;exact De x h
 | .clo _ f l,h=>by simp only[SV.inn,Bool.and_eq_true]at h ⊢;exact⟨Ik f h.1,Ik l h.2⟩
 | .top,_=>rfl
 | .val _,_=>rfl
 | .sl _ _ _,_=>rfl
 | .ref _ _ _,_=>rfl
theorem Ik {K:List Nat}:∀ l:List SV,Be [] l=true→Be K l=true
 | [],_=>rfl
 | x::l,h=>by simp only[Be,Bool.and_eq_true]at h ⊢;exact⟨De x h.1,Ik l h.2⟩
end
end Go.Sy.YtgblchnfjbkipaaGreatDoor
namespace Go.Sy.YtgblchnfjbkipaaGreatDoor
theorem G_vw {C:Cx} {k:List KI} {s:SS} (d:Nat) (x:SV) (h:Vw s [] (s.σ d) x) (hg:G C k ⟨upd s.σ d x,s.h⟩):G C k s:=fun κ a w hs =>
 hg κ a w ⟨hs.defers,hs.size,hs.inv,hs.ctx,fun i=>by
  show Rd κ w (upd s.σ d x i) _
  by_cases hi:i=d
  ·subst hi;rw[Bc];exact Vw.rd hs.inv (fun _ hn=>by cases hn) h (hs.slot i)
  ·rw[Bz _ _ hi];exact hs.slot i,hs.obj⟩
end Go.Sy.YtgblchnfjbkipaaGreatDoor
